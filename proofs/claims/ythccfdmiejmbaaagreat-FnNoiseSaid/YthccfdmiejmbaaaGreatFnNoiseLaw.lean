/-
  The law FnNoise returns true whatever the arguments, and the arguments read as they did: every input of the row, no further condition.
-/
import Derived.Test.YthccfdmiejmbaaaGreatRows
import Derived.Test.YthccfdmiejmbaaaGreatP1
import Derived.Test.YthccfdmiejmbaaaGreatG7
import Derived.KernelRfl
namespace Go.Proofs.YthccfdmiejmbaaaGreat
open Go.ChangeShapes Go.WideShapes Go.ChangeAt Go.RowKit
set_option maxHeartbeats 4000000
theorem own:ownKnob Tryz.prog.godebug=none:=by kernel_rfl
theorem laidOut:laidOutB Tryz.prog=true:=by kernel_rfl
set_option linter.unusedVariables false
theorem Bls (d:No U9) (hw:WfA U9 d) (hq: ∀r,Hy d.1=some r->wfB r.2.2.2.1):(Va d.1).val=some (true,()):=by
 have h:Wy [.sl 5 [.int .u8]] d.1/\True:=hw
 exact Bsg d.1 hq
theorem wfB_of {l:List YB} (h:wfD (.sl 5 [.int .u8]) l):wfB l:=fun i x hx=>by
 simp only[wfD]at h
 have h1:=h.2 i x hx
 simp only[Wy,wfD]at h1
 have h2:=h1.1
 simp[Lit.wf,IntKind.min,IntKind.max,IntKind.signed,IntKind.bits]at h2
 omega
theorem mapsR:mapsRowed Tryz.prog=true:=by kernel_rfl
theorem ent:Program.mayEnter Tryz.prog=true:=by kernel_rfl
theorem hea:Program.stopsHeard Tryz.prog=true:=by kernel_rfl
namespace FnNoiseL
section
set_option maxRecDepth 100000
theorem k0:(Rows.fnNoiseRow.inPlace==Tryz.prog.inPlace 3)=true:=by kernel_rfl
theorem k1:(Rows.fnNoiseRow.unfollowed==Tryz.prog.unfollowed 3)=true:=by kernel_rfl
theorem k2:(Rows.fnNoiseRow.recurses==Tryz.prog.recurses 3)=true:=by kernel_rfl
theorem k3:(Rows.fnNoiseRow.named==Tryz.prog.varsNamed 3)=true:=by kernel_rfl
theorem k4:(Rows.fnNoiseRow.plainKeys==Tryz.prog.plainKeys)=true:=by kernel_rfl
theorem k5:(Rows.fnNoiseRow.lifted==Tryz.prog.liftsFinal)=true:=by kernel_rfl
theorem closed:joinedFacts Tryz.prog 3 Tryz.f3 Rows.fnNoiseSpec Rows.fnNoiseRow=true:=by
 unfold joinedFacts
 rw[laidOut,mapsR,k0,k1,k2,k3,k4,k5,ent,hea]
 kernel_rfl
theorem nm:Tryz.pinned.checked.prog.funcNamed Rows.fnNoiseRow.func=some 3:=by kernel_rfl
end
set_option maxRecDepth 100000 in
theorem lifted (os:Os) (started:os.Started) (H:Type) (enc:TypeId×Value->H):
  ReturnsInHanded {} Tryz.checked os 3 .any (Rows.fnNoiseSpec.pre6 enc Tryz.prog Tryz.f3 Rows.fnNoiseRow.domain false) (Rows.fnNoiseSpec.post enc Tryz.prog Tryz.f3 false true false false):=by
 refine returnsInHanded_of_change (C:=Tryz.checked) own started (by kernel_rfl) Tryz.func3
  (ChangeSpec.witness6 (enc:=enc) (C:=Tryz.checked) false ⟨#[],#[.slice none 0 0],[]⟩ 8 (by kernel_rfl) (by kernel_rfl) (by kernel_rfl) (by kernel_rfl)) ?_
 intro W base args ds gs before hval0 hW hcnd _
 have hval: ∀(j:Nat) t v,Tryz.f3.params[j]? =some t->args[j]? =some v->Value.okWide Tryz.prog W .any base t v:=hval0
 have hW':=hW
 obtain⟨p,q,hA0,hV,rfl,hfz,hnd⟩:=hW
 have hA:DataW.TrodAll enc Tryz.prog W 0 (fun _=>true) true Tryz.f3.params.toList args.toList ds p:=hA0
 have hAk:DataW.TrodAll enc Tryz.prog W 0 (fun _=>true) true Tryz.f3.params.toList args.toList ds p:=hA0
 rw[Tryz.params3]at hA hval hAk
 obtain⟨v0,vs0,d0,ds0,p0,q0,hargs0,rfl,rfl,h0,r0⟩:=trodAll_cons hA
 obtain⟨rfl,rfl,rfl⟩:=trodAll_nil r0
 obtain rfl:args= #[v0]:=by cases args;simp_all
 obtain⟨rfl,rfl⟩:=trodVars_none hV
 simp only[List.append_nil]at hW'
 have hlt:=DataW.TrodAll.lt hAk
 obtain⟨x0,y0⟩:=Bxg (P:=Tryz.prog) (t:=22) (p:=g_0) (by kernel_rfl) (hval 0 22 v0 rfl rfl) h0
 have hq: ∀r,Hy x0=some r->wfB r.2.2.2.1:=fun r hr=>wfB_of (Bwb (ps:=[g_0]) (V:=(fun d=>(Mu d.1).val)) (d:=(x0,())) (vs:=[v0]) Abc ⟨y0,trivial⟩ hr (p1:=Hk) (p2:=g_3) (qs:=[Ev,g_0]) (q:=(r.1,r.2.1,r.2.2.1,r.2.2.2,())) rfl).2.2.2.1.1
 have key:Calls Tryz.prog 3 #[v0] W (Ret W (.bool true)):=Bsh (ps:=U9) (V:=fun d=>(Va d.1).val) (rvs:=A23) Bhe rfl (d:=(x0,())) (vs:=[v0]) (Bls (x0,()) ((show RVa (C9 (N4 W)) (mkA U9 (x0,())) [v0]from⟨y0,trivial⟩).wf) hq) ⟨y0,trivial⟩
 refine key.mono fun e W' hR=>?_
 obtain⟨he,hg⟩:=hR
 have hB:=hg.below
 refine⟨_,he,_,_,_,[],p0++([]),[],hW',?_,?_,rfl,hB.frame _,fun h=>by cases h⟩
 .exact trodAll_mk1 (shut_bool Tryz.underlying4 _)
 .refine Awp laidOut hB (fun t ht=>?_) hAk hlt
  have ht2:t∈[22]:=by rw[Tryz.params3]at ht;exact ht
  simp only[List.mem_cons,List.not_mem_nil,or_false]at ht2
  rcases ht2 with rfl
  all_goals exact⟨by kernel_rfl,of_decide_eq_true (by kernel_rfl)⟩
theorem proved:Rows.FnNoiseSaid:=
 OpenClaim.holds_of_wide 3 Tryz.f3 rfl rfl rfl rfl rfl rfl rfl ⟨rfl,rfl,rfl,rfl,rfl⟩ rfl rfl rfl rfl rfl nm Tryz.func3 closed
  (of_decide_eq_true (by kernel_rfl)) (by unfold Func.isWrapper;first|(rw[if_pos (by decide+kernel)];kernel_rfl)|(rw[if_neg (by decide+kernel)];exact⟨rfl,rfl⟩))
  (fun os started H enc _=>lifted os started H enc)
end FnNoiseL
end Go.Proofs.YthccfdmiejmbaaaGreat

/-
  The law FnServers returns true whatever the arguments, and the arguments read as they did: every input of the row, no further condition.
-/
import Derived.Test.YtnbbbaplphcebaaGreatRows
import Derived.Test.YtnbbbaplphcebaaGreatP1
import Derived.Test.YtnbbbaplphcebaaGreatG6
import Derived.KernelRfl
namespace Go.Proofs.YtnbbbaplphcebaaGreat
open Go.ChangeShapes Go.WideShapes Go.ChangeAt Go.RowKit
set_option maxHeartbeats 4000000
theorem own:ownKnob Tryz.prog.godebug=none:=by kernel_rfl
theorem laidOut:laidOutB Tryz.prog=true:=by kernel_rfl
set_option linter.unusedVariables false
theorem Bag (d:M9 Mc) (hw:WfA Mc d) (hq: ∀r,K8 d.1=some r->wfB r.2.2.2.1):(Md d.1).val=some (true,()):=by
 have h:Vz [.sl 5 [.int .u8]] d.1/\True:=hw
 exact Bgm d.1 hq
theorem wfB_of {l:List YB} (h:wfD (.sl 5 [.int .u8]) l):wfB l:=fun i x hx=>by
 simp only[wfD]at h
 have h1:=h.2 i x hx
 simp only[Vz,wfD]at h1
 have h2:=h1.1
 simp[Lit.wf,IntKind.min,IntKind.max,IntKind.signed,IntKind.bits]at h2
 omega
theorem mapsR:mapsRowed Tryz.prog=true:=by kernel_rfl
theorem ent:Program.mayEnter Tryz.prog=true:=by kernel_rfl
theorem hea:Program.stopsHeard Tryz.prog=true:=by kernel_rfl
namespace FnServersL
section
set_option maxRecDepth 100000
theorem k0:(Rows.fnServersRow.inPlace==Tryz.prog.inPlace 3)=true:=by kernel_rfl
theorem k1:(Rows.fnServersRow.unfollowed==Tryz.prog.unfollowed 3)=true:=by kernel_rfl
theorem k2:(Rows.fnServersRow.recurses==Tryz.prog.recurses 3)=true:=by kernel_rfl
theorem k3:(Rows.fnServersRow.named==Tryz.prog.varsNamed 3)=true:=by kernel_rfl
theorem k4:(Rows.fnServersRow.plainKeys==Tryz.prog.plainKeys)=true:=by kernel_rfl
theorem k5:(Rows.fnServersRow.lifted==Tryz.prog.liftsFinal)=true:=by kernel_rfl
theorem closed:joinedFacts Tryz.prog 3 Tryz.f3 Rows.fnServersSpec Rows.fnServersRow=true:=by
 unfold joinedFacts
 rw[laidOut,mapsR,k0,k1,k2,k3,k4,k5,ent,hea]
 kernel_rfl
theorem nm:Tryz.pinned.checked.prog.funcNamed Rows.fnServersRow.func=some 3:=by kernel_rfl
end
set_option maxRecDepth 100000 in
theorem lifted (os:Os) (started:os.Started) (H:Type) (enc:TypeId×Value->H):
  ReturnsInHanded {} Tryz.checked os 3 .any (Rows.fnServersSpec.pre6 enc Tryz.prog Tryz.f3 Rows.fnServersRow.domain false) (Rows.fnServersSpec.post enc Tryz.prog Tryz.f3 false true false false):=by
 refine returnsInHanded_of_change (C:=Tryz.checked) own started (by kernel_rfl) Tryz.func3
  (ChangeSpec.witness6 (enc:=enc) (C:=Tryz.checked) false ⟨#[],#[.slice none 0 0],[]⟩ 8 (by kernel_rfl) (by kernel_rfl) (by kernel_rfl) (by kernel_rfl)) ?_
 intro W base args ds gs before hval0 hW hcnd _
 have hval: ∀(j:Nat) t v,Tryz.f3.params[j]? =some t->args[j]? =some v->Value.okWide Tryz.prog W .any base t v:=hval0
 have hW':=hW
 obtain⟨p,q,hA0,hV,rfl,hfz,hnd⟩:=hW
 have hA:DataW.TrodAll enc Tryz.prog W 0 (fun _=>true) true Tryz.f3.params.toList args.toList ds p:=hA0
 have hAk:DataW.TrodAll enc Tryz.prog W 0 (fun _=>true) true Tryz.f3.params.toList args.toList ds p:=hA0
 rw[Tryz.params3]at hA hval hAk
 obtain⟨v0,vs0,d0,ds0,p0,q0,hargs0,rfl,rfl,h0,r0⟩:=trodAll_cons hA
 obtain⟨rfl,rfl,rfl⟩:=trodAll_nil r0
 obtain rfl:args= #[v0]:=by cases args;simp_all
 obtain⟨rfl,rfl⟩:=trodVars_none hV
 simp only[List.append_nil]at hW'
 have hlt:=DataW.TrodAll.lt hAk
 obtain⟨x0,y0⟩:=Bsg (P:=Tryz.prog) (t:=22) (p:=g_0) (by kernel_rfl) (hval 0 22 v0 rfl rfl) h0
 have hq: ∀r,K8 x0=some r->wfB r.2.2.2.1:=fun r hr=>wfB_of (Bq7 (ps:=[g_0]) (V:=(fun d=>(S4 d.1).val)) (d:=(x0,())) (vs:=[v0]) Ah0 ⟨y0,trivial⟩ hr (p1:=Lv) (p2:=g_3) (qs:=[Fj,g_0]) (q:=(r.1,r.2.1,r.2.2.1,r.2.2.2,())) rfl).2.2.2.1.1
 have key:Calls Tryz.prog 3 #[v0] W (Ret W (.bool true)):=Bne (ps:=Mc) (V:=fun d=>(Md d.1).val) (rvs:=Ac6) A5x rfl (d:=(x0,())) (vs:=[v0]) (Bag (x0,()) ((show RVa (Cw (No W)) (mkA Mc (x0,())) [v0]from⟨y0,trivial⟩).wf) hq) ⟨y0,trivial⟩
 refine key.mono fun e W' hR=>?_
 obtain⟨he,hg⟩:=hR
 have hB:=hg.below
 refine⟨_,he,_,_,_,[],p0++([]),[],hW',?_,?_,rfl,hB.frame _,fun h=>by cases h⟩
 .exact trodAll_mk1 (shut_bool Tryz.underlying4 _)
 .refine Asl laidOut hB (fun t ht=>?_) hAk hlt
  have ht2:t∈[22]:=by rw[Tryz.params3]at ht;exact ht
  simp only[List.mem_cons,List.not_mem_nil,or_false]at ht2
  rcases ht2 with rfl
  all_goals exact⟨by kernel_rfl,of_decide_eq_true (by kernel_rfl)⟩
theorem proved:Rows.FnServersSaid:=
 OpenClaim.holds_of_wide 3 Tryz.f3 rfl rfl rfl rfl rfl rfl rfl ⟨rfl,rfl,rfl,rfl,rfl⟩ rfl rfl rfl rfl rfl nm Tryz.func3 closed
  (of_decide_eq_true (by kernel_rfl)) (by unfold Func.isWrapper;first|(rw[if_pos (by decide+kernel)];kernel_rfl)|(rw[if_neg (by decide+kernel)];exact⟨rfl,rfl⟩))
  (fun os started H enc _=>lifted os started H enc)
end FnServersL
end Go.Proofs.YtnbbbaplphcebaaGreat

/-
  The law FnBoots returns true whatever the arguments, and the arguments read as they did: every input of the row, no further condition.
-/
import Derived.Test.YtfljmgnghlpapaaGreatRows
import Derived.Test.YtfljmgnghlpapaaGreatP2
import Derived.Test.YtfljmgnghlpapaaGreatL84
import Derived.KernelRfl
namespace Go.Proofs.YtfljmgnghlpapaaGreat
open Go.ChangeShapes Go.WideShapes Go.ChangeAt Go.RowKit
set_option maxHeartbeats 4000000
theorem own:ownKnob Tryz.prog.godebug=none:=by kernel_rfl
theorem laidOut:laidOutB Tryz.prog=true:=by kernel_rfl
set_option linter.unusedVariables false
theorem A5z (d:Ni Ss) (hw:WfA Ss d):(Nt d.1).val=some (true,()):=by
 have h:U0 [.sl 5 [.int .u8]] d.1∧True:=hw
 exact Bbz d.1
theorem mapsR:mapsRowed Tryz.prog=true:=by kernel_rfl
theorem ent:Program.mayEnter Tryz.prog=true:=by kernel_rfl
theorem hea:Program.stopsHeard Tryz.prog=true:=by kernel_rfl
namespace FnBootsL
section
set_option maxRecDepth 100000
theorem k0:(Rows.fnBootsRow.inPlace==Tryz.prog.inPlace 4)=true:=by kernel_rfl
theorem k1:(Rows.fnBootsRow.unfollowed==Tryz.prog.unfollowed 4)=true:=by kernel_rfl
theorem k2:(Rows.fnBootsRow.recurses==Tryz.prog.recurses 4)=true:=by kernel_rfl
theorem k3:(Rows.fnBootsRow.named==Tryz.prog.varsNamed 4)=true:=by kernel_rfl
theorem k4:(Rows.fnBootsRow.plainKeys==Tryz.prog.plainKeys)=true:=by kernel_rfl
theorem k5:(Rows.fnBootsRow.lifted==Tryz.prog.liftsFinal)=true:=by kernel_rfl
theorem closed:joinedFacts Tryz.prog 4 Tryz.f4 Rows.fnBootsSpec Rows.fnBootsRow=true:=by
 unfold joinedFacts
 rw[laidOut,mapsR,k0,k1,k2,k3,k4,k5,ent,hea]
 kernel_rfl
theorem nm:Tryz.pinned.checked.prog.funcNamed Rows.fnBootsRow.func=some 4:=by kernel_rfl
end
set_option maxRecDepth 100000 in
theorem lifted (os:Os) (started:os.Started) (H:Type) (enc:TypeId×Value→H):
  ReturnsInHanded {} Tryz.checked os 4 .any (Rows.fnBootsSpec.pre6 enc Tryz.prog Tryz.f4 Rows.fnBootsRow.domain false) (Rows.fnBootsSpec.post enc Tryz.prog Tryz.f4 false true false false):=by
 refine returnsInHanded_of_change (C:=Tryz.checked) own started (by kernel_rfl) Tryz.func4
  (ChangeSpec.witness6 (enc:=enc) (C:=Tryz.checked) false ⟨#[],#[.slice none 0 0],[]⟩ 8 (by kernel_rfl) (by kernel_rfl) (by kernel_rfl) (by kernel_rfl)) ?_
 intro W base args ds gs before hval0 hW hcnd _
 have hval: ∀(j:Nat) t v,Tryz.f4.params[j]? =some t→args[j]? =some v→Value.okWide Tryz.prog W .any base t v:=hval0
 have hW':=hW
 obtain⟨p,q,hA0,hV,rfl,hfz,hnd⟩:=hW
 have hA:DataW.TrodAll enc Tryz.prog W 0 (fun _=>true) true Tryz.f4.params.toList args.toList ds p:=hA0
 have hAk:DataW.TrodAll enc Tryz.prog W 0 (fun _=>true) true Tryz.f4.params.toList args.toList ds p:=hA0
 rw[Tryz.params4]at hA hval hAk
 obtain⟨v0,vs0,d0,ds0,p0,q0,hargs0,rfl,rfl,h0,r0⟩:=trodAll_cons hA
 obtain⟨rfl,rfl,rfl⟩:=trodAll_nil r0
 obtain rfl:args= #[v0]:=by cases args;simp_all
 obtain⟨rfl,rfl⟩:=trodVars_none hV
 simp only[List.append_nil]at hW'
 have hlt:=DataW.TrodAll.lt hAk
 obtain⟨x0,y0⟩:=Bb0 (P:=Tryz.prog) (t:=22) (p:=g_0) (by kernel_rfl) (hval 0 22 v0 rfl rfl) h0
 have key:Calls Tryz.prog 4 #[v0] W (Ret W (.bool true)):=A28 (ps:=Ss) (V:=fun d=>(Nt d.1).val) (rvs:=Apf) A1n rfl (fun d h=>A5z d h) (d:=(x0,())) (vs:=[v0]) ⟨y0,trivial⟩
 refine key.mono fun e W' hR=>?_
 obtain⟨he,hg⟩:=hR
 have hB:=hg.below
 refine⟨_,he,_,_,_,[],p0++([]),[],hW',?_,?_,rfl,hB.frame _,fun h=>by cases h⟩
 ·exact trodAll_mk1 (shut_bool Tryz.underlying4 _)
 ·refine U1 laidOut hB (fun t ht=>?_) hAk hlt
  have ht2:t∈[22]:=by rw[Tryz.params4]at ht;exact ht
  simp only[List.mem_cons,List.not_mem_nil,or_false]at ht2
  rcases ht2 with rfl
  all_goals exact⟨by kernel_rfl,of_decide_eq_true (by kernel_rfl)⟩
theorem proved:Rows.FnBootsSaid:=
 OpenClaim.holds_of_wide 4 Tryz.f4 rfl rfl rfl rfl rfl rfl rfl ⟨rfl,rfl,rfl,rfl,rfl⟩ rfl rfl rfl rfl rfl nm Tryz.func4 closed
  (of_decide_eq_true (by kernel_rfl)) (by unfold Func.isWrapper;first|(rw[if_pos (by decide+kernel)];kernel_rfl)|(rw[if_neg (by decide+kernel)];exact⟨rfl,rfl⟩))
  (fun os started H enc _=>lifted os started H enc)
end FnBootsL
end Go.Proofs.YtfljmgnghlpapaaGreat

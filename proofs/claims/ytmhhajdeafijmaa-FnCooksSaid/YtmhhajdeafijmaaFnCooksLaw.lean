/-
  The law FnCooks returns true whatever the arguments, and the arguments read as they did: every input of the row, no further condition.
-/
import Derived.Test.YtmhhajdeafijmaaRows
import Derived.Test.YtmhhajdeafijmaaP0
import Derived.Test.YtmhhajdeafijmaaL53
import Derived.KernelRfl
namespace Go.Proofs.Ytmhhajdeafijmaa
open Go.ChangeShapes Go.WideShapes Go.ChangeAt Go.RowKit
set_option maxHeartbeats 4000000
theorem own:ownKnob Try.prog.godebug=none:=by kernel_rfl
theorem laidOut:laidOutB Try.prog=true:=by kernel_rfl
set_option linter.unusedVariables false
theorem Ad5 (d:Hx Jw) (hw:WfA Jw d):(Hf d.1).val=some (true,()):=by
 have h:Lp [.sl 5 [.int .u8]] d.1∧True:=hw
 exact Aht d.1
theorem mapsR:mapsRowed Try.prog=true:=by kernel_rfl
theorem ent:Program.mayEnter Try.prog=true:=by kernel_rfl
theorem hea:Program.stopsHeard Try.prog=true:=by kernel_rfl
namespace FnCooksL
section
set_option maxRecDepth 100000
theorem k0:(Rows.fnCooksRow.inPlace==Try.prog.inPlace 4)=true:=by kernel_rfl
theorem k1:(Rows.fnCooksRow.unfollowed==Try.prog.unfollowed 4)=true:=by kernel_rfl
theorem k2:(Rows.fnCooksRow.recurses==Try.prog.recurses 4)=true:=by kernel_rfl
theorem k3:(Rows.fnCooksRow.named==Try.prog.varsNamed 4)=true:=by kernel_rfl
theorem k4:(Rows.fnCooksRow.plainKeys==Try.prog.plainKeys)=true:=by kernel_rfl
theorem k5:(Rows.fnCooksRow.lifted==Try.prog.liftsFinal)=true:=by kernel_rfl
theorem closed:joinedFacts Try.prog 4 Try.f4 Rows.fnCooksSpec Rows.fnCooksRow=true:=by
 unfold joinedFacts
 rw[laidOut,mapsR,k0,k1,k2,k3,k4,k5,ent,hea]
 kernel_rfl
theorem nm:Try.pinned.checked.prog.funcNamed Rows.fnCooksRow.func=some 4:=by kernel_rfl
end
set_option maxRecDepth 100000 in
theorem lifted (os:Os) (started:os.Started) (H:Type) (enc:TypeId×Value→H):
  ReturnsInHanded {} Try.checked os 4 .any (Rows.fnCooksSpec.pre6 enc Try.prog Try.f4 Rows.fnCooksRow.domain false) (Rows.fnCooksSpec.post enc Try.prog Try.f4 false true false false):=by
 refine returnsInHanded_of_change (C:=Try.checked) own started (by kernel_rfl) Try.func4
  (ChangeSpec.witness6 (enc:=enc) (C:=Try.checked) false ⟨#[],#[.slice none 0 0],[]⟩ 8 (by kernel_rfl) (by kernel_rfl) (by kernel_rfl) (by kernel_rfl)) ?_
 intro W base args ds gs before hval0 hW hcnd _
 have hval: ∀(j:Nat) t v,Try.f4.params[j]? =some t→args[j]? =some v→Value.okWide Try.prog W .any base t v:=hval0
 have hW':=hW
 obtain⟨p,q,hA0,hV,rfl,hfz,hnd⟩:=hW
 have hA:DataW.TrodAll enc Try.prog W 0 (fun _=>true) true Try.f4.params.toList args.toList ds p:=hA0
 have hAk:DataW.TrodAll enc Try.prog W 0 (fun _=>true) true Try.f4.params.toList args.toList ds p:=hA0
 rw[Try.params4]at hA hval hAk
 obtain⟨v0,vs0,d0,ds0,p0,q0,hargs0,rfl,rfl,h0,r0⟩:=trodAll_cons hA
 obtain⟨rfl,rfl,rfl⟩:=trodAll_nil r0
 obtain rfl:args= #[v0]:=by cases args;simp_all
 obtain⟨rfl,rfl⟩:=trodVars_none hV
 simp only[List.append_nil]at hW'
 have hlt:=DataW.TrodAll.lt hAk
 obtain⟨x0,y0⟩:=Ale (P:=Try.prog) (t:=22) (p:=g_0) (by kernel_rfl) (hval 0 22 v0 rfl rfl) h0
 have key:Calls Try.prog 4 #[v0] W (Ret W (.bool true)):=Aja (ps:=Jw) (V:=fun d=>(Hf d.1).val) (rvs:=Tr) Abs rfl (fun d h=>Ad5 d h) (d:=(x0,())) (vs:=[v0]) ⟨y0,trivial⟩
 refine key.mono fun e W' hR=>?_
 obtain⟨he,hg⟩:=hR
 have hB:=hg.below
 refine⟨_,he,_,_,_,[],p0++([]),[],hW',?_,?_,rfl,hB.frame _,fun h=>by cases h⟩
 ·exact trodAll_mk1 (shut_bool Try.underlying4 _)
 ·refine Qu laidOut hB (fun t ht=>?_) hAk hlt
  have ht2:t∈[22]:=by rw[Try.params4]at ht;exact ht
  simp only[List.mem_cons,List.not_mem_nil,or_false]at ht2
  rcases ht2 with rfl
  all_goals exact⟨by kernel_rfl,of_decide_eq_true (by kernel_rfl)⟩
theorem proved:Rows.FnCooksSaid:=
 OpenClaim.holds_of_wide 4 Try.f4 rfl rfl rfl rfl rfl rfl rfl ⟨rfl,rfl,rfl,rfl,rfl⟩ rfl rfl rfl rfl rfl nm Try.func4 closed
  (of_decide_eq_true (by kernel_rfl)) (by unfold Func.isWrapper;first|(rw[if_pos (by decide+kernel)];kernel_rfl)|(rw[if_neg (by decide+kernel)];exact⟨rfl,rfl⟩))
  (fun os started H enc _=>lifted os started H enc)
end FnCooksL
end Go.Proofs.Ytmhhajdeafijmaa

/-
  The law FnForges returns true whatever the arguments, and the arguments read as they did: every input of the row, no further condition.
-/
import Derived.Test.YtmhhajdeafijmaaRows
import Derived.Test.YtmhhajdeafijmaaP0
import Derived.Test.YtmhhajdeafijmaaL54
import Derived.KernelRfl
namespace Go.Proofs.Ytmhhajdeafijmaa
open Go.ChangeShapes Go.WideShapes Go.ChangeAt Go.RowKit
set_option maxHeartbeats 4000000
theorem own:ownKnob Try.prog.godebug=none:=by kernel_rfl
theorem laidOut:laidOutB Try.prog=true:=by kernel_rfl
set_option linter.unusedVariables false
theorem Ab5 (d:Hk Ip) (hw:WfA Ip d):(Fz d.1).val=some (true,()):=by
 have h:Lo [.sl 5 [.int .u8]] d.1∧True:=hw
 exact Af3 d.1
theorem mapsR:mapsRowed Try.prog=true:=by kernel_rfl
theorem ent:Program.mayEnter Try.prog=true:=by kernel_rfl
theorem hea:Program.stopsHeard Try.prog=true:=by kernel_rfl
namespace FnForgesL
section
set_option maxRecDepth 100000
theorem k0:(Rows.fnForgesRow.inPlace==Try.prog.inPlace 3)=true:=by kernel_rfl
theorem k1:(Rows.fnForgesRow.unfollowed==Try.prog.unfollowed 3)=true:=by kernel_rfl
theorem k2:(Rows.fnForgesRow.recurses==Try.prog.recurses 3)=true:=by kernel_rfl
theorem k3:(Rows.fnForgesRow.named==Try.prog.varsNamed 3)=true:=by kernel_rfl
theorem k4:(Rows.fnForgesRow.plainKeys==Try.prog.plainKeys)=true:=by kernel_rfl
theorem k5:(Rows.fnForgesRow.lifted==Try.prog.liftsFinal)=true:=by kernel_rfl
theorem closed:joinedFacts Try.prog 3 Try.f3 Rows.fnForgesSpec Rows.fnForgesRow=true:=by
 unfold joinedFacts
 rw[laidOut,mapsR,k0,k1,k2,k3,k4,k5,ent,hea]
 kernel_rfl
theorem nm:Try.pinned.checked.prog.funcNamed Rows.fnForgesRow.func=some 3:=by kernel_rfl
end
set_option maxRecDepth 100000 in
theorem lifted (os:Os) (started:os.Started) (H:Type) (enc:TypeId×Value→H):
  ReturnsInHanded {} Try.checked os 3 .any (Rows.fnForgesSpec.pre6 enc Try.prog Try.f3 Rows.fnForgesRow.domain false) (Rows.fnForgesSpec.post enc Try.prog Try.f3 false true false false):=by
 refine returnsInHanded_of_change (C:=Try.checked) own started (by kernel_rfl) Try.func3
  (ChangeSpec.witness6 (enc:=enc) (C:=Try.checked) false ⟨#[],#[.slice none 0 0],[]⟩ 8 (by kernel_rfl) (by kernel_rfl) (by kernel_rfl) (by kernel_rfl)) ?_
 intro W base args ds gs before hval0 hW hcnd _
 have hval: ∀(j:Nat) t v,Try.f3.params[j]? =some t→args[j]? =some v→Value.okWide Try.prog W .any base t v:=hval0
 have hW':=hW
 obtain⟨p,q,hA0,hV,rfl,hfz,hnd⟩:=hW
 have hA:DataW.TrodAll enc Try.prog W 0 (fun _=>true) true Try.f3.params.toList args.toList ds p:=hA0
 have hAk:DataW.TrodAll enc Try.prog W 0 (fun _=>true) true Try.f3.params.toList args.toList ds p:=hA0
 rw[Try.params3]at hA hval hAk
 obtain⟨v0,vs0,d0,ds0,p0,q0,hargs0,rfl,rfl,h0,r0⟩:=trodAll_cons hA
 obtain⟨rfl,rfl,rfl⟩:=trodAll_nil r0
 obtain rfl:args= #[v0]:=by cases args;simp_all
 obtain⟨rfl,rfl⟩:=trodVars_none hV
 simp only[List.append_nil]at hW'
 have hlt:=DataW.TrodAll.lt hAk
 obtain⟨x0,y0⟩:=Ak4 (P:=Try.prog) (t:=22) (p:=g_0) (by kernel_rfl) (hval 0 22 v0 rfl rfl) h0
 have key:Calls Try.prog 3 #[v0] W (Ret W (.bool true)):=Ai1 (ps:=Ip) (V:=fun d=>(Fz d.1).val) (rvs:=Rr) Aav rfl (fun d h=>Ab5 d h) (d:=(x0,())) (vs:=[v0]) ⟨y0,trivial⟩
 refine key.mono fun e W' hR=>?_
 obtain⟨he,hg⟩:=hR
 have hB:=hg.below
 refine⟨_,he,_,_,_,[],p0++([]),[],hW',?_,?_,rfl,hB.frame _,fun h=>by cases h⟩
 ·exact trodAll_mk1 (shut_bool Try.underlying4 _)
 ·refine Qw laidOut hB (fun t ht=>?_) hAk hlt
  have ht2:t∈[22]:=by rw[Try.params3]at ht;exact ht
  simp only[List.mem_cons,List.not_mem_nil,or_false]at ht2
  rcases ht2 with rfl
  all_goals exact⟨by kernel_rfl,of_decide_eq_true (by kernel_rfl)⟩
theorem proved:Rows.FnForgesSaid:=
 OpenClaim.holds_of_wide 3 Try.f3 rfl rfl rfl rfl rfl rfl rfl ⟨rfl,rfl,rfl,rfl,rfl⟩ rfl rfl rfl rfl rfl nm Try.func3 closed
  (of_decide_eq_true (by kernel_rfl)) (by unfold Func.isWrapper;first|(rw[if_pos (by decide+kernel)];kernel_rfl)|(rw[if_neg (by decide+kernel)];exact⟨rfl,rfl⟩))
  (fun os started H enc _=>lifted os started H enc)
end FnForgesL
end Go.Proofs.Ytmhhajdeafijmaa

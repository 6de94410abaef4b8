/-
  The law FnExactWireText returns true whatever the arguments, and the arguments read as they did: every input of the row, no further condition.
-/
import Derived.Test.YthccfdmiejmbaaaDoorCards
import Derived.Test.YthccfdmiejmbaaaDoorTie
import Derived.Stop.LaidErr
import Derived.ProofKit
import Derived.Handy
import Derived.Lay
import Derived.SevenTiedAt
import Derived.LaidLaws
import Derived.Test.YthccfdmiejmbaaaDoorRows
import Derived.Test.YthccfdmiejmbaaaDoorP1
import Derived.Test.YthccfdmiejmbaaaDoorL112
import Derived.KernelRfl
namespace Go.Proofs.YthccfdmiejmbaaaDoor
open Go.ChangeShapes Go.WideShapes Go.ChangeAt Go.RowKit
set_option maxHeartbeats 4000000
theorem own:ownKnob Tryd.prog.godebug=none:=by kernel_rfl
theorem laidOut:laidOutB Tryd.prog=true:=by kernel_rfl
set_option linter.unusedVariables false
theorem Mm (d:En C8) (hw:WfA C8 d):(Ck d.1).val=some (true,()):=by
 have h:Ds [.int .i64,.int .i64,.int .i64,.int .i64,.sl 5 [.int .u8]] d.1/\True:=hw
 exact Ud d.1 (Ad5 d.1 h.1) h.1
theorem mapsR:mapsRowed Tryd.prog=true:=by kernel_rfl
theorem ent:Program.mayEnter Tryd.prog=true:=by kernel_rfl
theorem hea:Program.stopsHeard Tryd.prog=true:=by kernel_rfl
namespace FnExactWireTextL
section
set_option maxRecDepth 100000
theorem k0:(Rows.fnExactWireTextRow.inPlace==Tryd.prog.inPlace 3)=true:=by kernel_rfl
theorem k1:(Rows.fnExactWireTextRow.unfollowed==Tryd.prog.unfollowed 3)=true:=by kernel_rfl
theorem k2:(Rows.fnExactWireTextRow.recurses==Tryd.prog.recurses 3)=true:=by kernel_rfl
theorem k3:(Rows.fnExactWireTextRow.named==Tryd.prog.varsNamed 3)=true:=by kernel_rfl
theorem k4:(Rows.fnExactWireTextRow.plainKeys==Tryd.prog.plainKeys)=true:=by kernel_rfl
theorem k5:(Rows.fnExactWireTextRow.lifted==Tryd.prog.liftsFinal)=true:=by kernel_rfl
theorem closed:joinedFacts Tryd.prog 3 Tryd.f3 Rows.fnExactWireTextSpec Rows.fnExactWireTextRow=true:=by
 unfold joinedFacts
 rw[laidOut,mapsR,k0,k1,k2,k3,k4,k5,ent,hea]
 kernel_rfl
theorem nm:Tryd.pinned.checked.prog.funcNamed Rows.fnExactWireTextRow.func=some 3:=by kernel_rfl
end
set_option maxRecDepth 100000 in
theorem lifted (os:Os) (started:os.Started) (H:Type) (enc:TypeId×Value->H):
  ReturnsInHanded {} Tryd.checked os 3 .any (fun w args=>(Rows.fnExactWireTextSpec.pre enc Tryd.prog Tryd.f3 [] false w args/\laidMetH Tryd.prog Rows.fnExactWireTextRow.laid w)/\sizedMet enc Tryd.prog Tryd.f3 (OpenSpec.ofChange Rows.fnExactWireTextSpec) false w args) (Rows.fnExactWireTextSpec.post enc Tryd.prog Tryd.f3 false true false false):=by
 refine returnsInHanded_of_change_and (C:=Tryd.checked) (X:=fun w _=>laidMetH Tryd.prog Rows.fnExactWireTextRow.laid w) (fun _ _ _ hh h=>h.of_heap hh) own started (by kernel_rfl) Tryd.func3
  (ChangeSpec.witness_shaped (enc:=enc) (C:=Tryd.checked) (os:=os) (X:=fun w _=>laidMetH Tryd.prog Rows.fnExactWireTextRow.laid w) false (World.laidAll Tryd.prog os Rows.fnExactWireTextRow.laid) #[.agg #[.int .i64 0,.int .i64 0,.int .i64 0,.int .i64 0,.slice none 0 0]] 8 (World.laidAll_os _ _ _)
   (World.shaped_of_ZipB (by kernel_rfl) (by kernel_rfl)) (by kernel_rfl) (by kernel_rfl) (by kernel_rfl)
   (by rw[MakeChecks.laidMetH_plain _ _ _ (by kernel_rfl)];exact laidMet_laidAll _ (by kernel_rfl) (by kernel_rfl))) ?_
 intro W base args ds gs before hval0 hW hcnd _ hL _
 rw[MakeChecks.laidMetH_plain _ _ _ (by kernel_rfl)]at hL
 have htab:=Lib.tabIs_of_head (g:=0) (t:=116) (e:=106) (n:=20) (rest:=[]) (by kernel_rfl) (by kernel_rfl) (by kernel_rfl) (by kernel_rfl) (by kernel_rfl) (by kernel_rfl) (show laidMet Tryd.prog (_::_::(_,Lib.tabData .u64 Lib.pow10Tab)::[]) W from hL).tail.tail
 have htb:TOk W Aa.emp:=Xk (by kernel_rfl) rfl htab
 have hval: ∀(j:Nat) t v,Tryd.f3.params[j]? =some t->args[j]? =some v->Value.okWide Tryd.prog W .any base t v:=hval0
 have hW':=hW
 obtain⟨p,q,hA0,hV,rfl,hfz,hnd⟩:=hW
 have hA:DataW.TrodAll enc Tryd.prog W 0 (fun _=>true) true Tryd.f3.params.toList args.toList ds p:=hA0
 have hAk:DataW.TrodAll enc Tryd.prog W 0 (fun _=>true) true Tryd.f3.params.toList args.toList ds p:=hA0
 rw[Tryd.params3]at hA hval hAk
 obtain⟨v0,vs0,d0,ds0,p0,q0,hargs0,rfl,rfl,h0,r0⟩:=trodAll_cons hA
 obtain⟨rfl,rfl,rfl⟩:=trodAll_nil r0
 obtain rfl:args= #[v0]:=by cases args;simp_all
 obtain⟨rfl,rfl⟩:=trodVars_none hV
 simp only[List.append_nil]at hW'
 have hlt:=DataW.TrodAll.lt hAk
 obtain⟨x0,y0⟩:=Adf (P:=Tryd.prog) (t:=26) (p:=g_2) (by kernel_rfl) (hval 0 26 v0 rfl rfl) h0
 have key:Calls Tryd.prog 3 #[v0] W (Ret W (.bool true)):=Aa5 (ps:=C8) (V:=fun d=>(Ck d.1).val) (rvs:=Ha) La rfl (fun d h=>Mm d h) (d:=(x0,())) (vs:=[v0]) htb ⟨y0,trivial⟩
 refine key.mono fun e W' hR=>?_
 obtain⟨he,hg⟩:=hR
 have hB:=hg.below
 refine⟨_,he,_,_,_,[],p0++([]),[],hW',?_,?_,rfl,hB.frame _,fun h=>by cases h⟩
 .exact trodAll_mk1 (shut_bool Tryd.underlying4 _)
 .refine Mg laidOut hB (fun t ht=>?_) hAk hlt
  have ht2:t∈[26]:=by rw[Tryd.params3]at ht;exact ht
  simp only[List.mem_cons,List.not_mem_nil,or_false]at ht2
  rcases ht2 with rfl
  all_goals exact⟨by kernel_rfl,of_decide_eq_true (by kernel_rfl)⟩
theorem proved:Rows.FnExactWireTextSaid:=
 OpenClaim.holds_of_wide 3 Tryd.f3 rfl rfl rfl rfl rfl rfl rfl ⟨rfl,rfl,rfl,rfl,rfl⟩ rfl rfl rfl rfl rfl nm Tryd.func3 closed
  (of_decide_eq_true (by kernel_rfl)) (by unfold Func.isWrapper;first|(rw[if_pos (by decide+kernel)];kernel_rfl)|(rw[if_neg (by decide+kernel)];exact⟨rfl,rfl⟩))
  (fun os started H enc _=>lifted os started H enc)
theorem card:Rows.FnExactWireTextCardSaid:=
 Claim7.holds_tied_plain_at .later [] [.data,.data,.data] true (true, "5d68945d2ead42254f7ac01977816585f95e5ed443aca66b6649236c1f4e94b4") false proved (fun _ h=>by cases h) (by kernel_rfl) (fun _ h=>by cases h) fnExactWireText_row_tie rfl ⟨rfl,rfl⟩ (by kernel_rfl) rfl
  (fun f fn hf hfn=>by
   obtain rfl:f=3:=Option.some.inj (nm.symm.trans hf) |>.symm
   obtain rfl:fn=Tryd.f3:=(Option.some.inj (Tryd.func3.symm.trans hfn)).symm
   exact⟨by kernel_rfl,fun j t ht=>by
    rw[Tryd.params3]at ht
    have hm:t∈[26]:=by simpa using Array.mem_of_getElem? ht
    have hall:([26].all fun u=> !Tryd.prog.wantsStandIn u)=true:=by kernel_rfl
    exact(show Tryd.prog.wantsStandIn t=false by simpa using List.all_eq_true.1 hall t hm)⟩)
  (by kernel_rfl)
end FnExactWireTextL
end Go.Proofs.YthccfdmiejmbaaaDoor

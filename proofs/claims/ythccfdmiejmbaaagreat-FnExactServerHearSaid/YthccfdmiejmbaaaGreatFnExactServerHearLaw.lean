/-
  The law FnExactServerHear returns true whatever the arguments, and the arguments read as they did: every input of the row, no further condition.
-/
import Derived.Test.YthccfdmiejmbaaaGreatRows
import Derived.Test.YthccfdmiejmbaaaGreatP1
import Derived.Test.YthccfdmiejmbaaaGreatG7
import Derived.KernelRfl
namespace Go.Proofs.YthccfdmiejmbaaaGreat
open Go.ChangeShapes Go.WideShapes Go.ChangeAt Go.RowKit
set_option maxHeartbeats 4000000
theorem own:ownKnob Tryz.prog.godebug=none:=by kernel_rfl
theorem laidOut:laidOutB Tryz.prog=true:=by kernel_rfl
set_option linter.unusedVariables false
theorem Ar1 (d:Vr J0) (hw:WfA J0 d):(Ho d.1 d.2.1 d.2.2.1 d.2.2.2.1).val=some (true,()):=by
 have h:Hh [.sl 22 [.sl 5 [.int .u8]],.sl 5 [.int .u8],.sl 5 [.int .u8],.int .i64,.int .i64,.sl 264 [.int .i64,.sl 5 [.int .u8],.sl 5 [.int .u8],.int .i64,.sl 5 [.int .u8],.int .i64,.sl 5 [.int .u8],.int .i64,.int .i64,.sl 3 [.int .i64],.int .i64,.sl 5 [.int .u8],.int .i64,.int .i64,.sl 3 [.int .i64],.bool,.int .i64,.sl 5 [.int .u8],.int .i64,.int .i64,.sl 319 [.int .i64,.int .i64,.sl 5 [.int .u8],.int .i64],.int .i64,.int .i64,.bool],.sl 213 [.int .i64,.int .i64,.int .i64,.int .i64]] d.1/\Hh [.int .i64] d.2.1/\Hh [.int .i64,.int .i64] d.2.2.1/\Hh [.sl 5 [.int .u8]] d.2.2.2.1/\True:=hw
 exact Bef d.1 d.2.1 d.2.2.1 d.2.2.2.1 (B2y d.1 h.1) h.1 h.2.1 h.2.2.1 h.2.2.2.1
theorem mapsR:mapsRowed Tryz.prog=true:=by kernel_rfl
theorem ent:Program.mayEnter Tryz.prog=true:=by kernel_rfl
theorem hea:Program.stopsHeard Tryz.prog=true:=by kernel_rfl
namespace FnExactServerHearL
section
set_option maxRecDepth 100000
theorem k0:(Rows.fnExactServerHearRow.inPlace==Tryz.prog.inPlace 4)=true:=by kernel_rfl
theorem k1:(Rows.fnExactServerHearRow.unfollowed==Tryz.prog.unfollowed 4)=true:=by kernel_rfl
theorem k2:(Rows.fnExactServerHearRow.recurses==Tryz.prog.recurses 4)=true:=by kernel_rfl
theorem k3:(Rows.fnExactServerHearRow.named==Tryz.prog.varsNamed 4)=true:=by kernel_rfl
theorem k4:(Rows.fnExactServerHearRow.plainKeys==Tryz.prog.plainKeys)=true:=by kernel_rfl
theorem k5:(Rows.fnExactServerHearRow.lifted==Tryz.prog.liftsFinal)=true:=by kernel_rfl
theorem closed:joinedFacts Tryz.prog 4 Tryz.f4 Rows.fnExactServerHearSpec Rows.fnExactServerHearRow=true:=by
 unfold joinedFacts
 rw[laidOut,mapsR,k0,k1,k2,k3,k4,k5,ent,hea]
 kernel_rfl
theorem nm:Tryz.pinned.checked.prog.funcNamed Rows.fnExactServerHearRow.func=some 4:=by kernel_rfl
end
set_option maxRecDepth 100000 in
theorem lifted (os:Os) (started:os.Started) (H:Type) (enc:TypeId×Value->H):
  ReturnsInHanded {} Tryz.checked os 4 .any (Rows.fnExactServerHearSpec.pre6 enc Tryz.prog Tryz.f4 Rows.fnExactServerHearRow.domain false) (Rows.fnExactServerHearSpec.post enc Tryz.prog Tryz.f4 false true false false):=by
 refine returnsInHanded_of_change (C:=Tryz.checked) own started (by kernel_rfl) Tryz.func4
  (ChangeSpec.witness6 (enc:=enc) (C:=Tryz.checked) false ⟨#[],#[.agg #[.slice none 0 0,.slice none 0 0,.slice none 0 0,.int .i64 0,.int .i64 0,.slice none 0 0,.slice none 0 0],.int .i64 0,.agg #[.int .i64 0,.int .i64 0],.slice none 0 0],[]⟩ 8 (by kernel_rfl) (by kernel_rfl) (by kernel_rfl) (by kernel_rfl)) ?_
 intro W base args ds gs before hval0 hW hcnd _
 have htb:TOk W Ac.emp:=fun x h=>by
  have h2:x∈([]:List (Nat×Array Value)):=h
  cases h2
 have hval: ∀(j:Nat) t v,Tryz.f4.params[j]? =some t->args[j]? =some v->Value.okWide Tryz.prog W .any base t v:=hval0
 have hW':=hW
 obtain⟨p,q,hA0,hV,rfl,hfz,hnd⟩:=hW
 have hA:DataW.TrodAll enc Tryz.prog W 0 (fun _=>true) true Tryz.f4.params.toList args.toList ds p:=hA0
 have hAk:DataW.TrodAll enc Tryz.prog W 0 (fun _=>true) true Tryz.f4.params.toList args.toList ds p:=hA0
 rw[Tryz.params4]at hA hval hAk
 obtain⟨v0,vs0,d0,ds0,p0,q0,hargs0,rfl,rfl,h0,r0⟩:=trodAll_cons hA
 obtain⟨v1,vs1,d1,ds1,p1,q1,hargs1,rfl,rfl,h1,r1⟩:=trodAll_cons r0
 subst hargs1
 obtain⟨v2,vs2,d2,ds2,p2,q2,hargs2,rfl,rfl,h2,r2⟩:=trodAll_cons r1
 subst hargs2
 obtain⟨v3,vs3,d3,ds3,p3,q3,hargs3,rfl,rfl,h3,r3⟩:=trodAll_cons r2
 subst hargs3
 obtain⟨rfl,rfl,rfl⟩:=trodAll_nil r3
 obtain rfl:args= #[v0,v1,v2,v3]:=by cases args;simp_all
 obtain⟨rfl,rfl⟩:=trodVars_none hV
 simp only[List.append_nil]at hW'
 have hlt:=DataW.TrodAll.lt hAk
 obtain⟨x0,y0⟩:=Bb3 (P:=Tryz.prog) (t:=57) (p:=Bq5) (by kernel_rfl) (hval 0 57 v0 rfl rfl) h0
 obtain⟨x1,y1⟩:=Bb3 (P:=Tryz.prog) (t:=3) (p:=g_1) (by kernel_rfl) (hval 1 3 v1 rfl rfl) h1
 obtain⟨x2,y2⟩:=Bb3 (P:=Tryz.prog) (t:=58) (p:=Ee) (by kernel_rfl) (hval 2 58 v2 rfl rfl) h2
 obtain⟨x3,y3⟩:=Bb3 (P:=Tryz.prog) (t:=22) (p:=g_0) (by kernel_rfl) (hval 3 22 v3 rfl rfl) h3
 have key:Calls Tryz.prog 4 #[v0,v1,v2,v3] W (Ret W (.bool true)):=Byj (ps:=J0) (V:=fun d=>(Ho d.1 d.2.1 d.2.2.1 d.2.2.2.1).val) (rvs:=Zb) Aoo rfl (fun d h=>Ar1 d h) (d:=(x0,x1,x2,x3,())) (vs:=[v0,v1,v2,v3]) htb ⟨y0,y1,y2,y3,trivial⟩
 refine key.mono fun e W' hR=>?_
 obtain⟨he,hg⟩:=hR
 have hB:=hg.below
 refine⟨_,he,_,_,_,[],p0++(p1++(p2++(p3++([])))),[],hW',?_,?_,rfl,hB.frame _,fun h=>by cases h⟩
 .exact trodAll_mk1 (shut_bool Tryz.underlying4 _)
 .refine Ayq laidOut hB (fun t ht=>?_) hAk hlt
  have ht2:t∈[57,3,58,22]:=by rw[Tryz.params4]at ht;exact ht
  simp only[List.mem_cons,List.not_mem_nil,or_false]at ht2
  rcases ht2 with rfl|rfl|rfl|rfl
  all_goals exact⟨by kernel_rfl,of_decide_eq_true (by kernel_rfl)⟩
theorem proved:Rows.FnExactServerHearSaid:=
 OpenClaim.holds_of_wide 4 Tryz.f4 rfl rfl rfl rfl rfl rfl rfl ⟨rfl,rfl,rfl,rfl,rfl⟩ rfl rfl rfl rfl rfl nm Tryz.func4 closed
  (of_decide_eq_true (by kernel_rfl)) (by unfold Func.isWrapper;first|(rw[if_pos (by decide+kernel)];kernel_rfl)|(rw[if_neg (by decide+kernel)];exact⟨rfl,rfl⟩))
  (fun os started H enc _=>lifted os started H enc)
end FnExactServerHearL
end Go.Proofs.YthccfdmiejmbaaaGreat

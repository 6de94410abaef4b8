/-
  The law FnExactBoot returns true whatever the arguments, and the arguments read as they did: every input of the row, no further condition.
-/
import Derived.Test.YtdlcjpjflckdlaaGreatRows
import Derived.Test.YtdlcjpjflckdlaaGreatP1
import Derived.Test.YtdlcjpjflckdlaaGreatL20
import Derived.KernelRfl
namespace Go.Proofs.YtdlcjpjflckdlaaGreat
open Go.ChangeShapes Go.WideShapes Go.ChangeAt Go.RowKit
set_option maxHeartbeats 4000000
theorem own : ownKnob Tryz.prog.godebug = none := by kernel_rfl
theorem laidOut : laidOutB Tryz.prog = true := by kernel_rfl
set_option linter.unusedVariables false
theorem val_FnExactBoot (d : aden P_l_FnExactBoot) (hw : WfA P_l_FnExactBoot d) : (T_l_FnExactBoot d.1).val = some (true, ()) := by
  have h : wfDs [.sl 23 [.sl 5 [.int .u8]], .sl 5 [.int .u8], .sl 5 [.int .u8], .int .i64, .int .i64, .sl 94 [.int .i64, .sl 5 [.int .u8], .sl 5 [.int .u8], .int .i64, .sl 5 [.int .u8], .int .i64, .sl 5 [.int .u8], .int .i64, .int .i64, .sl 3 [.int .i64], .int .i64, .sl 5 [.int .u8], .int .i64, .int .i64, .sl 3 [.int .i64], .bool, .int .i64, .sl 5 [.int .u8], .int .i64, .int .i64, .sl 272 [.int .i64, .int .i64, .sl 5 [.int .u8], .int .i64], .int .i64, .int .i64, .bool], .sl 221 [.int .i64, .int .i64, .int .i64, .int .i64]] d.1 ∧ True := hw
  exact law_Boot d.1 (lw_0 d.1 h.1)
theorem mapsR : mapsRowed Tryz.prog = true := by kernel_rfl
theorem ent : Program.mayEnter Tryz.prog = true := by kernel_rfl
theorem hea : Program.stopsHeard Tryz.prog = true := by kernel_rfl
namespace FnExactBootL
section
set_option maxRecDepth 100000
theorem k0 : (Rows.fnExactBootRow.inPlace == Tryz.prog.inPlace 9) = true := by kernel_rfl
theorem k1 : (Rows.fnExactBootRow.unfollowed == Tryz.prog.unfollowed 9) = true := by kernel_rfl
theorem k2 : (Rows.fnExactBootRow.recurses == Tryz.prog.recurses 9) = true := by kernel_rfl
theorem k3 : (Rows.fnExactBootRow.named == Tryz.prog.varsNamed 9) = true := by kernel_rfl
theorem k4 : (Rows.fnExactBootRow.plainKeys == Tryz.prog.plainKeys) = true := by kernel_rfl
theorem k5 : (Rows.fnExactBootRow.lifted == Tryz.prog.liftsFinal) = true := by kernel_rfl
theorem closed : joinedFacts Tryz.prog 9 Tryz.f9 Rows.fnExactBootSpec Rows.fnExactBootRow = true := by
  unfold joinedFacts
  rw [laidOut, mapsR, k0, k1, k2, k3, k4, k5, ent, hea]
  kernel_rfl
theorem nm : Tryz.pinned.checked.prog.funcNamed Rows.fnExactBootRow.func = some 9 := by kernel_rfl
end
set_option maxRecDepth 100000 in
theorem lifted (os : Os) (started : os.Started) (H : Type) (enc : TypeId × Value → H) :
    ReturnsInHanded {} Tryz.checked os 9 .any (Rows.fnExactBootSpec.pre6 enc Tryz.prog Tryz.f9 Rows.fnExactBootRow.domain false) (Rows.fnExactBootSpec.post enc Tryz.prog Tryz.f9 false true false false) := by
  refine returnsInHanded_of_change (C := Tryz.checked) own started (by kernel_rfl) Tryz.func9
    (ChangeSpec.witness6 (enc := enc) (C := Tryz.checked) false ⟨#[], #[.agg #[.slice none 0 0, .slice none 0 0, .slice none 0 0, .int .i64 0, .int .i64 0, .slice none 0 0, .slice none 0 0]], []⟩ 8 (by kernel_rfl) (by kernel_rfl) (by kernel_rfl) (by kernel_rfl)) ?_
  intro W base args ds gs before hval0 hW hcnd _
  have hval : ∀ (j : Nat) t v, Tryz.f9.params[j]? = some t → args[j]? = some v → Value.okWide Tryz.prog W .any base t v := hval0
  have hW' := hW
  obtain ⟨p, q, hA0, hV, rfl, hfz, hnd⟩ := hW
  have hA : DataW.TrodAll enc Tryz.prog W 0 (fun _ => true) true Tryz.f9.params.toList args.toList ds p := hA0
  have hAk : DataW.TrodAll enc Tryz.prog W 0 (fun _ => true) true Tryz.f9.params.toList args.toList ds p := hA0
  rw [Tryz.params9] at hA hval hAk
  obtain ⟨v0, vs0, d0, ds0, p0, q0, hargs0, rfl, rfl, h0, r0⟩ := trodAll_cons hA
  obtain ⟨rfl, rfl, rfl⟩ := trodAll_nil r0
  obtain rfl : args = #[v0] := by cases args; simp_all
  obtain ⟨rfl, rfl⟩ := trodVars_none hV
  simp only [List.append_nil] at hW'
  have hlt := DataW.TrodAll.lt hAk
  obtain ⟨x0, y0⟩ := rvv_of (P := Tryz.prog) (t := 33) (p := (true, h_14)) (by kernel_rfl) (hval 0 33 v0 rfl rfl) h0
  have key : Calls Tryz.prog 9 #[v0] W (Ret W (.bool true)) := law_call (ps := P_l_FnExactBoot) (V := fun d => (T_l_FnExactBoot d.1).val) (rvs := O_l_FnExactBoot) fn_l_FnExactBoot rfl (fun d h => val_FnExactBoot d h) (d := (x0, ())) (vs := [v0]) ⟨y0, trivial⟩
  refine key.mono fun e W' hR => ?_
  obtain ⟨he, hg⟩ := hR
  have hB := hg.below
  refine ⟨_, he, _, _, _, [], p0 ++ ([]), [], hW', ?_, ?_, rfl, hB.frame _, fun h => by cases h⟩
  · exact trodAll_mk1 (shut_bool Tryz.underlying4 _)
  · refine trodAll_below laidOut hB (fun t ht => ?_) hAk hlt
    have ht2 : t ∈ [33] := by rw [Tryz.params9] at ht; exact ht
    simp only [List.mem_cons, List.not_mem_nil, or_false] at ht2
    rcases ht2 with rfl
    all_goals exact ⟨by kernel_rfl, of_decide_eq_true (by kernel_rfl)⟩
theorem proved : Rows.FnExactBootSaid :=
  OpenClaim.holds_of_wide 9 Tryz.f9 rfl rfl rfl rfl rfl rfl rfl ⟨rfl, rfl, rfl, rfl, rfl⟩ rfl rfl rfl rfl rfl nm Tryz.func9 closed
    (of_decide_eq_true (by kernel_rfl)) (by unfold Func.isWrapper; first | (rw [if_pos (by decide +kernel)]; kernel_rfl) | (rw [if_neg (by decide +kernel)]; exact ⟨rfl, rfl⟩))
    (fun os started H enc _ => lifted os started H enc)
end FnExactBootL
end Go.Proofs.YtdlcjpjflckdlaaGreat

/-
  The law FnExactForge returns true whatever the arguments, and the arguments read as they did: every input of the row, no further condition.
-/
import Derived.Test.YthcbhopanefaiaaRows
import Derived.Test.YthcbhopanefaiaaP0
import Derived.Test.YthcbhopanefaiaaL11
import Derived.KernelRfl
namespace Go.Proofs.Ythcbhopanefaiaa
open Go.ChangeShapes Go.WideShapes Go.ChangeAt Go.RowKit
set_option maxHeartbeats 4000000
theorem own : ownKnob Try.prog.godebug = none := by kernel_rfl
theorem laidOut : laidOutB Try.prog = true := by kernel_rfl
set_option linter.unusedVariables false
theorem val_FnExactForge (d : aden P_l_FnExactForge) (hw : WfA P_l_FnExactForge d) : (T_l_FnExactForge d.1 d.2.1 d.2.2.1 d.2.2.2.1 d.2.2.2.2.1 d.2.2.2.2.2.1 d.2.2.2.2.2.2.1 d.2.2.2.2.2.2.2.1).val = some (true, ()) := by
  have h : wfDs [.sl 5 [.int .u8]] d.1 ∧ wfDs [.int .i64] d.2.1 ∧ wfDs [.int .i64] d.2.2.1 ∧ wfDs [.sl 5 [.int .u8]] d.2.2.2.1 ∧ wfDs [.int .i64] d.2.2.2.2.1 ∧ wfDs [.int .i64] d.2.2.2.2.2.1 ∧ wfDs [.int .i64] d.2.2.2.2.2.2.1 ∧ wfDs [.sl 5 [.int .u8]] d.2.2.2.2.2.2.2.1 ∧ True := hw
  exact law_Forge d.1 d.2.1 d.2.2.1 d.2.2.2.1 d.2.2.2.2.1 d.2.2.2.2.2.1 d.2.2.2.2.2.2.1 d.2.2.2.2.2.2.2.1
namespace FnExactForgeL
set_option maxRecDepth 100000 in
theorem lifted (os : Os) (started : os.Started) (H : Type) (enc : TypeId × Value → H) :
    ReturnsInHanded {} Try.checked os 13 .any (Rows.fnExactForgeSpec.pre6 enc Try.prog Try.f13 Rows.fnExactForgeRow.domain false) (Rows.fnExactForgeSpec.post enc Try.prog Try.f13 false true false false) := by
  refine returnsInHanded_of_change (C := Try.checked) own started (by kernel_rfl) Try.func13
    (ChangeSpec.witness6 (enc := enc) (C := Try.checked) false ⟨#[], #[.slice none 0 0, .int .i64 0, .int .i64 0, .slice none 0 0, .int .i64 0, .int .i64 0, .int .i64 0, .slice none 0 0], []⟩ 8 (by kernel_rfl) (by kernel_rfl) (by kernel_rfl) (by kernel_rfl)) ?_
  intro W base args ds gs before hval0 hW hcnd _
  have hval : ∀ (j : Nat) t v, Try.f13.params[j]? = some t → args[j]? = some v → Value.okWide Try.prog W .any base t v := hval0
  have hW' := hW
  obtain ⟨p, q, hA0, hV, rfl, hfz, hnd⟩ := hW
  have hA : DataW.TrodAll enc Try.prog W 0 (fun _ => true) true Try.f13.params.toList args.toList ds p := hA0
  have hAk : DataW.TrodAll enc Try.prog W 0 (fun _ => true) true Try.f13.params.toList args.toList ds p := hA0
  rw [Try.params13] at hA hval hAk
  obtain ⟨v0, vs0, d0, ds0, p0, q0, hargs0, rfl, rfl, h0, r0⟩ := trodAll_cons hA
  obtain ⟨v1, vs1, d1, ds1, p1, q1, hargs1, rfl, rfl, h1, r1⟩ := trodAll_cons r0
  subst hargs1
  obtain ⟨v2, vs2, d2, ds2, p2, q2, hargs2, rfl, rfl, h2, r2⟩ := trodAll_cons r1
  subst hargs2
  obtain ⟨v3, vs3, d3, ds3, p3, q3, hargs3, rfl, rfl, h3, r3⟩ := trodAll_cons r2
  subst hargs3
  obtain ⟨v4, vs4, d4, ds4, p4, q4, hargs4, rfl, rfl, h4, r4⟩ := trodAll_cons r3
  subst hargs4
  obtain ⟨v5, vs5, d5, ds5, p5, q5, hargs5, rfl, rfl, h5, r5⟩ := trodAll_cons r4
  subst hargs5
  obtain ⟨v6, vs6, d6, ds6, p6, q6, hargs6, rfl, rfl, h6, r6⟩ := trodAll_cons r5
  subst hargs6
  obtain ⟨v7, vs7, d7, ds7, p7, q7, hargs7, rfl, rfl, h7, r7⟩ := trodAll_cons r6
  subst hargs7
  obtain ⟨rfl, rfl, rfl⟩ := trodAll_nil r7
  obtain rfl : args = #[v0, v1, v2, v3, v4, v5, v6, v7] := by cases args; simp_all
  obtain ⟨rfl, rfl⟩ := trodVars_none hV
  simp only [List.append_nil] at hW'
  have hlt := DataW.TrodAll.lt hAk
  obtain ⟨x0, y0⟩ := rvv_of (P := Try.prog) (t := 34) (p := (false, [.sl 5 [.int .u8]])) (by kernel_rfl) (hval 0 34 v0 rfl rfl) h0
  obtain ⟨x1, y1⟩ := rvv_of (P := Try.prog) (t := 3) (p := (false, [.int .i64])) (by kernel_rfl) (hval 1 3 v1 rfl rfl) h1
  obtain ⟨x2, y2⟩ := rvv_of (P := Try.prog) (t := 3) (p := (false, [.int .i64])) (by kernel_rfl) (hval 2 3 v2 rfl rfl) h2
  obtain ⟨x3, y3⟩ := rvv_of (P := Try.prog) (t := 34) (p := (false, [.sl 5 [.int .u8]])) (by kernel_rfl) (hval 3 34 v3 rfl rfl) h3
  obtain ⟨x4, y4⟩ := rvv_of (P := Try.prog) (t := 3) (p := (false, [.int .i64])) (by kernel_rfl) (hval 4 3 v4 rfl rfl) h4
  obtain ⟨x5, y5⟩ := rvv_of (P := Try.prog) (t := 3) (p := (false, [.int .i64])) (by kernel_rfl) (hval 5 3 v5 rfl rfl) h5
  obtain ⟨x6, y6⟩ := rvv_of (P := Try.prog) (t := 3) (p := (false, [.int .i64])) (by kernel_rfl) (hval 6 3 v6 rfl rfl) h6
  obtain ⟨x7, y7⟩ := rvv_of (P := Try.prog) (t := 34) (p := (false, [.sl 5 [.int .u8]])) (by kernel_rfl) (hval 7 34 v7 rfl rfl) h7
  have key : Calls Try.prog 13 #[v0, v1, v2, v3, v4, v5, v6, v7] W (Ret W (.bool true)) := law_call (ps := P_l_FnExactForge) (V := fun d => (T_l_FnExactForge d.1 d.2.1 d.2.2.1 d.2.2.2.1 d.2.2.2.2.1 d.2.2.2.2.2.1 d.2.2.2.2.2.2.1 d.2.2.2.2.2.2.2.1).val) (rvs := O_l_FnExactForge) fn_l_FnExactForge rfl (fun d h => val_FnExactForge d h) (d := (x0, x1, x2, x3, x4, x5, x6, x7, ())) (vs := [v0, v1, v2, v3, v4, v5, v6, v7]) ⟨y0, y1, y2, y3, y4, y5, y6, y7, trivial⟩
  refine key.mono fun e W' hR => ?_
  obtain ⟨he, hg⟩ := hR
  have hB := hg.below
  refine ⟨_, he, _, _, _, [], p0 ++ (p1 ++ (p2 ++ (p3 ++ (p4 ++ (p5 ++ (p6 ++ (p7 ++ ([])))))))), [], hW', ?_, ?_, rfl, hB.frame _, fun h => by cases h⟩
  · exact trodAll_mk1 (shut_bool Try.underlying4 _)
  · refine trodAll_below laidOut hB (fun t ht => ?_) hAk hlt
    have ht2 : t ∈ [34, 3, 3, 34, 3, 3, 3, 34] := by rw [Try.params13] at ht; exact ht
    simp only [List.mem_cons, List.not_mem_nil, or_false] at ht2
    rcases ht2 with rfl | rfl | rfl | rfl | rfl | rfl | rfl | rfl
    all_goals exact ⟨by kernel_rfl, of_decide_eq_true (by kernel_rfl)⟩
theorem proved : Rows.FnExactForgeSaid :=
  OpenClaim.holds_of_wide 13 Try.f13 rfl rfl rfl rfl rfl rfl rfl ⟨rfl, rfl, rfl, rfl, rfl⟩ rfl rfl rfl rfl rfl (by kernel_rfl) Try.func13 (by kernel_rfl)
    (of_decide_eq_true (by kernel_rfl)) (by unfold Func.isWrapper; first | (rw [if_pos (by decide +kernel)]; kernel_rfl) | (rw [if_neg (by decide +kernel)]; exact ⟨rfl, rfl⟩))
    (fun os started H enc _ => lifted os started H enc)
end FnExactForgeL
end Go.Proofs.Ythcbhopanefaiaa

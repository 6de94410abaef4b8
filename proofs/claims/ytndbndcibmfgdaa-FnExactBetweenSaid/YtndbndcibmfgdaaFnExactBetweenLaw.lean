/-
  The law FnExactBetween returns true whatever the arguments, and the arguments read as they did: every input of the row, no further condition.
-/
import Derived.Test.YtndbndcibmfgdaaRows
import Derived.Test.YtndbndcibmfgdaaP0
import Derived.Test.YtndbndcibmfgdaaL24
import Derived.KernelRfl
namespace Go.Proofs.Ytndbndcibmfgdaa
open Go.ChangeShapes Go.WideShapes Go.ChangeAt Go.RowKit
set_option maxHeartbeats 4000000
theorem own : ownKnob Try.prog.godebug = none := by kernel_rfl
theorem laidOut : laidOutB Try.prog = true := by kernel_rfl
set_option linter.unusedVariables false
theorem val_FnExactBetween (d : aden P_l_FnExactBetween) (hw : WfA P_l_FnExactBetween d) : (T_l_FnExactBetween d.1 d.2.1 d.2.2.1).val = some (true, ()) := by
  have h : wfDs [.sl 65 [.int .i64, .int .i64, .int .i64, .int .i64, .sl 5 [.int .u8]]] d.1 ∧ wfDs [.int .i64, .int .i64] d.2.1 ∧ wfDs [.int .i64, .int .i64] d.2.2.1 ∧ True := hw
  exact law_Between d.1 d.2.1 d.2.2.1 (lw_1 d.1 h.1)
theorem mapsR : mapsRowed Try.prog = true := by kernel_rfl
theorem ent : Program.mayEnter Try.prog = true := by kernel_rfl
theorem hea : Program.stopsHeard Try.prog = true := by kernel_rfl
namespace FnExactBetweenL
section
set_option maxRecDepth 100000
theorem k0 : (Rows.fnExactBetweenRow.inPlace == Try.prog.inPlace 3) = true := by kernel_rfl
theorem k1 : (Rows.fnExactBetweenRow.unfollowed == Try.prog.unfollowed 3) = true := by kernel_rfl
theorem k2 : (Rows.fnExactBetweenRow.recurses == Try.prog.recurses 3) = true := by kernel_rfl
theorem k3 : (Rows.fnExactBetweenRow.named == Try.prog.varsNamed 3) = true := by kernel_rfl
theorem k4 : (Rows.fnExactBetweenRow.plainKeys == Try.prog.plainKeys) = true := by kernel_rfl
theorem k5 : (Rows.fnExactBetweenRow.lifted == Try.prog.liftsFinal) = true := by kernel_rfl
theorem closed : joinedFacts Try.prog 3 Try.f3 Rows.fnExactBetweenSpec Rows.fnExactBetweenRow = true := by
  unfold joinedFacts
  rw [laidOut, mapsR, k0, k1, k2, k3, k4, k5, ent, hea]
  kernel_rfl
theorem nm : Try.pinned.checked.prog.funcNamed Rows.fnExactBetweenRow.func = some 3 := by kernel_rfl
end
set_option maxRecDepth 100000 in
theorem lifted (os : Os) (started : os.Started) (H : Type) (enc : TypeId × Value → H) :
    ReturnsInHanded {} Try.checked os 3 .any (Rows.fnExactBetweenSpec.pre6 enc Try.prog Try.f3 Rows.fnExactBetweenRow.domain false) (Rows.fnExactBetweenSpec.post enc Try.prog Try.f3 false true false false) := by
  refine returnsInHanded_of_change (C := Try.checked) own started (by kernel_rfl) Try.func3
    (ChangeSpec.witness6 (enc := enc) (C := Try.checked) false ⟨#[], #[.slice none 0 0, .agg #[.int .i64 0, .int .i64 0], .agg #[.int .i64 0, .int .i64 0]], []⟩ 8 (by kernel_rfl) (by kernel_rfl) (by kernel_rfl) (by kernel_rfl)) ?_
  intro W base args ds gs before hval0 hW hcnd _
  have hval : ∀ (j : Nat) t v, Try.f3.params[j]? = some t → args[j]? = some v → Value.okWide Try.prog W .any base t v := hval0
  have hW' := hW
  obtain ⟨p, q, hA0, hV, rfl, hfz, hnd⟩ := hW
  have hA : DataW.TrodAll enc Try.prog W 0 (fun _ => true) true Try.f3.params.toList args.toList ds p := hA0
  have hAk : DataW.TrodAll enc Try.prog W 0 (fun _ => true) true Try.f3.params.toList args.toList ds p := hA0
  rw [Try.params3] at hA hval hAk
  obtain ⟨v0, vs0, d0, ds0, p0, q0, hargs0, rfl, rfl, h0, r0⟩ := trodAll_cons hA
  obtain ⟨v1, vs1, d1, ds1, p1, q1, hargs1, rfl, rfl, h1, r1⟩ := trodAll_cons r0
  subst hargs1
  obtain ⟨v2, vs2, d2, ds2, p2, q2, hargs2, rfl, rfl, h2, r2⟩ := trodAll_cons r1
  subst hargs2
  obtain ⟨rfl, rfl, rfl⟩ := trodAll_nil r2
  obtain rfl : args = #[v0, v1, v2] := by cases args; simp_all
  obtain ⟨rfl, rfl⟩ := trodVars_none hV
  simp only [List.append_nil] at hW'
  have hlt := DataW.TrodAll.lt hAk
  obtain ⟨x0, y0⟩ := rvv_of (P := Try.prog) (t := 22) (p := (false, [.sl 65 h_2])) (by kernel_rfl) (hval 0 22 v0 rfl rfl) h0
  obtain ⟨x1, y1⟩ := rvv_of (P := Try.prog) (t := 24) (p := (true, [.int .i64, .int .i64])) (by kernel_rfl) (hval 1 24 v1 rfl rfl) h1
  obtain ⟨x2, y2⟩ := rvv_of (P := Try.prog) (t := 24) (p := (true, [.int .i64, .int .i64])) (by kernel_rfl) (hval 2 24 v2 rfl rfl) h2
  have key : Calls Try.prog 3 #[v0, v1, v2] W (Ret W (.bool true)) := law_call (ps := P_l_FnExactBetween) (V := fun d => (T_l_FnExactBetween d.1 d.2.1 d.2.2.1).val) (rvs := O_l_FnExactBetween) fn_l_FnExactBetween rfl (fun d h => val_FnExactBetween d h) (d := (x0, x1, x2, ())) (vs := [v0, v1, v2]) ⟨y0, y1, y2, trivial⟩
  refine key.mono fun e W' hR => ?_
  obtain ⟨he, hg⟩ := hR
  have hB := hg.below
  refine ⟨_, he, _, _, _, [], p0 ++ (p1 ++ (p2 ++ ([]))), [], hW', ?_, ?_, rfl, hB.frame _, fun h => by cases h⟩
  · exact trodAll_mk1 (shut_bool Try.underlying4 _)
  · refine trodAll_below laidOut hB (fun t ht => ?_) hAk hlt
    have ht2 : t ∈ [22, 24, 24] := by rw [Try.params3] at ht; exact ht
    simp only [List.mem_cons, List.not_mem_nil, or_false] at ht2
    rcases ht2 with rfl | rfl | rfl
    all_goals exact ⟨by kernel_rfl, of_decide_eq_true (by kernel_rfl)⟩
theorem proved : Rows.FnExactBetweenSaid :=
  OpenClaim.holds_of_wide 3 Try.f3 rfl rfl rfl rfl rfl rfl rfl ⟨rfl, rfl, rfl, rfl, rfl⟩ rfl rfl rfl rfl rfl nm Try.func3 closed
    (of_decide_eq_true (by kernel_rfl)) (by unfold Func.isWrapper; first | (rw [if_pos (by decide +kernel)]; kernel_rfl) | (rw [if_neg (by decide +kernel)]; exact ⟨rfl, rfl⟩))
    (fun os started H enc _ => lifted os started H enc)
end FnExactBetweenL
end Go.Proofs.Ytndbndcibmfgdaa

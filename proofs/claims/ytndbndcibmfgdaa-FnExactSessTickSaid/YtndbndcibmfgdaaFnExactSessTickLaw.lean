/-
  The law FnExactSessTick returns true whatever the arguments, and the arguments read as they did: every input of the row, no further condition.
-/
import Derived.Test.YtndbndcibmfgdaaRows
import Derived.Test.YtndbndcibmfgdaaP0
import Derived.Test.YtndbndcibmfgdaaL24
import Derived.KernelRfl
namespace Go.Proofs.Ytndbndcibmfgdaa
open Go.ChangeShapes Go.WideShapes Go.ChangeAt Go.RowKit
set_option maxHeartbeats 4000000
theorem own : ownKnob Try.prog.godebug = none := by kernel_rfl
theorem laidOut : laidOutB Try.prog = true := by kernel_rfl
set_option linter.unusedVariables false
theorem val_FnExactSessTick (d : aden P_l_FnExactSessTick) (hw : WfA P_l_FnExactSessTick d) : (T_l_FnExactSessTick d.1 d.2.1).val = some (true, ()) := by
  have h : wfDs [.int .i64, .sl 5 [.int .u8], .sl 5 [.int .u8], .int .i64, .sl 5 [.int .u8], .int .i64, .sl 5 [.int .u8], .int .i64, .int .i64, .sl 3 [.int .i64], .int .i64, .sl 5 [.int .u8], .int .i64, .int .i64, .sl 3 [.int .i64], .bool, .int .i64, .sl 5 [.int .u8], .int .i64, .int .i64, .sl 108 [.int .i64, .int .i64, .sl 5 [.int .u8], .int .i64], .int .i64, .int .i64, .bool] d.1 ∧ wfDs [.int .i64] d.2.1 ∧ True := hw
  exact law_SessTick d.1 d.2.1 (lw_2 d.1 h.1)
theorem mapsR : mapsRowed Try.prog = true := by kernel_rfl
theorem ent : Program.mayEnter Try.prog = true := by kernel_rfl
theorem hea : Program.stopsHeard Try.prog = true := by kernel_rfl
namespace FnExactSessTickL
section
set_option maxRecDepth 100000
theorem k0 : (Rows.fnExactSessTickRow.inPlace == Try.prog.inPlace 4) = true := by kernel_rfl
theorem k1 : (Rows.fnExactSessTickRow.unfollowed == Try.prog.unfollowed 4) = true := by kernel_rfl
theorem k2 : (Rows.fnExactSessTickRow.recurses == Try.prog.recurses 4) = true := by kernel_rfl
theorem k3 : (Rows.fnExactSessTickRow.named == Try.prog.varsNamed 4) = true := by kernel_rfl
theorem k4 : (Rows.fnExactSessTickRow.plainKeys == Try.prog.plainKeys) = true := by kernel_rfl
theorem k5 : (Rows.fnExactSessTickRow.lifted == Try.prog.liftsFinal) = true := by kernel_rfl
theorem closed : joinedFacts Try.prog 4 Try.f4 Rows.fnExactSessTickSpec Rows.fnExactSessTickRow = true := by
  unfold joinedFacts
  rw [laidOut, mapsR, k0, k1, k2, k3, k4, k5, ent, hea]
  kernel_rfl
theorem nm : Try.pinned.checked.prog.funcNamed Rows.fnExactSessTickRow.func = some 4 := by kernel_rfl
end
set_option maxRecDepth 100000 in
theorem lifted (os : Os) (started : os.Started) (H : Type) (enc : TypeId × Value → H) :
    ReturnsInHanded {} Try.checked os 4 .any (Rows.fnExactSessTickSpec.pre6 enc Try.prog Try.f4 Rows.fnExactSessTickRow.domain false) (Rows.fnExactSessTickSpec.post enc Try.prog Try.f4 false true false false) := by
  refine returnsInHanded_of_change (C := Try.checked) own started (by kernel_rfl) Try.func4
    (ChangeSpec.witness6 (enc := enc) (C := Try.checked) false ⟨#[], #[.agg #[.int .i64 0, .slice none 0 0, .slice none 0 0, .int .i64 0, .slice none 0 0, .int .i64 0, .slice none 0 0, .int .i64 0, .int .i64 0, .slice none 0 0, .int .i64 0, .slice none 0 0, .int .i64 0, .int .i64 0, .slice none 0 0, .bool false, .int .i64 0, .slice none 0 0, .int .i64 0, .int .i64 0, .slice none 0 0, .int .i64 0, .int .i64 0, .bool false], .int .i64 0], []⟩ 8 (by kernel_rfl) (by kernel_rfl) (by kernel_rfl) (by kernel_rfl)) ?_
  intro W base args ds gs before hval0 hW hcnd _
  have hval : ∀ (j : Nat) t v, Try.f4.params[j]? = some t → args[j]? = some v → Value.okWide Try.prog W .any base t v := hval0
  have hW' := hW
  obtain ⟨p, q, hA0, hV, rfl, hfz, hnd⟩ := hW
  have hA : DataW.TrodAll enc Try.prog W 0 (fun _ => true) true Try.f4.params.toList args.toList ds p := hA0
  have hAk : DataW.TrodAll enc Try.prog W 0 (fun _ => true) true Try.f4.params.toList args.toList ds p := hA0
  rw [Try.params4] at hA hval hAk
  obtain ⟨v0, vs0, d0, ds0, p0, q0, hargs0, rfl, rfl, h0, r0⟩ := trodAll_cons hA
  obtain ⟨v1, vs1, d1, ds1, p1, q1, hargs1, rfl, rfl, h1, r1⟩ := trodAll_cons r0
  subst hargs1
  obtain ⟨rfl, rfl, rfl⟩ := trodAll_nil r1
  obtain rfl : args = #[v0, v1] := by cases args; simp_all
  obtain ⟨rfl, rfl⟩ := trodVars_none hV
  simp only [List.append_nil] at hW'
  have hlt := DataW.TrodAll.lt hAk
  obtain ⟨x0, y0⟩ := rvv_of (P := Try.prog) (t := 46) (p := (true, h_8)) (by kernel_rfl) (hval 0 46 v0 rfl rfl) h0
  obtain ⟨x1, y1⟩ := rvv_of (P := Try.prog) (t := 3) (p := (false, [.int .i64])) (by kernel_rfl) (hval 1 3 v1 rfl rfl) h1
  have key : Calls Try.prog 4 #[v0, v1] W (Ret W (.bool true)) := law_call (ps := P_l_FnExactSessTick) (V := fun d => (T_l_FnExactSessTick d.1 d.2.1).val) (rvs := O_l_FnExactSessTick) fn_l_FnExactSessTick rfl (fun d h => val_FnExactSessTick d h) (d := (x0, x1, ())) (vs := [v0, v1]) ⟨y0, y1, trivial⟩
  refine key.mono fun e W' hR => ?_
  obtain ⟨he, hg⟩ := hR
  have hB := hg.below
  refine ⟨_, he, _, _, _, [], p0 ++ (p1 ++ ([])), [], hW', ?_, ?_, rfl, hB.frame _, fun h => by cases h⟩
  · exact trodAll_mk1 (shut_bool Try.underlying4 _)
  · refine trodAll_below laidOut hB (fun t ht => ?_) hAk hlt
    have ht2 : t ∈ [46, 3] := by rw [Try.params4] at ht; exact ht
    simp only [List.mem_cons, List.not_mem_nil, or_false] at ht2
    rcases ht2 with rfl | rfl
    all_goals exact ⟨by kernel_rfl, of_decide_eq_true (by kernel_rfl)⟩
theorem proved : Rows.FnExactSessTickSaid :=
  OpenClaim.holds_of_wide 4 Try.f4 rfl rfl rfl rfl rfl rfl rfl ⟨rfl, rfl, rfl, rfl, rfl⟩ rfl rfl rfl rfl rfl nm Try.func4 closed
    (of_decide_eq_true (by kernel_rfl)) (by unfold Func.isWrapper; first | (rw [if_pos (by decide +kernel)]; kernel_rfl) | (rw [if_neg (by decide +kernel)]; exact ⟨rfl, rfl⟩))
    (fun os started H enc _ => lifted os started H enc)
end FnExactSessTickL
end Go.Proofs.Ytndbndcibmfgdaa

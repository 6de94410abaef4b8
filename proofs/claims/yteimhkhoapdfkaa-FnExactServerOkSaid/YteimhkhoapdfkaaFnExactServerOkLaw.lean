/-
  The law FnExactServerOk returns true whatever the arguments, and the arguments read as they did: every input of the row, no further condition.
-/
import Derived.Test.YteimhkhoapdfkaaRows
import Derived.Test.YteimhkhoapdfkaaP0
import Derived.Test.YteimhkhoapdfkaaL14
import Derived.KernelRfl
namespace Go.Proofs.Yteimhkhoapdfkaa
open Go.ChangeShapes Go.WideShapes Go.ChangeAt Go.RowKit
set_option maxHeartbeats 4000000
theorem own : ownKnob Try.prog.godebug = none := by kernel_rfl
theorem laidOut : laidOutB Try.prog = true := by kernel_rfl
set_option linter.unusedVariables false
theorem val_FnExactServerOk (d : aden P_l_FnExactServerOk) (hw : WfA P_l_FnExactServerOk d) : (T_l_FnExactServerOk d.1).val = some (true, ()) := by
  have h : wfDs [.sl 22 [.sl 5 [.int .u8]], .sl 5 [.int .u8], .sl 5 [.int .u8], .int .i64, .int .i64, .sl 36 [.int .i64, .sl 5 [.int .u8], .sl 5 [.int .u8], .int .i64, .sl 5 [.int .u8], .int .i64, .sl 5 [.int .u8], .int .i64, .int .i64, .sl 3 [.int .i64], .int .i64, .sl 5 [.int .u8], .int .i64, .int .i64, .sl 3 [.int .i64], .bool, .int .i64, .sl 5 [.int .u8], .int .i64, .int .i64, .sl 225 [.int .i64, .int .i64, .sl 5 [.int .u8], .int .i64], .int .i64, .int .i64, .bool], .sl 211 [.int .i64, .int .i64, .int .i64, .int .i64]] d.1 ∧ True := hw
  exact law_ServerOk d.1 (lw_2 d.1 h.1)
namespace FnExactServerOkL
set_option maxRecDepth 100000 in
theorem lifted (os : Os) (started : os.Started) (H : Type) (enc : TypeId × Value → H) :
    ReturnsInHanded {} Try.checked os 5 .any (Rows.fnExactServerOkSpec.pre6 enc Try.prog Try.f5 Rows.fnExactServerOkRow.domain false) (Rows.fnExactServerOkSpec.post enc Try.prog Try.f5 false true false false) := by
  refine returnsInHanded_of_change (C := Try.checked) own started (by kernel_rfl) Try.func5
    (ChangeSpec.witness6 (enc := enc) (C := Try.checked) false ⟨#[], #[.agg #[.slice none 0 0, .slice none 0 0, .slice none 0 0, .int .i64 0, .int .i64 0, .slice none 0 0, .slice none 0 0]], []⟩ 8 (by kernel_rfl) (by kernel_rfl) (by kernel_rfl) (by kernel_rfl)) ?_
  intro W base args ds gs before hval0 hW hcnd _
  have hval : ∀ (j : Nat) t v, Try.f5.params[j]? = some t → args[j]? = some v → Value.okWide Try.prog W .any base t v := hval0
  have hW' := hW
  obtain ⟨p, q, hA0, hV, rfl, hfz, hnd⟩ := hW
  have hA : DataW.TrodAll enc Try.prog W 0 (fun _ => true) true Try.f5.params.toList args.toList ds p := hA0
  have hAk : DataW.TrodAll enc Try.prog W 0 (fun _ => true) true Try.f5.params.toList args.toList ds p := hA0
  rw [Try.params5] at hA hval hAk
  obtain ⟨v0, vs0, d0, ds0, p0, q0, hargs0, rfl, rfl, h0, r0⟩ := trodAll_cons hA
  obtain ⟨rfl, rfl, rfl⟩ := trodAll_nil r0
  obtain rfl : args = #[v0] := by cases args; simp_all
  obtain ⟨rfl, rfl⟩ := trodVars_none hV
  simp only [List.append_nil] at hW'
  have hlt := DataW.TrodAll.lt hAk
  obtain ⟨x0, y0⟩ := rvv_of (P := Try.prog) (t := 66) (p := (true, h_15)) (by kernel_rfl) (hval 0 66 v0 rfl rfl) h0
  have key : Calls Try.prog 5 #[v0] W (Ret W (.bool true)) := law_call (ps := P_l_FnExactServerOk) (V := fun d => (T_l_FnExactServerOk d.1).val) (rvs := O_l_FnExactServerOk) fn_l_FnExactServerOk rfl (fun d h => val_FnExactServerOk d h) (d := (x0, ())) (vs := [v0]) ⟨y0, trivial⟩
  refine key.mono fun e W' hR => ?_
  obtain ⟨he, hg⟩ := hR
  have hB := hg.below
  refine ⟨_, he, _, _, _, [], p0 ++ ([]), [], hW', ?_, ?_, rfl, hB.frame _, fun h => by cases h⟩
  · exact trodAll_mk1 (shut_bool Try.underlying4 _)
  · refine trodAll_below laidOut hB (fun t ht => ?_) hAk hlt
    have ht2 : t ∈ [66] := by rw [Try.params5] at ht; exact ht
    simp only [List.mem_cons, List.not_mem_nil, or_false] at ht2
    rcases ht2 with rfl
    all_goals exact ⟨by kernel_rfl, of_decide_eq_true (by kernel_rfl)⟩
theorem proved : Rows.FnExactServerOkSaid :=
  OpenClaim.holds_of_wide 5 Try.f5 rfl rfl rfl rfl rfl rfl rfl ⟨rfl, rfl, rfl, rfl, rfl⟩ rfl rfl rfl rfl rfl (by kernel_rfl) Try.func5 (by kernel_rfl)
    (of_decide_eq_true (by kernel_rfl)) (by unfold Func.isWrapper; first | (rw [if_pos (by decide +kernel)]; kernel_rfl) | (rw [if_neg (by decide +kernel)]; exact ⟨rfl, rfl⟩))
    (fun os started H enc _ => lifted os started H enc)
end FnExactServerOkL
end Go.Proofs.Yteimhkhoapdfkaa

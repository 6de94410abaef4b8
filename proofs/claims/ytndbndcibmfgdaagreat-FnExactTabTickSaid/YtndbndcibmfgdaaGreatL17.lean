/-
  That the program and the reference answer alike, in plain terms, and that the laws answer true.
-/
import Derived.Test.YtndbndcibmfgdaaGreatL16
namespace Go.Proofs.YtndbndcibmfgdaaGreat
open Go.RowKit
set_option linter.unusedVariables false
set_option linter.unusedSimpArgs false
set_option maxRecDepth 100000
set_option maxHeartbeats 4000000
noncomputable section
/-! ## Notes, timers -/
theorem ok_ChanTick (c : YChan) (n : YI) (h : need_Chan c ≤ 67000000) : ∃ c', V_i_ChanTick c n = some c' ∧ V_s_ChanTick c n = some c' ∧ need_Chan c' ≤ need_Chan c := by
  have hc := h
  simp only [need_Chan] at hc
  unfold V_i_ChanTick T_i_ChanTick V_s_ChanTick T_s_ChanTick
  simp only [val_br, val_ob, val_leaf]
  rw [i_copyChan c (by omega), s_l14Copy c (by omega), i_ChanOk c (by dsimp only [curOf]; omega) (by dsimp only [oldOf]; omega), s_ChanOk c, i_within, s_l1In]
  simp only [ob_s]
  cases chanOk c with
  | false => exact ⟨c, rfl, rfl, Nat.le_refl _⟩
  | true =>
    cases inR n.1 0 1000000 with
    | false => exact ⟨c, rfl, rfl, Nat.le_refl _⟩
    | true =>
      cases c.2.2.2.2.2.2.2.2.2.2.2.2.1 with
      | false => exact ⟨c, rfl, rfl, Nat.le_refl _⟩
      | true =>
        cases (c.2.2.2.2.2.2.2.2.2.2.2.2.2.1 != (-1 : Int)) with
        | false => exact ⟨c, rfl, rfl, Nat.le_refl _⟩
        | true =>
          cases decide (n.1 > c.2.2.2.2.2.2.2.2.2.2.2.2.2.1) with
          | false => exact ⟨c, rfl, rfl, Nat.le_refl _⟩
          | true => exact ⟨_, rfl, rfl, by simp only [need_Chan, List.length_nil]; omega⟩
end
end Go.Proofs.YtndbndcibmfgdaaGreat

/-
  That the program and the reference answer alike, in plain terms, and that the laws answer true.
-/
import Derived.Test.YtdlcjpjflckdlaaGreatL16
namespace Go.Proofs.YtdlcjpjflckdlaaGreat
open Go.RowKit
set_option linter.unusedVariables false
set_option linter.unusedSimpArgs false
set_option maxRecDepth 100000
set_option maxHeartbeats 4000000
noncomputable section
/-! ## Notes, timers -/
def madeN (k b : List YB) : YNote := ((15 : Int), (0 : Int), (0 : Int), [], [], (0 : Int), (0 : Int), b, k, (0 : Int), (0 : Int), (0 : Int), ())
theorem i_Made (k b : List YB) (h1 : k.length ≤ 4294967296) (h2 : b.length ≤ 4294967296) : V_i_Made (k, ()) (b, ()) = some (madeN k b) := by
  unfold V_i_Made T_i_Made madeN
  simp only [val_ob, val_leaf]
  rw [i_clone _ h1, ob_s, i_clone _ h2, ob_s]
theorem s_Made (k b : List YB) (h1 : k.length ≤ 4294967296) (h2 : b.length ≤ 4294967296) : V_s_Made (k, ()) (b, ()) = some (madeN k b) := by
  unfold V_s_Made T_s_Made madeN
  simp only [val_chk, val_leaf, List.length_nil, Nat.zero_add, List.nil_append]
  rw [dec_t h1, chk_t, dec_t h2, chk_t]
def madeC (c : YChan) (f : YFrame) : YNote := madeN c.2.2.2.1 (tagInput c.1 f)
theorem i_madeBy (c : YChan) (f : YFrame) (h1 : c.2.2.2.1.length ≤ 4294967296) (h2 : need_Frame f ≤ 536870912) : V_i_madeBy c f = some (madeC c f) := by
  have ht := tagInput_le c.1 f
  unfold V_i_madeBy T_i_madeBy madeC
  simp only [val_ob, val_leaf]
  rw [i_TagInput _ _ h2, ob_s, i_Made _ _ h1 (by omega), ob_s]
theorem s_l19Made (c : YChan) (f : YFrame) (h1 : c.2.2.2.1.length ≤ 4294967296) (h2 : need_Frame f ≤ 536870912) : V_s_l19Made c f = some (madeC c f) := by
  have ht := tagInput_le c.1 f
  unfold V_s_l19Made T_s_l19Made madeC
  simp only [val_ob, val_leaf]
  rw [s_TagInput _ _ h2, ob_s, s_Made _ _ h1 (by omega), ob_s]
theorem need_madeC (c : YChan) (f : YFrame) : need_Note (madeC c f) ≤ need_Chan c + need_Frame f + 32 := by
  have ht := tagInput_le c.1 f
  simp only [need_Note, madeC, madeN, need_Chan, List.length_nil]
  omega
theorem TimerFires_eq : V_i_TimerFires = V_s_TimerFires := by
  funext t n
  unfold V_i_TimerFires T_i_TimerFires V_s_TimerFires T_s_TimerFires
  simp only [val_br, val_ob, val_leaf, i_within, s_l1In, i_TimerOk, s_TimerOk, ob_s]
theorem some_TimerFires (t : YTimer) (n : YI) : ∃ b, V_s_TimerFires t n = some (b, ()) := by
  unfold V_s_TimerFires T_s_TimerFires
  simp only [val_br, val_ob, val_leaf, s_l1In, s_TimerOk, ob_s]
  cases timerOk t <;> cases t.1 <;> cases inR n.1 0 1000000 <;> exact ⟨_, rfl⟩
theorem TimerNext_eq : V_i_TimerNext = V_s_TimerNext := by
  funext t n
  unfold V_i_TimerNext T_i_TimerNext V_s_TimerNext T_s_TimerNext
  simp only [val_br, val_ob, val_leaf, TimerFires_eq]
  obtain ⟨b, hb⟩ := some_TimerFires t n
  rw [hb, ob_s, ob_s]
  cases b with
  | false => rfl
  | true =>
    simp only [Bool.not_true, br_f]
    cases (t.2.2.2.1 == (5 : Int)) with
    | true => rfl
    | false =>
      simp only [br_f]
      by_cases h : IntKind.i64.wrap ((2 : Int) * t.2.2.1) > 8
      · rw [dec_t h, br_t]; simp only [if_pos h]
      · rw [dec_f h, br_f]; simp only [if_neg h]
theorem ok_ChanTick (c : YChan) (n : YI) (h : need_Chan c ≤ 67000000) : ∃ c', V_i_ChanTick c n = some c' ∧ V_s_ChanTick c n = some c' ∧ need_Chan c' ≤ need_Chan c := by
  have hc := h
  simp only [need_Chan] at hc
  unfold V_i_ChanTick T_i_ChanTick V_s_ChanTick T_s_ChanTick
  simp only [val_br, val_ob, val_leaf]
  rw [i_copyChan c (by omega), s_l14Copy c (by omega), i_ChanOk c (by dsimp only [curOf]; omega) (by dsimp only [oldOf]; omega), s_ChanOk c, i_within, s_l1In]
  simp only [ob_s]
  cases chanOk c with
  | false => exact ⟨c, rfl, rfl, Nat.le_refl _⟩
  | true =>
    cases inR n.1 0 1000000 with
    | false => exact ⟨c, rfl, rfl, Nat.le_refl _⟩
    | true =>
      cases c.2.2.2.2.2.2.2.2.2.2.2.2.1 with
      | false => exact ⟨c, rfl, rfl, Nat.le_refl _⟩
      | true =>
        cases (c.2.2.2.2.2.2.2.2.2.2.2.2.2.1 != (-1 : Int)) with
        | false => exact ⟨c, rfl, rfl, Nat.le_refl _⟩
        | true =>
          cases decide (n.1 > c.2.2.2.2.2.2.2.2.2.2.2.2.2.1) with
          | false => exact ⟨c, rfl, rfl, Nat.le_refl _⟩
          | true => exact ⟨_, rfl, rfl, by simp only [need_Chan, List.length_nil]; omega⟩
end
end Go.Proofs.YtdlcjpjflckdlaaGreat

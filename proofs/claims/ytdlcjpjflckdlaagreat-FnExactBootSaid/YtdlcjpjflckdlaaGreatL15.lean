/-
  That the program and the reference answer alike, in plain terms, and that the laws answer true.
-/
import Derived.Test.YtdlcjpjflckdlaaGreatL14
namespace Go.Proofs.YtdlcjpjflckdlaaGreat
open Go.RowKit
set_option linter.unusedVariables false
set_option linter.unusedSimpArgs false
set_option maxRecDepth 100000
set_option maxHeartbeats 4000000
noncomputable section
/-! ## Rolls, jars, new servers -/
def rollL : List YB := [((114 : Int), ()), ((111 : Int), ()), ((108 : Int), ()), ((108 : Int), ())]
def diceAt (s : List YB) (n : Int) : List YB := if inR (s.length : Int) 1 32 = true ∧ inR n 0 10000 = true then (hmac s (rollL ++ bytN n 4 4)).take 12 else []
theorem diceAt_len (s : List YB) (n : Int) : (diceAt s n).length ≤ 12 := by
  unfold diceAt
  split
  · simp; omega
  · simp
theorem i_DiceAt (s : List YB) (n : Int) : V_i_DiceAt (s, ()) (n, ()) = some (diceAt s n, ()) := by
  unfold V_i_DiceAt T_i_DiceAt diceAt
  simp only [val_br, val_ob, val_leaf, val_chk, i_within, ob_s]
  cases h1 : inR (s.length : Int) 1 32 with
  | false => rw [if_neg (by simp)]; rfl
  | true =>
    cases inR n 0 10000 with
    | false => rw [if_neg (by simp)]; rfl
    | true =>
      have := inR_iff.1 h1
      have h32 : (hmac s (rollL ++ bytN n 4 4)).length = 32 := hmac_32 _ _ (by omega) (by simp [bytN_len, rollL])
      simp only [Bool.not_true, br_f]
      rw [i_PutN4 _ _ (by simp), ob_s, i_Hmac, ob_s, if_pos ⟨trivial, trivial⟩, show ([((114 : Int), ()), ((111 : Int), ()), ((108 : Int), ()), ((108 : Int), ())] : List YB) = rollL from rfl]
      rw [dec_t (by dsimp only; omega), chk_t, show (12 : Int).toNat = 12 from rfl, show (0 : Int).toNat = 0 from rfl, List.drop_zero, i_clone _ (by simp; omega)]
      rfl
theorem s_DiceAt (s : List YB) (n : Int) : V_s_DiceAt (s, ()) (n, ()) = some (diceAt s n, ()) := by
  unfold V_s_DiceAt T_s_DiceAt diceAt
  simp only [val_br, val_ob, val_leaf, val_chk, s_l1In, ob_s, List.length_nil, Nat.zero_add, List.nil_append]
  cases h1 : inR (s.length : Int) 1 32 with
  | false => rw [if_neg (by simp)]; rfl
  | true =>
    cases inR n 0 10000 with
    | false => rw [if_neg (by simp)]; rfl
    | true =>
      have := inR_iff.1 h1
      have h32 : (hmac s (rollL ++ bytN n 4 4)).length = 32 := hmac_32 _ _ (by omega) (by simp [bytN_len, rollL])
      simp only [Bool.not_true, br_f]
      rw [s_PutN4 _ _ (by simp), ob_s, s_Hmac, ob_s, if_pos ⟨trivial, trivial⟩, show ([((114 : Int), ()), ((111 : Int), ()), ((108 : Int), ()), ((108 : Int), ())] : List YB) = rollL from rfl]
      rw [dec_t (by dsimp only; omega), chk_t, show (12 : Int).toNat = 12 from rfl, show (0 : Int).toNat = 0 from rfl, List.drop_zero, dec_t (by simp; omega), chk_t]
theorem s_l10Copy (d : YDice) (h : d.1.length ≤ 4294967296) : V_s_l10Copy d = some d := by
  unfold V_s_l10Copy T_s_l10Copy
  simp only [val_chk, val_leaf, List.length_nil, Nat.zero_add, List.nil_append]
  rw [dec_t h]; rfl
def rollOf (d : YDice) : YDice × List YB := if diceOk d = true ∧ d.2.1 ≠ 10000 then ((d.1, d.2.1 + 1, ()), diceAt d.1 d.2.1) else (d, [])
theorem rollOf_1 (d : YDice) : (rollOf d).1.1 = d.1 := by unfold rollOf; split <;> rfl
theorem rollOf_2 (d : YDice) : (rollOf d).2.length ≤ 12 := by
  unfold rollOf
  split
  · exact diceAt_len _ _
  · simp
theorem i_Roll (d : YDice) (h : d.1.length ≤ 4294967296) : V_i_Roll d = some ((rollOf d).1, ((rollOf d).2, ())) := by
  unfold V_i_Roll T_i_Roll rollOf
  simp only [val_br, val_ob, val_leaf, i_DiceOk, i_DiceAt]
  rw [i_clone _ h]
  simp only [ob_s]
  cases hd : diceOk d with
  | false => rw [if_neg (by simp)]; rfl
  | true =>
    simp only [Bool.not_true, br_f]
    by_cases h1 : d.2.1 = 10000
    · rw [br_tt (by simp [h1]), if_neg (fun h => h.2 h1)]
    · have := inR_iff.1 (show inR d.2.1 0 10000 = true by unfold diceOk at hd; simp only [Bool.and_eq_true] at hd; exact hd.2)
      rw [br_ff (by simp [h1]), if_pos ⟨trivial, h1⟩, w64 (by omega)]
theorem s_Roll (d : YDice) (h : d.1.length ≤ 4294967296) : V_s_Roll d = some ((rollOf d).1, ((rollOf d).2, ())) := by
  unfold V_s_Roll T_s_Roll rollOf
  simp only [val_br, val_ob, val_leaf, s_DiceOk, s_DiceAt]
  rw [s_l10Copy _ h]
  simp only [ob_s]
  cases hd : diceOk d with
  | false => rw [if_neg (by simp)]; rfl
  | true =>
    simp only [Bool.not_true, br_f]
    by_cases h1 : d.2.1 = 10000
    · rw [br_tt (by simp [h1]), if_neg (fun h => h.2 h1)]
    · have := inR_iff.1 (show inR d.2.1 0 10000 = true by unfold diceOk at hd; simp only [Bool.and_eq_true] at hd; exact hd.2)
      rw [br_ff (by simp [h1]), if_pos ⟨trivial, h1⟩, w64 (by omega)]
def jarNew (r : List YB) : List YB := if r.length = 12 then derive r (strb (bytesLit [106, 97, 114])) else []
theorem jarNew_len (r : List YB) : (jarNew r).length ≤ 32 := by
  unfold jarNew
  split
  · have := derive_len r (strb (bytesLit [106, 97, 114])); omega
  · simp
theorem i_JarNew (r : List YB) : V_i_JarNew (r, ()) = some (jarNew r, ()) := by
  unfold V_i_JarNew T_i_JarNew jarNew
  simp only [val_br, val_ob, val_leaf, i_isNonce, ob_s]
  rw [i_Derive _ _ (by decide)]
  by_cases h : r.length = 12
  · rw [if_pos h, br_ff (by simp [h])]; rfl
  · rw [if_neg h, br_tt (by simp; omega)]
theorem s_JarNew (r : List YB) : V_s_JarNew (r, ()) = some (jarNew r, ()) := by
  unfold V_s_JarNew T_s_JarNew jarNew
  simp only [val_br, val_ob, val_leaf]
  rw [s_Derive _ _ (by decide)]
  by_cases h : r.length = 12
  · rw [if_pos h, br_ff (by simp [h])]; rfl
  · rw [if_neg h, br_tt (by simp; omega)]
theorem i_cloneAll (l : List YBs) (h : l.length + sumN need_Bs l ≤ 4294967296) : V_i_cloneAll (l, ()) = some (l, ()) := by
  have hl := loop_run (B := B_i_cloneAll_3) l.length (fun i => (l.take i, l, (l.length : Int), (i : Int), ())) (l, ())
    (fun i hi => by
      have hx := List.getElem?_eq_getElem hi
      have h2 := sumN_at (f := need_Bs) hx
      simp only [need_Bs] at h2
      unfold B_i_cloneAll_3
      simp only [val_br, val_ob, val_leaf, val_chk, lt_dec hi, br_t, idx_at hx, ob_s]
      rw [i_clone _ (by omega), ob_s, dec_t (by simp; omega), chk_t, w64 (by omega)]
      exact congrArg (fun t => some (Sum.inl (t, l, (l.length : Int), (i : Int) + 1, ()))) (snoc_take hx))
    (by unfold B_i_cloneAll_3; simp only [val_br, val_leaf, ge_dec, br_f, List.take_length])
  unfold V_i_cloneAll T_i_cloneAll
  simp only [val_ob, val_leaf]
  rw [show iterO B_i_cloneAll_3 ([], l, (l.length : Int), (0 : Int), ()) = _ from hl]
  rfl
end
end Go.Proofs.YtdlcjpjflckdlaaGreat

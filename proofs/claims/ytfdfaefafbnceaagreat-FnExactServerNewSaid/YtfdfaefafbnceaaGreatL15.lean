/-
  That the program and the reference answer alike, in plain terms, and that the laws answer true.
-/
import Derived.Test.YtfdfaefafbnceaaGreatL14
namespace Go.Proofs.YtfdfaefafbnceaaGreat
open Go.RowKit
set_option linter.unusedVariables false
set_option linter.unusedSimpArgs false
set_option maxRecDepth 100000
set_option maxHeartbeats 4000000
noncomputable section
/-! ## Rolls, jars, new servers -/
def rollL : List YB := [((114 : Int), ()), ((111 : Int), ()), ((108 : Int), ()), ((108 : Int), ())]
def diceAt (s : List YB) (n : Int) : List YB := if inR (s.length : Int) 1 32 = true ∧ inR n 0 10000 = true then (hmac s (rollL ++ bytN n 4 4)).take 12 else []
theorem i_DiceAt (s : List YB) (n : Int) : V_i_DiceAt (s, ()) (n, ()) = some (diceAt s n, ()) := by
  unfold V_i_DiceAt T_i_DiceAt diceAt
  simp only [val_br, val_ob, val_leaf, val_chk, i_within, ob_s]
  cases h1 : inR (s.length : Int) 1 32 with
  | false => rw [if_neg (by simp)]; rfl
  | true =>
    cases inR n 0 10000 with
    | false => rw [if_neg (by simp)]; rfl
    | true =>
      have := inR_iff.1 h1
      have h32 : (hmac s (rollL ++ bytN n 4 4)).length = 32 := hmac_32 _ _ (by omega) (by simp [bytN_len, rollL])
      simp only [Bool.not_true, br_f]
      rw [i_PutN4 _ _ (by simp), ob_s, i_Hmac, ob_s, if_pos ⟨trivial, trivial⟩, show ([((114 : Int), ()), ((111 : Int), ()), ((108 : Int), ()), ((108 : Int), ())] : List YB) = rollL from rfl]
      rw [dec_t (by dsimp only; omega), chk_t, show (12 : Int).toNat = 12 from rfl, show (0 : Int).toNat = 0 from rfl, List.drop_zero, i_clone _ (by simp; omega)]
      rfl
theorem s_DiceAt (s : List YB) (n : Int) : V_s_DiceAt (s, ()) (n, ()) = some (diceAt s n, ()) := by
  unfold V_s_DiceAt T_s_DiceAt diceAt
  simp only [val_br, val_ob, val_leaf, val_chk, s_l1In, ob_s, List.length_nil, Nat.zero_add, List.nil_append]
  cases h1 : inR (s.length : Int) 1 32 with
  | false => rw [if_neg (by simp)]; rfl
  | true =>
    cases inR n 0 10000 with
    | false => rw [if_neg (by simp)]; rfl
    | true =>
      have := inR_iff.1 h1
      have h32 : (hmac s (rollL ++ bytN n 4 4)).length = 32 := hmac_32 _ _ (by omega) (by simp [bytN_len, rollL])
      simp only [Bool.not_true, br_f]
      rw [s_PutN4 _ _ (by simp), ob_s, s_Hmac, ob_s, if_pos ⟨trivial, trivial⟩, show ([((114 : Int), ()), ((111 : Int), ()), ((108 : Int), ()), ((108 : Int), ())] : List YB) = rollL from rfl]
      rw [dec_t (by dsimp only; omega), chk_t, show (12 : Int).toNat = 12 from rfl, show (0 : Int).toNat = 0 from rfl, List.drop_zero, dec_t (by simp; omega), chk_t]
theorem s_l10Copy (d : YDice) (h : d.1.length ≤ 4294967296) : V_s_l10Copy d = some d := by
  unfold V_s_l10Copy T_s_l10Copy
  simp only [val_chk, val_leaf, List.length_nil, Nat.zero_add, List.nil_append]
  rw [dec_t h]; rfl
def rollOf (d : YDice) : YDice × List YB := if diceOk d = true ∧ d.2.1 ≠ 10000 then ((d.1, d.2.1 + 1, ()), diceAt d.1 d.2.1) else (d, [])
theorem rollOf_1 (d : YDice) : (rollOf d).1.1 = d.1 := by unfold rollOf; split <;> rfl
theorem i_Roll (d : YDice) (h : d.1.length ≤ 4294967296) : V_i_Roll d = some ((rollOf d).1, ((rollOf d).2, ())) := by
  unfold V_i_Roll T_i_Roll rollOf
  simp only [val_br, val_ob, val_leaf, i_DiceOk, i_DiceAt]
  rw [i_clone _ h]
  simp only [ob_s]
  cases hd : diceOk d with
  | false => rw [if_neg (by simp)]; rfl
  | true =>
    simp only [Bool.not_true, br_f]
    by_cases h1 : d.2.1 = 10000
    · rw [br_tt (by simp [h1]), if_neg (fun h => h.2 h1)]
    · have := inR_iff.1 (show inR d.2.1 0 10000 = true by unfold diceOk at hd; simp only [Bool.and_eq_true] at hd; exact hd.2)
      rw [br_ff (by simp [h1]), if_pos ⟨trivial, h1⟩, w64 (by omega)]
theorem s_Roll (d : YDice) (h : d.1.length ≤ 4294967296) : V_s_Roll d = some ((rollOf d).1, ((rollOf d).2, ())) := by
  unfold V_s_Roll T_s_Roll rollOf
  simp only [val_br, val_ob, val_leaf, s_DiceOk, s_DiceAt]
  rw [s_l10Copy _ h]
  simp only [ob_s]
  cases hd : diceOk d with
  | false => rw [if_neg (by simp)]; rfl
  | true =>
    simp only [Bool.not_true, br_f]
    by_cases h1 : d.2.1 = 10000
    · rw [br_tt (by simp [h1]), if_neg (fun h => h.2 h1)]
    · have := inR_iff.1 (show inR d.2.1 0 10000 = true by unfold diceOk at hd; simp only [Bool.and_eq_true] at hd; exact hd.2)
      rw [br_ff (by simp [h1]), if_pos ⟨trivial, h1⟩, w64 (by omega)]
def jarNew (r : List YB) : List YB := if r.length = 12 then derive r (strb (bytesLit [106, 97, 114])) else []
theorem jarNew_len (r : List YB) : (jarNew r).length ≤ 32 := by
  unfold jarNew
  split
  · have := derive_len r (strb (bytesLit [106, 97, 114])); omega
  · simp
theorem i_JarNew (r : List YB) : V_i_JarNew (r, ()) = some (jarNew r, ()) := by
  unfold V_i_JarNew T_i_JarNew jarNew
  simp only [val_br, val_ob, val_leaf, i_isNonce, ob_s]
  rw [i_Derive _ _ (by decide)]
  by_cases h : r.length = 12
  · rw [if_pos h, br_ff (by simp [h])]; rfl
  · rw [if_neg h, br_tt (by simp; omega)]
theorem s_JarNew (r : List YB) : V_s_JarNew (r, ()) = some (jarNew r, ()) := by
  unfold V_s_JarNew T_s_JarNew jarNew
  simp only [val_br, val_ob, val_leaf]
  rw [s_Derive _ _ (by decide)]
  by_cases h : r.length = 12
  · rw [if_pos h, br_ff (by simp [h])]; rfl
  · rw [if_neg h, br_tt (by simp; omega)]
theorem i_cloneAll (l : List YBs) (h : l.length + sumN need_Bs l ≤ 4294967296) : V_i_cloneAll (l, ()) = some (l, ()) := by
  have hl := loop_run (B := B_i_cloneAll_3) l.length (fun i => (l.take i, l, (l.length : Int), (i : Int), ())) (l, ())
    (fun i hi => by
      have hx := List.getElem?_eq_getElem hi
      have h2 := sumN_at (f := need_Bs) hx
      simp only [need_Bs] at h2
      unfold B_i_cloneAll_3
      simp only [val_br, val_ob, val_leaf, val_chk, lt_dec hi, br_t, idx_at hx, ob_s]
      rw [i_clone _ (by omega), ob_s, dec_t (by simp; omega), chk_t, w64 (by omega)]
      exact congrArg (fun t => some (Sum.inl (t, l, (l.length : Int), (i : Int) + 1, ()))) (snoc_take hx))
    (by unfold B_i_cloneAll_3; simp only [val_br, val_leaf, ge_dec, br_f, List.take_length])
  unfold V_i_cloneAll T_i_cloneAll
  simp only [val_ob, val_leaf]
  rw [show iterO B_i_cloneAll_3 ([], l, (l.length : Int), (0 : Int), ()) = _ from hl]
  rfl
theorem s_newPsks (l : List YBs) (h : l.length + sumN need_Bs l ≤ 4294967296) (j sd : List YB) (n c : Int) (ss : List YSess) :
    iterO B_s_ServerNew_4 (l, (0 : Int), [], [], [], (0 : Int), (0 : Int), [], [], [], j, sd, n, c, ss, [], ()) = some ([], [], [], (0 : Int), (0 : Int), [], [], l, j, sd, n, c, ss, [], ()) := by
  have hl := loop_run (B := B_s_ServerNew_4) l.length (fun i => (l, (i : Int), [], [], [], (0 : Int), (0 : Int), [], [], l.take i, j, sd, n, c, ss, [], ())) ([], [], [], (0 : Int), (0 : Int), [], [], l, j, sd, n, c, ss, [], ())
    (fun i hi => by
      have hx := List.getElem?_eq_getElem hi
      have h2 := sumN_at (f := need_Bs) hx
      simp only [need_Bs] at h2
      unfold B_s_ServerNew_4
      simp only [val_br, val_ob, val_leaf, val_chk, lt_dec hi, br_t, idx_at hx, ob_s, List.length_nil, Nat.zero_add, List.nil_append]
      rw [dec_t (by omega), chk_t, dec_t (by simp; omega), chk_t, w64 (by omega)]
      exact congrArg (fun t => some (Sum.inl (l, (i : Int) + 1, [], [], [], (0 : Int), (0 : Int), [], [], t, j, sd, n, c, ss, [], ()))) (snoc_take hx))
    (by unfold B_s_ServerNew_4; simp only [val_br, val_leaf, ge_dec, br_f, List.take_length])
  exact hl
theorem ok_ServerNew (ps : List YBs × Unit) (sd : YBs) (n : YI) (h : ps.1.length + sumN need_Bs ps.1 + sd.1.length ≤ 1073741824) :
    ∃ r, V_i_ServerNew ps sd n = some r ∧ V_s_ServerNew ps sd n = some r ∧ need_Server r ≤ ps.1.length + sumN need_Bs ps.1 + sd.1.length + 32 := by
  obtain ⟨t, ht1, ht2, ht3⟩ := ok_TabNew n
  have h1 := rollOf_1 (sd.1, (0 : Int), ())
  have h2 := jarNew_len (rollOf (sd.1, (0 : Int), ())).2
  simp only [need_Tab] at ht3
  unfold V_i_ServerNew T_i_ServerNew V_s_ServerNew T_s_ServerNew
  simp only [val_br, val_ob, val_leaf]
  rw [i_Roll _ (by dsimp only; omega), s_Roll _ (by dsimp only; omega), i_cloneAll ps.1 (by omega)]
  simp only [ob_s, i_JarNew, s_JarNew, ht1, ht2]
  rw [s_newPsks ps.1 (by omega)]
  simp only [ob_s]
  have hn : need_Server (ps.1, jarNew (rollOf (sd.1, (0 : Int), ())).2, (rollOf (sd.1, (0 : Int), ())).1.1, (rollOf (sd.1, (0 : Int), ())).1.2.1, t.1, t.2.1, [], ()) ≤ ps.1.length + sumN need_Bs ps.1 + sd.1.length + 32 := by
    simp only [need_Server, h1, List.length_nil]; omega
  rw [i_ServerOk _ (by omega), s_ServerOk _ (by omega)]
  simp only [ob_s]
  cases serverOk (ps.1, jarNew (rollOf (sd.1, (0 : Int), ())).2, (rollOf (sd.1, (0 : Int), ())).1.1, (rollOf (sd.1, (0 : Int), ())).1.2.1, t.1, t.2.1, [], ()) with
  | false => exact ⟨_, rfl, rfl, by simp [need_Server, sumN]⟩
  | true => exact ⟨_, rfl, rfl, hn⟩
theorem law_ServerNew (ps : List YBs × Unit) (sd : YBs) (n : YI) (hw : ps.1.length ≤ 9223372036854775807 ∧ (∀ (i : Nat) x, ps.1[i]? = some x → lo_Bs x)) : V_l_FnExactServerNew ps sd n = some (true, ()) := by
  unfold V_l_FnExactServerNew T_l_FnExactServerNew
  simp only [val_ob, val_br, val_leaf]
  by_cases h0 : (sd.1.length : Int) > 1048576
  · rw [dec_t h0, br_t]
  · rw [dec_f h0, br_f, sz_ByteSS ps _ (by omega) (by omega) hw, ob_s]
    by_cases h : szR (ps.1.length + sumN need_Bs ps.1) 1048576 < 0
    · rw [br_tt (by simpa using h)]
    · have hb := szR_pos h
      obtain ⟨r, h1, h2, h3⟩ := ok_ServerNew ps sd n (by omega)
      have h5 := wt_le_Server r
      have h6 := sumN_le1 (f := w_B) (fun _ => by simp [w_B]) sd.1
      have h7 := sumN_le (f := w_Bs) (g := need_Bs) w_le_Bs ps.1
      rw [br_ff (by simpa using h)]
      simp (disch := first | omega | (dsimp only; omega)) only [to_ByteSS, to_ByteS, ob_s, h1, h2, eq_Server, eq_ByteS, eq_ByteSS, mark_ByteS, mark_ByteSS, mark_Server, held_Server, Bool.not_true, br_f, nn_dec, bne_self]
end
end Go.Proofs.YtfdfaefafbnceaaGreat

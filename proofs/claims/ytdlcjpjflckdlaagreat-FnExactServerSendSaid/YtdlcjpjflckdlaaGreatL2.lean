/-
  That the program and the reference answer alike, in plain terms, and that the laws answer true.
-/
import Derived.Test.YtdlcjpjflckdlaaGreatL1
namespace Go.Proofs.YtdlcjpjflckdlaaGreat
open Go.RowKit
set_option linter.unusedVariables false
set_option linter.unusedSimpArgs false
set_option maxHeartbeats 4000000
noncomputable section
/-! ## Answers that are true or false -/
theorem br_and (b c : Bool) : br b (some (c, ())) (some (false, ())) = some (b && c, ()) := by cases b <;> rfl
theorem br_or (b c : Bool) : br b (some (true, ())) (some (c, ())) = some (b || c, ()) := by cases b <;> rfl
theorem br_cc (b c d : Bool) : br b (some (c, ())) (some (d, ())) = some (bif b then c else d, ()) := by cases b <;> rfl
def addrOk (a : YAddr) : Bool := inR a.1 0 4294967295 && inR a.2.1 0 65535
theorem i_AddrOk (a : YAddr) : V_i_AddrOk a = some (addrOk a, ()) := by
  unfold V_i_AddrOk T_i_AddrOk addrOk
  simp only [val_br, val_ob, val_leaf, i_within, ob_s, br_and]
theorem s_AddrOk (a : YAddr) : V_s_AddrOk a = some (addrOk a, ()) := by
  unfold V_s_AddrOk T_s_AddrOk addrOk
  simp only [val_br, val_ob, val_leaf, s_l1In, ob_s, br_and]
theorem i_isNonce (a : YBs) : V_i_isNonce a = some ((a.1.length : Int) == 12, ()) := rfl
theorem i_isRole (a : YI) : V_i_isRole a = some (a.1 == 0 || a.1 == 1, ()) := by
  unfold V_i_isRole T_i_isRole
  simp only [val_br, val_leaf, br_or]
theorem role_in (n : Int) : (n == 0 || n == 1) = inR n 0 1 := by
  apply beq_of_iff
  simp [inR]
  omega
def bitW (w : YWin) (n : Int) : Bool :=
  match idx w.2.1 ((n % 1024) / 32) with
  | some e => IntKind.i64.wrap ((BitVec.ofInt (IntKind.i64.bits) (Int.fdiv e.1 (2 ^ (min ((n % 32)).toNat IntKind.i64.bits))) &&& BitVec.ofInt (IntKind.i64.bits) (1 : Int)).toNat : Nat) == 1
  | none => false
theorem i_hasBit (w : YWin) (n : YI) (hl : w.2.1.length = 32) (h0 : 0 ≤ n.1) : V_i_hasBit w n = some (bitW w n.1, ()) := by
  obtain ⟨e, he, _⟩ := idx_some (l := w.2.1) (n := (n.1 % 1024) / 32) (by omega) (by omega)
  unfold V_i_hasBit T_i_hasBit bitW
  simp only [val_chk, val_ob, val_leaf, he, ob_s]
  rw [dec_t h0, dec_t (by omega), dec_t (by omega)]
  rfl
theorem s_l8Bit (w : YWin) (n : YI) (hl : w.2.1.length = 32) (h0 : 0 ≤ n.1) : V_s_l8Bit w n = some (bitW w n.1, ()) := by
  obtain ⟨e, he, _⟩ := idx_some (l := w.2.1) (n := (n.1 % 1024) / 32) (by omega) (by omega)
  unfold V_s_l8Bit T_s_l8Bit bitW
  simp only [val_chk, val_ob, val_leaf, he, ob_s]
  rw [dec_t h0, dec_t (by omega), dec_t (by omega), show (n.1 % 1024) % 32 = n.1 % 32 by omega]
  rfl
def wordsB (l : List YI) : Bool := noneB (fun _ e => !inR e.1 0 4294967295) l
theorem i_areWords (l : List YI) (n : Int) (hl : l.length ≤ 4294967296) : V_i_areWords (l, ()) (n, ()) = some (wordsB l && ((l.length : Int) == n), ()) := by
  have h := loop_none (B := B_i_areWords_2) l (fun i => (l, n, l, (l.length : Int), (i : Int), ())) (fun _ e => !inR e.1 0 4294967295) (false, ()) (l, n, ())
    (fun i x hi hx => by
      unfold B_i_areWords_2
      simp (disch := omega) only [val_br, val_ob, val_leaf, lt_dec hi, br_t, idx_at hx, ob_s, i_within, w64]
      rfl)
    (by unfold B_i_areWords_2; simp only [val_br, val_ob, val_leaf, ge_dec, br_f])
  unfold V_i_areWords T_i_areWords
  simp only [val_ob, val_sm, val_leaf]
  rw [show ((0 : Int)) = ((0 : Nat) : Int) from rfl, h]
  unfold wordsB
  cases noneB (fun _ (e : YI) => !inR e.1 0 4294967295) l <;> rfl
def winTail (w : YWin) : Bool := noneB (fun i (_ : Unit) => bitW w (w.1 + 1 + (i : Nat))) (List.replicate (1024 - (w.1 + 1)).toNat ())
def winOk (w : YWin) : Bool := inR w.1 (-1) 281474976710655 && (wordsB w.2.1 && ((w.2.1.length : Int) == 32) && (winTail w && (w.1 == -1 || bitW w w.1)))
theorem inR_iff {n lo hi : Int} : inR n lo hi = true ↔ lo ≤ n ∧ n ≤ hi := by simp [inR]
theorem i_winTail (t : Int) (l : List YI) (hl : l.length = 32) (h0 : -1 ≤ t) (h1 : t ≤ 281474976710655) : iterO B_i_WinOk_4 (t + 1, t, l, ()) = some (bif winTail (t, l, ()) then .inr (t, l, ()) else .inl (false, ())) := by
  have h := loop_count (B := B_i_WinOk_4) (1024 - (t + 1)).toNat (fun i => (t + 1 + (i : Nat), t, l, ())) (fun i => bitW (t, l, ()) (t + 1 + (i : Nat))) (false, ()) (t, l, ())
    (fun i hi => by
      unfold B_i_WinOk_4
      simp (disch := first | exact hl | (dsimp only; omega) | omega) only [val_br, val_ob, val_leaf, i_hasBit, ob_s, w64]
      rw [dec_t (by omega)]
      simp only [br_t]
      rw [show t + 1 + ((i + 1 : Nat) : Int) = t + 1 + (i : Int) + 1 by omega])
    (by
      unfold B_i_WinOk_4
      simp only [val_br, val_leaf]
      rw [br_ff (by simp; omega)])
  rw [show t + 1 = t + 1 + ((0 : Nat) : Int) by simp, h]
  rfl
theorem i_WinOk (w : YWin) (hl : w.2.1.length ≤ 4294967296) : V_i_WinOk w = some (winOk w, ()) := by
  obtain ⟨t, l, _⟩ := w
  simp only at hl
  unfold V_i_WinOk T_i_WinOk winOk
  simp (disch := omega) only [val_br, val_ob, val_leaf, val_sm, i_within, ob_s, i_areWords]
  cases h1 : inR t (-1) 281474976710655 with
  | false => rfl
  | true =>
    cases h2 : (wordsB l && ((l.length : Int) == 32)) with
    | false => rfl
    | true =>
      have h1 := inR_iff.1 h1
      have h3 : l.length = 32 := by simp at h2; omega
      simp only [Bool.not_true, br_f]
      rw [w64 (by omega), i_winTail t l h3 (by omega) (by omega)]
      cases h4 : winTail (t, l, ()) with
      | false => rfl
      | true =>
        simp only [ob_s, cond_true, sm_r, Bool.true_and]
        by_cases h5 : t = -1
        · subst h5; rfl
        · rw [i_hasBit _ _ h3 (by dsimp only; omega), ob_s, br_or]
theorem s_winTail (t : Int) (l : List YI) (hl : l.length = 32) (h0 : -1 ≤ t) (h1 : t ≤ 281474976710655) : iterO B_s_WinOk_11 (t + 1, t, l, ()) = some (bif winTail (t, l, ()) then .inr () else .inl (false, ())) := by
  have h := loop_count (B := B_s_WinOk_11) (1024 - (t + 1)).toNat (fun i => (t + 1 + (i : Nat), t, l, ())) (fun i => bitW (t, l, ()) (t + 1 + (i : Nat))) (false, ()) ()
    (fun i hi => by
      unfold B_s_WinOk_11
      simp (disch := first | exact hl | (dsimp only; omega) | omega) only [val_br, val_ob, val_leaf, s_l8Bit, ob_s, w64]
      rw [dec_t (by omega)]
      simp only [br_t]
      rw [show t + 1 + ((i + 1 : Nat) : Int) = t + 1 + (i : Int) + 1 by omega])
    (by
      unfold B_s_WinOk_11
      simp only [val_br, val_leaf]
      rw [br_ff (by simp; omega)])
  rw [show t + 1 = t + 1 + ((0 : Nat) : Int) by simp, h]
  rfl
theorem s_winWords (t : Int) (l : List YI) (hl : l.length = 32) : iterO B_s_WinOk_4 (0, t, l, ()) = some (bif wordsB l then .inr (t, l, ()) else .inl (false, ())) := by
  have h := loop_none (B := B_s_WinOk_4) l (fun i => ((i : Int), t, l, ())) (fun _ e => !inR e.1 0 4294967295) (false, ()) (t, l, ())
    (fun i x hi hx => by
      unfold B_s_WinOk_4
      rw [hl] at hi
      simp (disch := omega) only [val_br, val_ob, val_leaf, idx_at hx, ob_s, s_l1In, w64]
      rw [dec_t (by omega)]
      rfl)
    (by unfold B_s_WinOk_4; simp only [val_br, val_ob, val_leaf, hl]; rfl)
  rw [show ((0 : Int)) = ((0 : Nat) : Int) from rfl, h]
  rfl
theorem s_WinOk (w : YWin) : V_s_WinOk w = some (winOk w, ()) := by
  obtain ⟨t, l, _⟩ := w
  unfold V_s_WinOk T_s_WinOk winOk
  simp only [val_br, val_ob, val_leaf, val_sm, s_l1In, ob_s]
  by_cases h3 : l.length = 32
  · rw [br_ff (by simp [h3])]
    cases h1 : inR t (-1) 281474976710655 with
    | false => rfl
    | true =>
      have h1 := inR_iff.1 h1
      simp only [Bool.not_true, br_f]
      rw [s_winWords t l h3]
      cases h2 : wordsB l with
      | false => rfl
      | true =>
        simp only [ob_s, cond_true, sm_r, Bool.true_and, h3]
        rw [w64 (by omega), s_winTail t l h3 (by omega) (by omega)]
        by_cases h5 : t = -1
        · subst h5
          rw [br_ff (by simp)]
          cases winTail (-1, l, ()) <;> rfl
        · rw [br_tt (by simp; omega), s_l8Bit _ _ h3 (by dsimp only; omega), ob_s]
          have h6 : (t == -1) = false := by simpa using h5
          rw [h6]
          cases bitW (t, l, ()) t <;> cases winTail (t, l, ()) <;> rfl
  · rw [br_tt (by simpa using (by omega : ¬ ((l.length : Int) = 32)))]
    have : ((l.length : Int) == 32) = false := by simpa using (by omega : ¬ ((l.length : Int) = 32))
    rw [this]
    simp
def epOk (e : YEp) : Bool := inR e.1 0 4294967295 && (((e.2.1.length : Int) == 32) && (inR e.2.2.1 0 281474976710656 && winOk (e.2.2.2.1, e.2.2.2.2.1, ())))
theorem i_EpOk (e : YEp) (h : e.2.2.2.2.1.length ≤ 4294967296) : V_i_EpOk e = some (epOk e, ()) := by
  unfold V_i_EpOk T_i_EpOk epOk
  simp (disch := first | exact h) only [val_br, val_ob, val_leaf, i_within, ob_s, br_and, i_WinOk]
theorem s_EpOk (e : YEp) : V_s_EpOk e = some (epOk e, ()) := by
  unfold V_s_EpOk T_s_EpOk epOk
  simp only [val_br, val_ob, val_leaf, s_l1In, ob_s, br_and, s_WinOk]
def ep0 (e : YEp) : Bool := (e.1 == 0) && (((e.2.1.length : Int) == 0) && ((e.2.2.1 == 0) && ((e.2.2.2.1 == 0) && ((e.2.2.2.2.1.length : Int) == 0))))
theorem s_l14None (e : YEp) : V_s_l14None e = some (ep0 e, ()) := by
  unfold V_s_l14None T_s_l14None ep0
  simp only [val_br, val_leaf, br_and]
theorem sameB_nil (l : List YB) : sameB l [] = ((l.length : Int) == 0) := by
  apply beq_of_iff
  unfold sameB bstr
  cases l <;> simp
  omega
theorem i_sameInts_nil (l : List YI) : V_i_sameInts (l, ()) ([], ()) = some ((l.length : Int) == 0, ()) := by
  unfold V_i_sameInts T_i_sameInts
  simp only [val_br, val_ob, val_leaf, val_sm]
  cases l with
  | nil =>
    rw [br_ff (by simp)]
    rw [iterO_eq]
    rfl
  | cons x r =>
    rw [br_tt (by simp; omega)]
    simp; omega
theorem i_sameEp0 (e : YEp) : V_i_sameEp e ((0 : Int), [], (0 : Int), (0 : Int), [], ()) = some (ep0 e, ()) := by
  unfold V_i_sameEp T_i_sameEp ep0
  simp only [val_br, val_ob, val_leaf, bytes_Equal, sameB_nil, i_sameInts_nil, ob_s, br_and]
def chan0 (c : YChan) : Bool := (c.1 == 0) && (((c.2.1.length : Int) == 0) && (ep0 (c.2.2.1, c.2.2.2.1, c.2.2.2.2.1, c.2.2.2.2.2.1, c.2.2.2.2.2.2.1, ()) && (ep0 (c.2.2.2.2.2.2.2.1, c.2.2.2.2.2.2.2.2.1, c.2.2.2.2.2.2.2.2.2.1, c.2.2.2.2.2.2.2.2.2.2.1, c.2.2.2.2.2.2.2.2.2.2.2.1, ()) &&
  (!c.2.2.2.2.2.2.2.2.2.2.2.2.1 && ((c.2.2.2.2.2.2.2.2.2.2.2.2.2.1 == 0) && ((c.2.2.2.2.2.2.2.2.2.2.2.2.2.2.1.length : Int) == 0))))))
theorem i_isZeroChan (c : YChan) : V_i_isZeroChan c = some (chan0 c, ()) := by
  unfold V_i_isZeroChan T_i_isZeroChan chan0
  simp only [val_br, val_ob, val_leaf, i_sameEp0, ob_s, br_and]
theorem s_l19NoChan (c : YChan) : V_s_l19NoChan c = some (chan0 c, ()) := by
  unfold V_s_l19NoChan T_s_l19NoChan chan0
  simp only [val_br, val_ob, val_leaf, s_l14None, ob_s, br_and]
abbrev curOf (c : YChan) : YEp := (c.2.2.1, c.2.2.2.1, c.2.2.2.2.1, c.2.2.2.2.2.1, c.2.2.2.2.2.2.1, ())
abbrev oldOf (c : YChan) : YEp := (c.2.2.2.2.2.2.2.1, c.2.2.2.2.2.2.2.2.1, c.2.2.2.2.2.2.2.2.2.1, c.2.2.2.2.2.2.2.2.2.2.1, c.2.2.2.2.2.2.2.2.2.2.2.1, ())
abbrev hasOld (c : YChan) : Bool := c.2.2.2.2.2.2.2.2.2.2.2.2.1
abbrev untilOf (c : YChan) : Int := c.2.2.2.2.2.2.2.2.2.2.2.2.2.1
abbrev nextOf (c : YChan) : List YB := c.2.2.2.2.2.2.2.2.2.2.2.2.2.2.1
def oldOk (c : YChan) : Bool := bif !hasOld c then ep0 (oldOf c) && (untilOf c == 0) else
  !!epOk (oldOf c) && (!((oldOf c).1 != IntKind.i64.wrap ((curOf c).1 - 1)) && (inR (untilOf c) 0 1000005 || ((untilOf c == -1) && (c.1 == 1))))
def chanOk (c : YChan) : Bool := !!(c.1 == 0 || c.1 == 1) && (!!((c.2.1.length : Int) == 12) && (!!epOk (curOf c) && (!!oldOk c && (((nextOf c).length : Int) == 0 || ((c.1 == 0) && ((((nextOf c).length : Int) == 32) && decide ((curOf c).1 < 4294967295)))))))
theorem i_oldOk (c : YChan) (h : (oldOf c).2.2.2.2.1.length ≤ 4294967296) : V_i_oldOk c = some (oldOk c, ()) := by
  unfold V_i_oldOk T_i_oldOk oldOk
  simp (disch := first | exact h) only [val_br, val_ob, val_leaf, i_sameEp0, ob_s, i_EpOk, i_within, br_cc, Bool.cond_false_right, Bool.cond_true_left, Bool.cond_false_left]
theorem i_ChanOk (c : YChan) (h1 : (curOf c).2.2.2.2.1.length ≤ 4294967296) (h2 : (oldOf c).2.2.2.2.1.length ≤ 4294967296) : V_i_ChanOk c = some (chanOk c, ()) := by
  unfold V_i_ChanOk T_i_ChanOk chanOk
  simp (disch := first | exact h1 | exact h2) only [val_br, val_ob, val_leaf, i_isRole, i_isNonce, ob_s, i_EpOk, i_oldOk, br_cc, Bool.cond_false_right, Bool.cond_true_left, Bool.cond_false_left]
theorem s_ChanOk (c : YChan) : V_s_ChanOk c = some (chanOk c, ()) := by
  obtain ⟨role, sn, n1, k1, q1, t1, b1, n2, k2, q2, t2, b2, has, til, next, _⟩ := c
  unfold V_s_ChanOk T_s_ChanOk chanOk oldOk
  simp only [val_br, val_ob, val_leaf, s_l1In, ob_s, s_EpOk, s_l14None, br_cc, Bool.cond_false_right, Bool.cond_true_left, Bool.cond_false_left, role_in, curOf, oldOf, hasOld, untilOf, nextOf]
  refine congrArg (fun b => some (b, ())) ?_
  cases h1 : inR role 0 1 with
  | false => rfl
  | true =>
    have h1 := inR_iff.1 h1
    cases has with
    | false => simp [bne, Bool.and_assoc]
    | true =>
      rcases (show role = 0 ∨ role = 1 by omega) with rfl | rfl
      · simp [bne, Bool.and_assoc]
      · have e2 : inR til (-1) 1000005 = (inR til 0 1000005 || til == -1) := by
          apply beq_of_iff; simp [inR]; omega
        simp [bne, Bool.and_assoc, e2]
end
end Go.Proofs.YtdlcjpjflckdlaaGreat

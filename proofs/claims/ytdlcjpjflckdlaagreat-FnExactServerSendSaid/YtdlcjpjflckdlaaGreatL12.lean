/-
  That the program and the reference answer alike, in plain terms, and that the laws answer true.
-/
import Derived.Test.YtdlcjpjflckdlaaGreatL11
namespace Go.Proofs.YtdlcjpjflckdlaaGreat
open Go.RowKit
set_option linter.unusedVariables false
set_option linter.unusedSimpArgs false
set_option maxRecDepth 100000
set_option maxHeartbeats 4000000
noncomputable section
/-! ## Copies are what they are copies of -/
theorem i_copyWin (d : YWin) (h : need_Win d ≤ 4294967296) : V_i_copyWin d = some d := by
  simp only [need_Win] at h
  unfold V_i_copyWin T_i_copyWin
  simp only [val_chk, val_leaf, List.length_nil, Nat.zero_add, List.nil_append]
  rw [dec_t h]; rfl
theorem s_l8Copy (d : YWin) (h : need_Win d ≤ 4294967296) : V_s_l8Copy d = some d := i_copyWin d h
theorem i_copyEp (d : YEp) (h : need_Ep d ≤ 4294967296) : V_i_copyEp d = some d := by
  simp only [need_Ep] at h
  unfold V_i_copyEp T_i_copyEp
  simp (disch := first | omega | (dsimp only; omega) | (simp only [need_Win]; omega)) only [val_ob, val_leaf, i_clone, i_copyWin, ob_s]
theorem s_l9Copy (d : YEp) (h : need_Ep d ≤ 4294967296) : V_s_l9Copy d = some d := by
  simp only [need_Ep] at h
  unfold V_s_l9Copy T_s_l9Copy
  simp (disch := first | omega | (dsimp only; omega) | (simp only [need_Win]; omega)) only [val_ob, val_chk, val_leaf, s_l8Copy, ob_s, List.length_nil, Nat.zero_add, List.nil_append, dec_t, chk_t]
theorem s_l14Ep (d : YEp) (b : Bool × Unit) (h : need_Ep d ≤ 4294967296) : V_s_l14Ep d b = some d := by
  have h' := h
  simp only [need_Ep] at h
  unfold V_s_l14Ep T_s_l14Ep
  simp (disch := first | omega | (dsimp only; omega)) only [val_br, val_ob, val_chk, val_leaf, s_l9Copy, ob_s, List.length_nil, Nat.zero_add, List.nil_append, dec_t, chk_t]
  cases b.1 <;> rfl
theorem i_copyChan (d : YChan) (h : need_Chan d ≤ 4294967296) : V_i_copyChan d = some d := by
  simp only [need_Chan] at h
  unfold V_i_copyChan T_i_copyChan
  simp (disch := first | omega | (dsimp only; omega) | (simp only [need_Ep]; omega)) only [val_ob, val_chk, val_leaf, i_clone, i_copyEp, ob_s]
theorem s_l14Copy (d : YChan) (h : need_Chan d ≤ 4294967296) : V_s_l14Copy d = some d := by
  simp only [need_Chan] at h
  unfold V_s_l14Copy T_s_l14Copy
  simp (disch := first | omega | (dsimp only; omega) | (simp only [need_Ep]; omega)) only [val_ob, val_chk, val_leaf, s_l9Copy, s_l14Ep, ob_s, List.length_nil, Nat.zero_add, List.nil_append, dec_t, chk_t]
theorem i_copyPaths (d : YPaths) (h : need_Paths d ≤ 4294967296) : V_i_copyPaths d = some d := by
  obtain ⟨a, b, l, ⟨⟩⟩ := d
  simp only [need_Paths] at h
  have hl := loop_run (B := B_i_copyPaths_3) l.length (fun i => (l, (l.length : Int), (i : Int), (0 : Int), (0 : Int), ([] : List YCand), a, b, l.take i, ())) ((0 : Int), (0 : Int), ([] : List YCand), a, b, l, ())
    (fun i hi => by
      have hx := List.getElem?_eq_getElem hi
      have h2 := sumN_at (f := need_Cand) hx
      simp only [need_Cand] at h2
      unfold B_i_copyPaths_3
      simp only [val_br, val_ob, val_leaf, val_chk, lt_dec hi, br_t, idx_at hx, ob_s]
      rw [i_clone _ (by dsimp only; omega), ob_s, dec_t (by simp; omega), chk_t, w64 (by omega)]
      exact congrArg (fun t => some (Sum.inl (l, (l.length : Int), (i : Int) + 1, (0 : Int), (0 : Int), ([] : List YCand), a, b, t, ()))) (snoc_take hx))
    (by unfold B_i_copyPaths_3; simp only [val_br, val_leaf, ge_dec, br_f, List.take_length])
  unfold V_i_copyPaths T_i_copyPaths
  simp only [val_ob, val_leaf]
  rw [show iterO B_i_copyPaths_3 (l, (l.length : Int), (0 : Int), (0 : Int), (0 : Int), ([] : List YCand), a, b, ([] : List YCand), ()) = _ from hl]
  rfl
theorem s_l16Cand (d : YCand) (h : need_Cand d ≤ 4294967296) : V_s_l16Cand d = some d := by
  simp only [need_Cand] at h
  unfold V_s_l16Cand T_s_l16Cand
  simp only [val_chk, val_leaf, List.length_nil, Nat.zero_add, List.nil_append]
  rw [dec_t h]; rfl
theorem s_l16Copy (d : YPaths) (h : need_Paths d ≤ 4294967296) : V_s_l16Copy d = some d := by
  obtain ⟨a, b, l, ⟨⟩⟩ := d
  simp only [need_Paths] at h
  have hl := loop_run (B := B_s_l16Copy_3) l.length (fun i => ((i : Int), a, b, l, (0 : Int), (0 : Int), ([] : List YCand), a, b, l.take i, ())) ((0 : Int), (0 : Int), ([] : List YCand), a, b, l, ())
    (fun i hi => by
      have hx := List.getElem?_eq_getElem hi
      have h2 := sumN_at (f := need_Cand) hx
      unfold B_s_l16Copy_3
      simp only [val_br, val_ob, val_leaf, val_chk, lt_dec hi, br_t, idx_at hx, ob_s]
      rw [s_l16Cand _ (by omega), ob_s, dec_t (by simp; omega), chk_t, w64 (by omega)]
      exact congrArg (fun t => some (Sum.inl ((i : Int) + 1, a, b, l, (0 : Int), (0 : Int), ([] : List YCand), a, b, t, ()))) (snoc_take hx))
    (by unfold B_s_l16Copy_3; simp only [val_br, val_leaf, ge_dec, br_f, List.take_length])
  unfold V_s_l16Copy T_s_l16Copy
  simp only [val_ob, val_leaf]
  rw [show iterO B_s_l16Copy_3 ((0 : Int), a, b, l, (0 : Int), (0 : Int), ([] : List YCand), a, b, ([] : List YCand), ()) = _ from hl]
  rfl
theorem i_copySess (d : YSess) (h : need_Sess d ≤ 4294967296) : V_i_copySess d = some d := by
  simp only [need_Sess] at h
  unfold V_i_copySess T_i_copySess
  simp (disch := first | omega | (dsimp only; omega) | (simp only [need_Chan]; omega) | (simp only [need_Paths]; omega)) only [val_ob, val_chk, val_leaf, i_clone, i_copyChan, i_copyPaths, ob_s]
theorem s_l20Copy (d : YSess) (h : need_Sess d ≤ 4294967296) : V_s_l20Copy d = some d := by
  simp only [need_Sess] at h
  unfold V_s_l20Copy T_s_l20Copy
  simp (disch := first | omega | (dsimp only; omega) | (simp only [need_Chan]; omega) | (simp only [need_Paths]; omega)) only [val_ob, val_chk, val_leaf, s_l14Copy, s_l16Copy, ob_s, List.length_nil, Nat.zero_add, List.nil_append, dec_t, chk_t]
theorem i_copyTab (d : YTab) (h : need_Tab d ≤ 4294967296) : V_i_copyTab d = some d := by
  obtain ⟨c, l, ⟨⟩⟩ := d
  simp only [need_Tab] at h
  have hl := loop_run (B := B_i_copyTab_3) l.length (fun i => (l, (l.length : Int), (i : Int), (0 : Int), ([] : List YSess), c, l.take i, ())) ((0 : Int), ([] : List YSess), c, l, ())
    (fun i hi => by
      have hx := List.getElem?_eq_getElem hi
      have h2 := sumN_at (f := need_Sess) hx
      unfold B_i_copyTab_3
      simp only [val_br, val_ob, val_leaf, val_chk, lt_dec hi, br_t, idx_at hx, ob_s]
      rw [i_copySess _ (by omega), ob_s, dec_t (by simp; omega), chk_t, w64 (by omega)]
      exact congrArg (fun t => some (Sum.inl (l, (l.length : Int), (i : Int) + 1, (0 : Int), ([] : List YSess), c, t, ()))) (snoc_take hx))
    (by unfold B_i_copyTab_3; simp only [val_br, val_leaf, ge_dec, br_f, List.take_length])
  unfold V_i_copyTab T_i_copyTab
  simp only [val_ob, val_leaf]
  rw [show iterO B_i_copyTab_3 (l, (l.length : Int), (0 : Int), (0 : Int), ([] : List YSess), c, ([] : List YSess), ()) = _ from hl]
  rfl
theorem s_l21Copy (d : YTab) (h : need_Tab d ≤ 4294967296) : V_s_l21Copy d = some d := by
  obtain ⟨c, l, ⟨⟩⟩ := d
  simp only [need_Tab] at h
  have hl := loop_run (B := B_s_l21Copy_3) l.length (fun i => ((i : Int), c, l, (0 : Int), ([] : List YSess), c, l.take i, ())) ((0 : Int), ([] : List YSess), c, l, ())
    (fun i hi => by
      have hx := List.getElem?_eq_getElem hi
      have h2 := sumN_at (f := need_Sess) hx
      unfold B_s_l21Copy_3
      simp only [val_br, val_ob, val_leaf, val_chk, lt_dec hi, br_t, idx_at hx, ob_s]
      rw [s_l20Copy _ (by omega), ob_s, dec_t (by simp; omega), chk_t, w64 (by omega)]
      exact congrArg (fun t => some (Sum.inl ((i : Int) + 1, c, l, (0 : Int), ([] : List YSess), c, t, ()))) (snoc_take hx))
    (by unfold B_s_l21Copy_3; simp only [val_br, val_leaf, ge_dec, br_f, List.take_length])
  unfold V_s_l21Copy T_s_l21Copy
  simp only [val_ob, val_leaf]
  rw [show iterO B_s_l21Copy_3 ((0 : Int), c, l, (0 : Int), ([] : List YSess), c, ([] : List YSess), ()) = _ from hl]
  rfl
def pskOk (b : YBs) : Bool := inR (b.1.length : Int) 1 32
theorem i_PskOk (b : YBs) : V_i_PskOk b = some (pskOk b, ()) := by
  unfold V_i_PskOk T_i_PskOk
  simp only [val_ob, val_leaf, i_within, ob_s]; rfl
theorem s_PskOk (b : YBs) : V_s_PskOk b = some (pskOk b, ()) := by
  unfold V_s_PskOk T_s_PskOk
  simp only [val_ob, val_leaf, s_l1In, ob_s]; rfl
theorem i_JarOk (b : YBs) : V_i_JarOk b = some ((b.1.length : Int) == 32, ()) := rfl
theorem s_JarOk (b : YBs) : V_s_JarOk b = some ((b.1.length : Int) == 32, ()) := rfl
def diceOk (d : YDice) : Bool := inR (d.1.length : Int) 1 32 && inR d.2.1 0 10000
theorem i_DiceOk (d : YDice) : V_i_DiceOk d = some (diceOk d, ()) := by
  unfold V_i_DiceOk T_i_DiceOk
  simp only [val_br, val_ob, val_leaf, i_within, ob_s, br_and]; rfl
theorem s_DiceOk (d : YDice) : V_s_DiceOk d = some (diceOk d, ()) := by
  unfold V_s_DiceOk T_s_DiceOk
  simp only [val_br, val_ob, val_leaf, s_l1In, ob_s, br_and]; rfl
def serverOk (s : YServer) : Bool :=
  inR (s.1.length : Int) 1 9 && (((s.2.1.length : Int) == 32) && (diceOk (s.2.2.1, s.2.2.2.1, ()) && (tabOk (s.2.2.2.2.1, s.2.2.2.2.2.1, ()) && (creditsOk s.2.2.2.2.2.2.1 &&
    (noneB (fun _ x => !pskOk x) s.1 && noneB (fun _ (x : YSess) => decide (x.1 > (s.1.length : Int))) s.2.2.2.2.2.1)))))
theorem i_ServerOk (s : YServer) (h : need_Server s ≤ 4294967296) : V_i_ServerOk s = some (serverOk s, ()) := by
  obtain ⟨ps, jar, sd, n, cap, ss, cr, ⟨⟩⟩ := s
  simp only [need_Server] at h
  have hl1 := loop_none (B := B_i_ServerOk_4) ps (fun i => (ps, (ps.length : Int), (i : Int), ps, jar, sd, n, cap, ss, cr, ())) (fun _ x => !pskOk x) (false, ()) (ps, jar, sd, n, cap, ss, cr, ())
    (fun i x hi hx => by
      unfold B_i_ServerOk_4
      simp (disch := omega) only [val_br, val_ob, val_leaf, lt_dec hi, br_t, idx_at hx, ob_s, w64, i_PskOk]
      rfl)
    (by unfold B_i_ServerOk_4; simp only [val_br, val_leaf, ge_dec, br_f])
  have hl2 := loop_none (B := B_i_ServerOk_10) ss (fun i => (ss, (ss.length : Int), (i : Int), ps, jar, sd, n, cap, ss, cr, ())) (fun _ x => decide (x.1 > (ps.length : Int))) (false, ()) ()
    (fun i x hi hx => by
      unfold B_i_ServerOk_10
      simp (disch := omega) only [val_br, val_ob, val_leaf, lt_dec hi, br_t, idx_at hx, ob_s, w64]
      rfl)
    (by unfold B_i_ServerOk_10; simp only [val_br, val_leaf, ge_dec, br_f])
  unfold V_i_ServerOk T_i_ServerOk serverOk
  simp only [val_br, val_ob, val_leaf, val_sm, i_within, ob_s, i_JarOk, i_DiceOk]
  rw [i_TabOk _ (by simp only [need_Tab]; omega), i_CreditsOk _ (by omega), show ((0 : Int)) = ((0 : Nat) : Int) from rfl, hl1]
  simp only [ob_s]
  cases inR (ps.length : Int) 1 9 with
  | false => rfl
  | true =>
    cases ((jar.length : Int) == 32) with
    | false => rfl
    | true =>
      cases diceOk (sd, n, ()) with
      | false => rfl
      | true =>
        cases tabOk (cap, ss, ()) with
        | false => rfl
        | true =>
          cases creditsOk cr with
          | false => rfl
          | true =>
            cases noneB (fun _ x => !pskOk x) ps with
            | false => rfl
            | true =>
              simp only [Bool.not_true, br_f, cond_true, sm]
              rw [hl2]
              cases noneB (fun _ (x : YSess) => decide (x.1 > (ps.length : Int))) ss <;> rfl
theorem s_ServerOk (s : YServer) (h : need_Server s ≤ 4294967296) : V_s_ServerOk s = some (serverOk s, ()) := by
  obtain ⟨ps, jar, sd, n, cap, ss, cr, ⟨⟩⟩ := s
  simp only [need_Server] at h
  have hl1 := loop_none (B := B_s_ServerOk_4) ps (fun i => ((i : Int), ps, jar, sd, n, cap, ss, cr, ())) (fun _ x => !pskOk x) (false, ()) (ps, jar, sd, n, cap, ss, cr, ())
    (fun i x hi hx => by
      unfold B_s_ServerOk_4
      simp (disch := omega) only [val_br, val_ob, val_leaf, lt_dec hi, br_t, idx_at hx, ob_s, w64, s_PskOk]
      rfl)
    (by unfold B_s_ServerOk_4; simp only [val_br, val_leaf, ge_dec, br_f])
  have hl2 := loop_none (B := B_s_ServerOk_9) ss (fun i => ((i : Int), ps, jar, sd, n, cap, ss, cr, ())) (fun _ x => decide (x.1 > (ps.length : Int))) (false, ()) ()
    (fun i x hi hx => by
      unfold B_s_ServerOk_9
      simp (disch := omega) only [val_br, val_ob, val_leaf, lt_dec hi, br_t, idx_at hx, ob_s, w64]
      rfl)
    (by unfold B_s_ServerOk_9; simp only [val_br, val_leaf, ge_dec, br_f])
  unfold V_s_ServerOk T_s_ServerOk serverOk
  simp only [val_br, val_ob, val_leaf, val_sm, s_l1In, ob_s, s_JarOk, s_DiceOk]
  rw [s_TabOk _ (by simp only [need_Tab]; omega), s_CreditsOk _ (by omega), show ((0 : Int)) = ((0 : Nat) : Int) from rfl, hl1]
  simp only [ob_s]
  cases inR (ps.length : Int) 1 9 with
  | false => rfl
  | true =>
    cases ((jar.length : Int) == 32) with
    | false => rfl
    | true =>
      cases diceOk (sd, n, ()) with
      | false => rfl
      | true =>
        cases tabOk (cap, ss, ()) with
        | false => rfl
        | true =>
          cases creditsOk cr with
          | false => rfl
          | true =>
            cases noneB (fun _ x => !pskOk x) ps with
            | false => rfl
            | true =>
              simp only [Bool.not_true, br_f, cond_true, sm]
              rw [hl2]
              cases noneB (fun _ (x : YSess) => decide (x.1 > (ps.length : Int))) ss <;> rfl
end
end Go.Proofs.YtdlcjpjflckdlaaGreat

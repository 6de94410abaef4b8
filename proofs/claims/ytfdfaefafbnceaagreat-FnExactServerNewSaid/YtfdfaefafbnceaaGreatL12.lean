/-
  That the program and the reference answer alike, in plain terms, and that the laws answer true.
-/
import Derived.Test.YtfdfaefafbnceaaGreatL11
namespace Go.Proofs.YtfdfaefafbnceaaGreat
open Go.RowKit
set_option linter.unusedVariables false
set_option linter.unusedSimpArgs false
set_option maxRecDepth 100000
set_option maxHeartbeats 4000000
noncomputable section
/-! ## Copies are what they are copies of -/
def pskOk (b : YBs) : Bool := inR (b.1.length : Int) 1 32
theorem i_PskOk (b : YBs) : V_i_PskOk b = some (pskOk b, ()) := by
  unfold V_i_PskOk T_i_PskOk
  simp only [val_ob, val_leaf, i_within, ob_s]; rfl
theorem s_PskOk (b : YBs) : V_s_PskOk b = some (pskOk b, ()) := by
  unfold V_s_PskOk T_s_PskOk
  simp only [val_ob, val_leaf, s_l1In, ob_s]; rfl
theorem i_JarOk (b : YBs) : V_i_JarOk b = some ((b.1.length : Int) == 32, ()) := rfl
theorem s_JarOk (b : YBs) : V_s_JarOk b = some ((b.1.length : Int) == 32, ()) := rfl
def diceOk (d : YDice) : Bool := inR (d.1.length : Int) 1 32 && inR d.2.1 0 10000
theorem i_DiceOk (d : YDice) : V_i_DiceOk d = some (diceOk d, ()) := by
  unfold V_i_DiceOk T_i_DiceOk
  simp only [val_br, val_ob, val_leaf, i_within, ob_s, br_and]; rfl
theorem s_DiceOk (d : YDice) : V_s_DiceOk d = some (diceOk d, ()) := by
  unfold V_s_DiceOk T_s_DiceOk
  simp only [val_br, val_ob, val_leaf, s_l1In, ob_s, br_and]; rfl
def serverOk (s : YServer) : Bool :=
  inR (s.1.length : Int) 1 9 && (((s.2.1.length : Int) == 32) && (diceOk (s.2.2.1, s.2.2.2.1, ()) && (tabOk (s.2.2.2.2.1, s.2.2.2.2.2.1, ()) && (creditsOk s.2.2.2.2.2.2.1 &&
    (noneB (fun _ x => !pskOk x) s.1 && noneB (fun _ (x : YSess) => decide (x.1 > (s.1.length : Int))) s.2.2.2.2.2.1)))))
theorem i_ServerOk (s : YServer) (h : need_Server s ≤ 4294967296) : V_i_ServerOk s = some (serverOk s, ()) := by
  obtain ⟨ps, jar, sd, n, cap, ss, cr, ⟨⟩⟩ := s
  simp only [need_Server] at h
  have hl1 := loop_none (B := B_i_ServerOk_4) ps (fun i => (ps, (ps.length : Int), (i : Int), ps, jar, sd, n, cap, ss, cr, ())) (fun _ x => !pskOk x) (false, ()) (ps, jar, sd, n, cap, ss, cr, ())
    (fun i x hi hx => by
      unfold B_i_ServerOk_4
      simp (disch := omega) only [val_br, val_ob, val_leaf, lt_dec hi, br_t, idx_at hx, ob_s, w64, i_PskOk]
      rfl)
    (by unfold B_i_ServerOk_4; simp only [val_br, val_leaf, ge_dec, br_f])
  have hl2 := loop_none (B := B_i_ServerOk_10) ss (fun i => (ss, (ss.length : Int), (i : Int), ps, jar, sd, n, cap, ss, cr, ())) (fun _ x => decide (x.1 > (ps.length : Int))) (false, ()) ()
    (fun i x hi hx => by
      unfold B_i_ServerOk_10
      simp (disch := omega) only [val_br, val_ob, val_leaf, lt_dec hi, br_t, idx_at hx, ob_s, w64]
      rfl)
    (by unfold B_i_ServerOk_10; simp only [val_br, val_leaf, ge_dec, br_f])
  unfold V_i_ServerOk T_i_ServerOk serverOk
  simp only [val_br, val_ob, val_leaf, val_sm, i_within, ob_s, i_JarOk, i_DiceOk]
  rw [i_TabOk _ (by simp only [need_Tab]; omega), i_CreditsOk _ (by omega), show ((0 : Int)) = ((0 : Nat) : Int) from rfl, hl1]
  simp only [ob_s]
  cases inR (ps.length : Int) 1 9 with
  | false => rfl
  | true =>
    cases ((jar.length : Int) == 32) with
    | false => rfl
    | true =>
      cases diceOk (sd, n, ()) with
      | false => rfl
      | true =>
        cases tabOk (cap, ss, ()) with
        | false => rfl
        | true =>
          cases creditsOk cr with
          | false => rfl
          | true =>
            cases noneB (fun _ x => !pskOk x) ps with
            | false => rfl
            | true =>
              simp only [Bool.not_true, br_f, cond_true, sm]
              rw [hl2]
              cases noneB (fun _ (x : YSess) => decide (x.1 > (ps.length : Int))) ss <;> rfl
theorem s_ServerOk (s : YServer) (h : need_Server s ≤ 4294967296) : V_s_ServerOk s = some (serverOk s, ()) := by
  obtain ⟨ps, jar, sd, n, cap, ss, cr, ⟨⟩⟩ := s
  simp only [need_Server] at h
  have hl1 := loop_none (B := B_s_ServerOk_4) ps (fun i => ((i : Int), ps, jar, sd, n, cap, ss, cr, ())) (fun _ x => !pskOk x) (false, ()) (ps, jar, sd, n, cap, ss, cr, ())
    (fun i x hi hx => by
      unfold B_s_ServerOk_4
      simp (disch := omega) only [val_br, val_ob, val_leaf, lt_dec hi, br_t, idx_at hx, ob_s, w64, s_PskOk]
      rfl)
    (by unfold B_s_ServerOk_4; simp only [val_br, val_leaf, ge_dec, br_f])
  have hl2 := loop_none (B := B_s_ServerOk_9) ss (fun i => ((i : Int), ps, jar, sd, n, cap, ss, cr, ())) (fun _ x => decide (x.1 > (ps.length : Int))) (false, ()) ()
    (fun i x hi hx => by
      unfold B_s_ServerOk_9
      simp (disch := omega) only [val_br, val_ob, val_leaf, lt_dec hi, br_t, idx_at hx, ob_s, w64]
      rfl)
    (by unfold B_s_ServerOk_9; simp only [val_br, val_leaf, ge_dec, br_f])
  unfold V_s_ServerOk T_s_ServerOk serverOk
  simp only [val_br, val_ob, val_leaf, val_sm, s_l1In, ob_s, s_JarOk, s_DiceOk]
  rw [s_TabOk _ (by simp only [need_Tab]; omega), s_CreditsOk _ (by omega), show ((0 : Int)) = ((0 : Nat) : Int) from rfl, hl1]
  simp only [ob_s]
  cases inR (ps.length : Int) 1 9 with
  | false => rfl
  | true =>
    cases ((jar.length : Int) == 32) with
    | false => rfl
    | true =>
      cases diceOk (sd, n, ()) with
      | false => rfl
      | true =>
        cases tabOk (cap, ss, ()) with
        | false => rfl
        | true =>
          cases creditsOk cr with
          | false => rfl
          | true =>
            cases noneB (fun _ x => !pskOk x) ps with
            | false => rfl
            | true =>
              simp only [Bool.not_true, br_f, cond_true, sm]
              rw [hl2]
              cases noneB (fun _ (x : YSess) => decide (x.1 > (ps.length : Int))) ss <;> rfl
end
end Go.Proofs.YtfdfaefafbnceaaGreat

/-
  That the program and the reference answer alike, in plain terms, and that the laws answer true.
-/
import Derived.Test.YtfdfaefafbnceaaGreatL12
namespace Go.Proofs.YtfdfaefafbnceaaGreat
open Go.RowKit
set_option linter.unusedVariables false
set_option linter.unusedSimpArgs false
set_option maxRecDepth 100000
set_option maxHeartbeats 4000000
noncomputable section
/-! ## A table with a session put -/
theorem sumN_set {E : Type} {f : E → Nat} : ∀ {l : List E} {i : Nat} {x : E}, sumN f (l.set i x) ≤ sumN f l + f x
  | [], _, _ => by simp [sumN]
  | a :: r, 0, x => by simp only [List.set_cons_zero, sumN]; omega
  | a :: r, i + 1, x => by have := sumN_set (f := f) (l := r) (i := i) (x := x); simp only [List.set_cons_succ, sumN]; omega
theorem ok_PutSess (t : YTab) (n : YI) (s : YSess) (h : need_Tab t + need_Sess s ≤ 1073741824) : ∃ r b, V_i_PutSess t n s = some (r, (b, ())) ∧ V_s_PutSess t n s = some (r, (b, ())) ∧ need_Tab r ≤ need_Tab t + need_Sess s := by
  unfold V_i_PutSess T_i_PutSess V_s_PutSess T_s_PutSess
  simp only [val_br, val_ob, val_leaf, val_chk, s_l1In]
  have hl : t.2.1.length ≤ need_Tab t := by simp only [need_Tab]; omega
  rw [i_copyTab t (by omega), s_l21Copy t (by omega), i_TabOk t (by omega), s_TabOk t (by omega), i_copySess s (by omega), s_l20Copy s (by omega)]
  simp only [ob_s]
  rw [w64 (by omega)]
  cases tabOk t with
  | false => exact ⟨t, false, rfl, rfl, by omega⟩
  | true =>
    simp only [Bool.not_true, br_f]
    by_cases h1 : n.1 < 0
    · rw [dec_t h1, br_t, br_tt (by simp [inR]; omega)]
      exact ⟨t, false, rfl, rfl, by omega⟩
    · rw [dec_f h1, br_f]
      by_cases h2 : n.1 ≥ (t.2.1.length : Int)
      · rw [dec_t h2, br_t, br_tt (by simp [inR]; omega)]
        exact ⟨t, false, rfl, rfl, by omega⟩
      · rw [dec_f h2, br_f, br_ff (by simp [inR]; omega)]
        obtain ⟨e, he, _⟩ := idx_some (l := t.2.1) (n := n.1) (by omega) (by omega)
        rw [he, ob_s, ob_s]
        have hn : need_Tab (t.1, t.2.1.set n.1.toNat s, ()) ≤ need_Tab t + need_Sess s := by
          have := sumN_set (f := need_Sess) (l := t.2.1) (i := n.1.toNat) (x := s)
          simp only [need_Tab, List.length_set]; omega
        rw [i_TabOk _ (by omega), s_TabOk _ (by omega)]
        simp only [ob_s]
        cases tabOk (t.1, t.2.1.set n.1.toNat s, ()) with
        | false => exact ⟨t, false, rfl, rfl, by omega⟩
        | true => exact ⟨_, true, rfl, rfl, hn⟩
theorem law_PutSess (t : YTab) (n : YI) (s : YSess) (hw : lo_Tab t) (hw2 : lo_Sess s) : V_l_FnExactPutSess t n s = some (true, ()) := by
  unfold V_l_FnExactPutSess T_l_FnExactPutSess
  simp only [val_ob, val_br, val_leaf]
  rw [sz_Tab t _ (by omega) (by omega) hw, ob_s]
  by_cases h : szR (need_Tab t) 1048576 < 0
  · rw [br_tt (by simpa using h)]
  · rw [br_ff (by simpa using h), sz_Sess s _ (szR_ge _ _) (szR_le (by omega) (by omega)) hw2, ob_s]
    have hb := szR_pos h
    rw [szR_szR]
    by_cases h' : szR (need_Tab t + need_Sess s) 1048576 < 0
    · rw [br_tt (by simpa using h')]
    · have hb' := szR_pos h'
      obtain ⟨r, b, h1, h2, h3⟩ := ok_PutSess t n s (by omega)
      have h4 := wt_le_Tab t
      have h5 := wt_le_Tab r
      have h6 := wt_le_Sess s
      rw [br_ff (by simpa using h')]
      simp (disch := first | omega | (dsimp only; omega)) only [to_Tab, to_Sess, ob_s, h1, h2, eq_Tab, eq_Sess, mark_Tab, mark_Sess, held_Tab, beq_self_eq_true, Bool.not_true, br_f, nn_dec, bne_self]
theorem ok_AddSess (t : YTab) (s : YSess) (h : need_Tab t + need_Sess s ≤ 1073741824) : ∃ r b, V_i_AddSess t s = some (r, (b, ())) ∧ V_s_AddSess t s = some (r, (b, ())) ∧ need_Tab r ≤ need_Tab t + need_Sess s + 1 := by
  unfold V_i_AddSess T_i_AddSess V_s_AddSess T_s_AddSess
  simp only [val_br, val_ob, val_leaf, val_chk]
  have hl : t.2.1.length ≤ need_Tab t := by simp only [need_Tab]; omega
  rw [i_copyTab t (by omega), s_l21Copy t (by omega), i_TabOk t (by omega), s_TabOk t (by omega), i_copySess s (by omega), s_l20Copy s (by omega), i_SessOk s (by omega), s_SessOk s (by omega), i_FindSn _ _ (by omega), s_FindSn _ _ (by omega), i_Live _ (by omega), s_Live _ (by omega)]
  simp only [ob_s]
  cases tabOk t with
  | false => exact ⟨t, 1, rfl, rfl, by omega⟩
  | true =>
    cases sessOk s with
    | false => exact ⟨t, 1, rfl, rfl, by omega⟩
    | true =>
      simp only [Bool.not_true, br_f]
      cases s.2.2.2.2.2.2.2.2.2.2.2.2.2.2.2.2.2.2.2.2.2.2.2.1 with
      | true => exact ⟨t, 1, rfl, rfl, by omega⟩
      | false =>
        simp only [br_f]
        cases decide (findSn t.2.1 s.2.2.1 ≥ 0) with
        | true => exact ⟨t, 3, rfl, rfl, by omega⟩
        | false =>
          simp only [br_f]
          cases liveN t == t.1 with
          | true => exact ⟨t, 7, rfl, rfl, by omega⟩
          | false =>
            simp only [br_f]
            cases (t.2.1.length : Int) == 12 with
            | true => exact ⟨t, 7, rfl, rfl, by omega⟩
            | false =>
              simp only [br_f]
              rw [dec_t (by simp; omega), chk_t]
              refine ⟨_, 0, rfl, rfl, ?_⟩
              simp only [need_Tab, sumN_app, sumN, List.length_append, List.length_cons, List.length_nil]
              omega
theorem law_AddSess (t : YTab) (s : YSess) (hw : lo_Tab t) (hw2 : lo_Sess s) : V_l_FnExactAddSess t s = some (true, ()) := by
  unfold V_l_FnExactAddSess T_l_FnExactAddSess
  simp only [val_ob, val_br, val_leaf]
  rw [sz_Tab t _ (by omega) (by omega) hw, ob_s]
  by_cases h : szR (need_Tab t) 1048576 < 0
  · rw [br_tt (by simpa using h)]
  · rw [br_ff (by simpa using h), sz_Sess s _ (szR_ge _ _) (szR_le (by omega) (by omega)) hw2, ob_s]
    have hb := szR_pos h
    rw [szR_szR]
    by_cases h' : szR (need_Tab t + need_Sess s) 1048576 < 0
    · rw [br_tt (by simpa using h')]
    · have hb' := szR_pos h'
      obtain ⟨r, b, h1, h2, h3⟩ := ok_AddSess t s (by omega)
      have h4 := wt_le_Tab t
      have h5 := wt_le_Tab r
      have h6 := wt_le_Sess s
      rw [br_ff (by simpa using h')]
      simp (disch := first | omega | (dsimp only; omega)) only [to_Tab, to_Sess, ob_s, h1, h2, eq_Tab, eq_Sess, mark_Tab, mark_Sess, held_Tab, beq_self_eq_true, bne_self, Bool.not_true, br_f, nn_dec, bne_self]
end
end Go.Proofs.YtfdfaefafbnceaaGreat

/-
  That the program and the reference answer alike, in plain terms, and that the laws answer true.
-/
import Derived.Test.YtdlcjpjflckdlaaGreatL19
namespace Go.Proofs.YtdlcjpjflckdlaaGreat
open Go.RowKit
set_option linter.unusedVariables false
set_option linter.unusedSimpArgs false
set_option maxRecDepth 100000
set_option maxHeartbeats 4000000
noncomputable section
/-! ## Sessions answer -/
theorem chanOf_need (s : YSess) : need_Chan (chanOf s) ≤ need_Sess s := by simp only [need_Chan, chanOf, need_Sess]; omega
def withCh (s : YSess) (c : YChan) : YSess := (s.1, s.2.1, s.2.2.1, c.1, c.2.1, c.2.2.1, c.2.2.2.1, c.2.2.2.2.1, c.2.2.2.2.2.1, c.2.2.2.2.2.2.1, c.2.2.2.2.2.2.2.1, c.2.2.2.2.2.2.2.2.1, c.2.2.2.2.2.2.2.2.2.1, c.2.2.2.2.2.2.2.2.2.2.1, c.2.2.2.2.2.2.2.2.2.2.2.1, c.2.2.2.2.2.2.2.2.2.2.2.2.1, c.2.2.2.2.2.2.2.2.2.2.2.2.2.1, c.2.2.2.2.2.2.2.2.2.2.2.2.2.2.1, s.2.2.2.2.2.2.2.2.2.2.2.2.2.2.2.2.2.2)
theorem withCh_need {s : YSess} {c : YChan} (h : need_Chan c ≤ need_Chan (chanOf s)) : need_Sess (withCh s c) ≤ need_Sess s := by
  simp only [need_Chan, chanOf] at h
  simp only [need_Sess, withCh]; omega
theorem withCh_ok {s : YSess} {c : YChan} (h : sessOk s = true) (hd : deadOf s = false) (hc : chanOk c = true) (h1 : c.1 = (chanOf s).1) (h2 : c.2.1 = (chanOf s).2.1) : sessOk (withCh s c) = true := by
  have e1 : deadOf (withCh s c) = deadOf s := rfl
  have e2 : chanOf (withCh s c) = c := rfl
  have e3 : pathsOf (withCh s c) = pathsOf s := rfl
  unfold sessOk at h ⊢
  rw [e1, e2, e3]
  rw [hd] at h ⊢
  simp only [cond_false, Bool.and_eq_true] at h ⊢
  refine ⟨h.1, h.2.1, h.2.2.1, h.2.2.2.1, hc, ?_, ?_, h.2.2.2.2.2.2.2⟩
  · have := h.2.2.2.2.2.1
    simp only [withCh, h1, chanOf]; exact this
  · have := h.2.2.2.2.2.2.1
    simp only [withCh, h2, chanOf]; exact this
def SeR (s : YSess) (m : Nat) (r : YSess) (os : List YOut) (ns : List YNote) : Prop :=
  need_Sess r ≤ need_Sess s ∧ os.length + sumN need_Out os ≤ need_Sess s + m + 99 ∧ ns.length + sumN need_Note ns ≤ 4 * (need_Sess s + m + 99) ∧ (sessOk s = true → deadOf s = false → sessOk r = true ∧ r.2.2.1 = s.2.2.1 ∧ deadOf r = false)
theorem SeR.none {s : YSess} {m : Nat} : SeR s m s [] [] := ⟨Nat.le_refl _, by simp [sumN], by simp [sumN], fun h hd => ⟨h, rfl, hd⟩⟩
theorem ok_SessAck (s : YSess) (h : need_Sess s ≤ 8388608) :
    ∃ r os ns, V_i_SessAck s = some (r, (os, ()), (ns, ())) ∧ V_s_SessAck s = some (r, (os, ()), (ns, ())) ∧ SeR s 0 r os ns := by
  have hch := chanOf_need s
  unfold V_i_SessAck T_i_SessAck V_s_SessAck T_s_SessAck
  simp only [val_br, val_ob, val_leaf, val_chk]
  rw [i_copySess s (by omega), s_l20Copy s (by omega), i_SessOk s (by omega), s_SessOk s (by omega)]
  simp only [ob_s]
  have nope : ∃ r os ns, some (s, (([] : List YOut), ()), (([] : List YNote), ())) = some (r, (os, ()), (ns, ())) ∧ some (s, (([] : List YOut), ()), (([] : List YNote), ())) = some (r, (os, ()), (ns, ())) ∧ SeR s 0 r os ns :=
    ⟨s, [], [], rfl, rfl, .none⟩
  cases ho : sessOk s with
  | false => exact nope
  | true =>
    simp only [Bool.not_true, br_f]
    by_cases hd0 : s.2.2.2.2.2.2.2.2.2.2.2.2.2.2.2.2.2.2.2.2.2.2.2.1 = true
    · rw [br_tt hd0, br_tt hd0]; exact nope
    · have hd : s.2.2.2.2.2.2.2.2.2.2.2.2.2.2.2.2.2.2.2.2.2.2.2.1 = false := by simpa using hd0
      rw [br_ff hd, br_ff hd]
      cases (s.2.2.2.2.2.1 != (0 : Int)) with
      | true => exact nope
      | false =>
        simp only [br_f]
        obtain ⟨c', f, z, a1, a2, a3, a4, a5⟩ := ok_Ack (chanOf s) (by omega)
        rw [a1, a2]
        simp only [ob_s]
        have hk := key_need c'
        have hm := need_madeC c' f
        by_cases z0 : z = 0
        · have ez : (z != (0 : Int)) = false := by simp [z0]
          simp only [ez, br_f]
          rw [i_madeBy _ _ (by omega) (by omega), s_l19Made _ _ (by omega) (by omega)]
          simp only [ob_s]
          obtain ⟨e', q1, q2, q3, q4, q5⟩ := a5 z0
          obtain ⟨r1, r2, r3⟩ := q5 rfl
          refine ⟨withCh s c', _, _, rfl, rfl, withCh_need (by omega), ?_, ?_, fun _ _ => ⟨withCh_ok ho hd r2 (by rw [q1]; rfl) (by rw [q1]; rfl), rfl, hd⟩⟩
          · simp only [sumN, need_Out, List.length_cons, List.length_nil]
            simp only [need_Frame] at a4; omega
          · simp only [sumN, List.length_cons, List.length_nil]; omega
        · have ez : (z != (0 : Int)) = true := by simpa using z0
          simp only [ez, br_t]
          exact nope
theorem law_SessAck (s : YSess) (hw : lo_Sess s) : V_l_FnExactSessAck s = some (true, ()) := by
  unfold V_l_FnExactSessAck T_l_FnExactSessAck
  simp only [val_ob, val_br, val_leaf]
  rw [sz_Sess s _ (by omega) (by omega) hw, ob_s]
  by_cases h : szR (need_Sess s) 1048576 < 0
  · rw [br_tt (by simpa using h)]
  · have hb := szR_pos h
    obtain ⟨r, os, ns, h1, h2, h3, h4, h5, _⟩ := ok_SessAck s (by omega)
    have h6 := wt_le_Sess s
    have h7 := wt_le_Sess r
    have h8 := sumN_le (f := w_Note) (g := need_Note) w_le_Note ns
    have h9 := sumN_le (f := w_Out) (g := need_Out) w_le_Out os
    rw [br_ff (by simpa using h)]
    simp (disch := first | omega | (dsimp only; omega)) only [to_Sess, ob_s, h1, h2, eq_Sess, eq_OutS, eq_NoteS, mark_Sess, mark_OutS, mark_NoteS, held_Sess, held_OutS, held_NoteS, Bool.not_true, br_f, nn_dec, bne_self]
end
end Go.Proofs.YtdlcjpjflckdlaaGreat

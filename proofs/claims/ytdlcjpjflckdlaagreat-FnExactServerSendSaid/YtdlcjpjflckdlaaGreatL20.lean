/-
  That the program and the reference answer alike, in plain terms, and that the laws answer true.
-/
import Derived.Test.YtdlcjpjflckdlaaGreatL19
namespace Go.Proofs.YtdlcjpjflckdlaaGreat
open Go.RowKit
set_option linter.unusedVariables false
set_option linter.unusedSimpArgs false
set_option maxRecDepth 100000
set_option maxHeartbeats 4000000
noncomputable section
/-! ## Sessions answer -/
theorem chanOf_need (s : YSess) : need_Chan (chanOf s) ≤ need_Sess s := by simp only [need_Chan, chanOf, need_Sess]; omega
def withCh (s : YSess) (c : YChan) : YSess := (s.1, s.2.1, s.2.2.1, c.1, c.2.1, c.2.2.1, c.2.2.2.1, c.2.2.2.2.1, c.2.2.2.2.2.1, c.2.2.2.2.2.2.1, c.2.2.2.2.2.2.2.1, c.2.2.2.2.2.2.2.2.1, c.2.2.2.2.2.2.2.2.2.1, c.2.2.2.2.2.2.2.2.2.2.1, c.2.2.2.2.2.2.2.2.2.2.2.1, c.2.2.2.2.2.2.2.2.2.2.2.2.1, c.2.2.2.2.2.2.2.2.2.2.2.2.2.1, c.2.2.2.2.2.2.2.2.2.2.2.2.2.2.1, s.2.2.2.2.2.2.2.2.2.2.2.2.2.2.2.2.2.2)
theorem withCh_need {s : YSess} {c : YChan} (h : need_Chan c ≤ need_Chan (chanOf s)) : need_Sess (withCh s c) ≤ need_Sess s := by
  simp only [need_Chan, chanOf] at h
  simp only [need_Sess, withCh]; omega
theorem withCh_ok {s : YSess} {c : YChan} (h : sessOk s = true) (hd : deadOf s = false) (hc : chanOk c = true) (h1 : c.1 = (chanOf s).1) (h2 : c.2.1 = (chanOf s).2.1) : sessOk (withCh s c) = true := by
  have e1 : deadOf (withCh s c) = deadOf s := rfl
  have e2 : chanOf (withCh s c) = c := rfl
  have e3 : pathsOf (withCh s c) = pathsOf s := rfl
  unfold sessOk at h ⊢
  rw [e1, e2, e3]
  rw [hd] at h ⊢
  simp only [cond_false, Bool.and_eq_true] at h ⊢
  refine ⟨h.1, h.2.1, h.2.2.1, h.2.2.2.1, hc, ?_, ?_, h.2.2.2.2.2.2.2⟩
  · have := h.2.2.2.2.2.1
    simp only [withCh, h1, chanOf]; exact this
  · have := h.2.2.2.2.2.2.1
    simp only [withCh, h2, chanOf]; exact this
def SeR (s : YSess) (m : Nat) (r : YSess) (os : List YOut) (ns : List YNote) : Prop :=
  need_Sess r ≤ need_Sess s ∧ os.length + sumN need_Out os ≤ need_Sess s + m + 99 ∧ ns.length + sumN need_Note ns ≤ 4 * (need_Sess s + m + 99) ∧ (sessOk s = true → deadOf s = false → sessOk r = true ∧ r.2.2.1 = s.2.2.1 ∧ deadOf r = false)
theorem SeR.none {s : YSess} {m : Nat} : SeR s m s [] [] := ⟨Nat.le_refl _, by simp [sumN], by simp [sumN], fun h hd => ⟨h, rfl, hd⟩⟩
theorem i_copyCredits (l : List YCredit) (h : l.length ≤ 4294967296) : V_i_copyCredits (l, ()) = some (l, ()) := by
  unfold V_i_copyCredits T_i_copyCredits
  simp only [val_chk, val_leaf, List.length_nil, Nat.zero_add, List.nil_append]
  rw [dec_t h]; rfl
theorem i_copyServer (s : YServer) (h : need_Server s ≤ 4294967296) : V_i_copyServer s = some s := by
  have h' := h
  simp only [need_Server] at h
  unfold V_i_copyServer T_i_copyServer
  simp (disch := first | omega | (dsimp only; omega) | (simp only [need_Tab]; omega)) only [val_ob, val_leaf, i_cloneAll, i_clone, i_copyTab, i_copyCredits, ob_s]
theorem s_l22Copy (s : YServer) (h : need_Server s ≤ 4294967296) : V_s_l22Copy s = some s := by
  obtain ⟨l, j, sd, n, c, ss, cr, ⟨⟩⟩ := s
  simp only [need_Server] at h
  have hl := loop_run (B := B_s_l22Copy_3) l.length (fun i => ((i : Int), l, j, sd, n, c, ss, cr, [], [], [], (0 : Int), (0 : Int), [], [], l.take i, j, sd, n, c, ss, cr, ())) ([], [], [], (0 : Int), (0 : Int), [], [], l, j, sd, n, c, ss, cr, ())
    (fun i hi => by
      have hx := List.getElem?_eq_getElem hi
      have h2 := sumN_at (f := need_Bs) hx
      simp only [need_Bs] at h2
      unfold B_s_l22Copy_3
      simp only [val_br, val_ob, val_leaf, val_chk, lt_dec hi, br_t, idx_at hx, ob_s, List.length_nil, Nat.zero_add, List.nil_append]
      rw [dec_t (by omega), chk_t, dec_t (by simp; omega), chk_t, w64 (by omega)]
      exact congrArg (fun t => some (Sum.inl ((i : Int) + 1, l, j, sd, n, c, ss, cr, [], [], [], (0 : Int), (0 : Int), [], [], t, j, sd, n, c, ss, cr, ()))) (snoc_take hx))
    (by unfold B_s_l22Copy_3; simp only [val_br, val_leaf, ge_dec, br_f, List.take_length])
  unfold V_s_l22Copy T_s_l22Copy
  simp only [val_ob, val_chk, val_leaf, List.length_nil, Nat.zero_add, List.nil_append]
  rw [dec_t (by omega), chk_t, s_l10Copy _ (by dsimp only; omega), s_l21Copy _ (by simp only [need_Tab]; omega)]
  simp only [ob_s]
  rw [dec_t (by omega), chk_t]
  rw [show iterO B_s_l22Copy_3 ((0 : Int), l, j, sd, n, c, ss, cr, [], [], [], (0 : Int), (0 : Int), [], [], [], j, sd, n, c, ss, cr, ()) = _ from hl]
  rfl
end
end Go.Proofs.YtdlcjpjflckdlaaGreat

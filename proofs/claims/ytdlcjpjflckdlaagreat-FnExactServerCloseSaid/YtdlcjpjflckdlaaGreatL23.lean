/-
  That the program and the reference answer alike, in plain terms, and that the laws answer true.
-/
import Derived.Test.YtdlcjpjflckdlaaGreatL22
namespace Go.Proofs.YtdlcjpjflckdlaaGreat
open Go.RowKit
set_option linter.unusedVariables false
set_option linter.unusedSimpArgs false
set_option maxRecDepth 100000
set_option maxHeartbeats 4000000
noncomputable section
/-! ## Servers close sessions, and send in them -/
theorem tab_sess {t : YTab} {i : Nat} {x : YSess} (h : tabOk t = true) (hx : t.2.1[i]? = some x) : sessOk x = true := by
  unfold tabOk at h
  simp only [Bool.and_eq_true] at h
  have h1 := noneB_t.1 h.2.2.2 i x hx
  unfold sessBad at h1
  simp only [Bool.not_eq_false', Bool.and_eq_true] at h1
  exact h1.1
theorem server_tab {s : YServer} (h : serverOk s = true) : tabOk (s.2.2.2.2.1, s.2.2.2.2.2.1, ()) = true := by
  unfold serverOk at h
  simp only [Bool.and_eq_true] at h
  exact h.2.2.2.1
theorem ok_Bury2 (s : YSess) (h : need_Sess s ≤ 4294967296) (ho : sessOk s = true) : ∃ r, V_i_Bury s = some r ∧ V_s_Bury s = some r ∧ need_Sess r ≤ need_Sess s ∧ sessOk r = true ∧ r.2.2.1 = s.2.2.1 ∧ deadOf r = true := by
  unfold V_i_Bury T_i_Bury V_s_Bury T_s_Bury
  simp only [val_br, val_ob, val_leaf, val_chk]
  rw [i_SessOk s h, s_SessOk s h, ob_s, ob_s, ho]
  simp only [Bool.not_true, br_f]
  simp only [need_Sess] at h
  simp (disch := first | omega | (dsimp only; omega)) only [i_clone, ob_s, List.length_nil, Nat.zero_add, List.nil_append, dec_t, chk_t]
  refine ⟨_, rfl, rfl, ?_, ?_, rfl, rfl⟩
  · simp only [need_Sess, sumN, List.length_nil]
    omega
  · unfold sessOk at ho ⊢
    simp only [Bool.and_eq_true] at ho ⊢
    refine ⟨ho.1, ho.2.1, ho.2.2.1, ho.2.2.2.1, ?_⟩
    rfl
theorem ok_ServerClose (s : YServer) (n : YI) (h : need_Server s ≤ 536870912) :
    ∃ r ns k, V_i_ServerClose s n = some (r, (ns, ()), (k, ())) ∧ V_s_ServerClose s n = some (r, (ns, ()), (k, ())) ∧ need_Server r ≤ 2 * need_Server s ∧ ns.length + sumN need_Note ns ≤ need_Server s + 9 := by
  have h' := h
  simp only [need_Server] at h'
  have hl : (s.2.2.2.2.2.1.length : Int) ≤ need_Server s := by simp only [need_Server]; omega
  unfold V_i_ServerClose T_i_ServerClose V_s_ServerClose T_s_ServerClose V_i_endOf T_i_endOf V_s_l22End T_s_l22End
  simp only [val_br, val_ob, val_leaf, val_chk, List.length_nil, Nat.zero_add, List.nil_append]
  rw [i_copyServer s (by omega), s_l22Copy s (by omega), i_ServerOk s (by omega), s_ServerOk s (by omega), s_l1In]
  simp only [ob_s]
  have nope : ∀ k : Int, ∃ r ns k', some (s, (([] : List YNote), ()), (k, ())) = some (r, (ns, ()), (k', ())) ∧ some (s, (([] : List YNote), ()), (k, ())) = some (r, (ns, ()), (k', ())) ∧ need_Server r ≤ 2 * need_Server s ∧ ns.length + sumN need_Note ns ≤ need_Server s + 9 := fun k =>
    ⟨s, [], k, rfl, rfl, by omega, by simp [sumN]⟩
  cases ho : serverOk s with
  | false => exact nope 1
  | true =>
    simp only [Bool.not_true, br_f]
    by_cases h0 : n.1 < 0
    · have hr : inR n.1 0 (IntKind.i64.wrap ((s.2.2.2.2.2.1.length : Int) - 1)) = false := by
        cases hh : inR n.1 0 (IntKind.i64.wrap ((s.2.2.2.2.2.1.length : Int) - 1)) with
        | false => rfl
        | true => have := inR_iff.1 hh; omega
      simp only [hr, dec_t h0, Bool.not_false, br_t]
      exact nope 8
    · simp only [dec_f h0, br_f]
      by_cases h1 : n.1 ≥ (s.2.2.2.2.2.1.length : Int)
      · have hr : inR n.1 0 (IntKind.i64.wrap ((s.2.2.2.2.2.1.length : Int) - 1)) = false := by
          rw [w64 (by omega)]
          cases hh : inR n.1 0 ((s.2.2.2.2.2.1.length : Int) - 1) with
          | false => rfl
          | true => have := inR_iff.1 hh; omega
        simp only [hr, dec_t h1, Bool.not_false, br_t]
        exact nope 8
      · have hr : inR n.1 0 (IntKind.i64.wrap ((s.2.2.2.2.2.1.length : Int) - 1)) = true := by
          rw [w64 (by omega)]
          exact inR_iff.2 ⟨by omega, by omega⟩
        simp only [hr, dec_f h1, Bool.not_true, br_f]
        have hlt : n.1.toNat < s.2.2.2.2.2.1.length := by omega
        have hx := List.getElem?_eq_getElem hlt
        have hid : idx s.2.2.2.2.2.1 n.1 = some s.2.2.2.2.2.1[n.1.toNat] := by unfold idx; rw [if_pos (by omega)]; exact hx
        rw [hid]
        simp only [ob_s]
        generalize hxe : s.2.2.2.2.2.1[n.1.toNat] = x at hx
        have hnx := sumN_at (f := need_Sess) hx
        have hxn : x.2.2.1.length ≤ need_Sess x := by simp only [need_Sess]; omega
        have ht := server_tab ho
        have hsx := tab_sess ht hx
        by_cases hd : x.2.2.2.2.2.2.2.2.2.2.2.2.2.2.2.2.2.2.2.2.2.2.2.1 = true
        · rw [br_tt hd, br_tt hd]; exact nope 8
        · have hd' : x.2.2.2.2.2.2.2.2.2.2.2.2.2.2.2.2.2.2.2.2.2.2.2.1 = false := by simpa using hd
          rw [br_ff hd', br_ff hd']
          obtain ⟨y, b1, b2, b3, b4, b5, b6⟩ := ok_Bury2 x (by omega) hsx
          have hset := tabOk_set (t := (s.2.2.2.2.1, s.2.2.2.2.2.1, ())) (by dsimp only; omega) ht hx b4 b5 (.inl b6)
          rw [b1, b2]
          simp only [ob_s]
          rw [putSess_ok (s.2.2.2.2.1, s.2.2.2.2.2.1, ()) n y x (by simp only [need_Tab]; omega) ht (by omega) hx hset, i_clone _ (by dsimp only; omega), dec_t (by omega)]
          simp only [ob_s, chk_t]
          refine ⟨_, _, 0, rfl, rfl, ?_, ?_⟩
          · have h9 := sumN_set (f := need_Sess) (l := s.2.2.2.2.2.1) (i := n.1.toNat) (x := y)
            simp only [need_Server, List.length_set] at *; omega
          · simp only [sumN, need_Note, need_Server, List.length_cons, List.length_nil]; omega
theorem law_ServerClose (s : YServer) (n : YI) (hw : lo_Server s) : V_l_FnExactServerClose s n = some (true, ()) := by
  unfold V_l_FnExactServerClose T_l_FnExactServerClose
  simp only [val_ob, val_br, val_leaf]
  rw [sz_Server s _ (by omega) (by omega) hw, ob_s]
  by_cases h : szR (need_Server s) 1048576 < 0
  · rw [br_tt (by simpa using h)]
  · have hb := szR_pos h
    obtain ⟨r, ns, k, h1, h2, h3, h4⟩ := ok_ServerClose s n (by omega)
    have h6 := wt_le_Server s
    have h7 := wt_le_Server r
    have h8 := sumN_le (f := w_Note) (g := need_Note) w_le_Note ns
    rw [br_ff (by simpa using h)]
    simp (disch := first | omega | (dsimp only; omega)) only [to_Server, ob_s, h1, h2, eq_Server, eq_NoteS, mark_Server, mark_NoteS, held_Server, held_NoteS, Bool.not_true, br_f, nn_dec, bne_self]
end
end Go.Proofs.YtdlcjpjflckdlaaGreat

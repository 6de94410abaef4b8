/-
  That the program and the reference answer alike, in plain terms, and that the laws answer true.
-/
import Derived.Test.YtdlcjpjflckdlaaGreatL22
namespace Go.Proofs.YtdlcjpjflckdlaaGreat
open Go.RowKit
set_option linter.unusedVariables false
set_option linter.unusedSimpArgs false
set_option maxRecDepth 100000
set_option maxHeartbeats 4000000
noncomputable section
/-! ## Servers close sessions, and send in them -/
theorem tab_sess {t : YTab} {i : Nat} {x : YSess} (h : tabOk t = true) (hx : t.2.1[i]? = some x) : sessOk x = true := by
  unfold tabOk at h
  simp only [Bool.and_eq_true] at h
  have h1 := noneB_t.1 h.2.2.2 i x hx
  unfold sessBad at h1
  simp only [Bool.not_eq_false', Bool.and_eq_true] at h1
  exact h1.1
theorem server_tab {s : YServer} (h : serverOk s = true) : tabOk (s.2.2.2.2.1, s.2.2.2.2.2.1, ()) = true := by
  unfold serverOk at h
  simp only [Bool.and_eq_true] at h
  exact h.2.2.2.1
theorem ok_ServerSend (s : YServer) (m n : YI) (b : List YB) (hwf : ∀ (i : Nat) (x : YSess), s.2.2.2.2.2.1[i]? = some x → wfB (chanOf x).2.1 ∧ wfB x.2.2.1) (h : need_Server s + b.length ≤ 8388608) :
    ∃ r os ns k, V_i_ServerSend s m n (b, ()) = some (r, (os, ()), (ns, ()), (k, ())) ∧ V_s_ServerSend s m n (b, ()) = some (r, (os, ()), (ns, ()), (k, ())) ∧ need_Server r ≤ 2 * need_Server s ∧ os.length + sumN need_Out os ≤ need_Server s + b.length + 99 ∧ ns.length + sumN need_Note ns ≤ 4 * (need_Server s + b.length + 99) := by
  have h' := h
  simp only [need_Server] at h'
  have hl : (s.2.2.2.2.2.1.length : Int) ≤ need_Server s := by simp only [need_Server]; omega
  unfold V_i_ServerSend T_i_ServerSend V_s_ServerSend T_s_ServerSend
  simp only [val_br, val_ob, val_leaf, val_chk]
  rw [i_copyServer s (by omega), s_l22Copy s (by omega), i_ServerOk s (by omega), s_ServerOk s (by omega), i_within, s_l1In, s_l1In]
  simp only [ob_s]
  have nope : ∀ k : Int, ∃ r os ns k', some (s, (([] : List YOut), ()), (([] : List YNote), ()), (k, ())) = some (r, (os, ()), (ns, ()), (k', ())) ∧ some (s, (([] : List YOut), ()), (([] : List YNote), ()), (k, ())) = some (r, (os, ()), (ns, ()), (k', ())) ∧ need_Server r ≤ 2 * need_Server s ∧ os.length + sumN need_Out os ≤ need_Server s + b.length + 99 ∧ ns.length + sumN need_Note ns ≤ 4 * (need_Server s + b.length + 99) := fun k =>
    ⟨s, [], [], k, rfl, rfl, by omega, by simp [sumN], by simp [sumN]⟩
  cases ho : serverOk s with
  | false => exact nope 1
  | true =>
    simp only [Bool.not_true, br_f]
    cases inR m.1 0 1000000 with
    | false => exact nope 1
    | true =>
      simp only [Bool.not_true, br_f]
      by_cases h0 : n.1 < 0
      · have hr : inR n.1 0 (IntKind.i64.wrap ((s.2.2.2.2.2.1.length : Int) - 1)) = false := by
          cases hh : inR n.1 0 (IntKind.i64.wrap ((s.2.2.2.2.2.1.length : Int) - 1)) with
          | false => rfl
          | true => have := inR_iff.1 hh; omega
        simp only [hr, dec_t h0, Bool.not_false, br_t]
        exact nope 8
      · simp only [dec_f h0, br_f]
        by_cases h1 : n.1 ≥ (s.2.2.2.2.2.1.length : Int)
        · have hr : inR n.1 0 (IntKind.i64.wrap ((s.2.2.2.2.2.1.length : Int) - 1)) = false := by
            rw [w64 (by omega)]
            cases hh : inR n.1 0 ((s.2.2.2.2.2.1.length : Int) - 1) with
            | false => rfl
            | true => have := inR_iff.1 hh; omega
          simp only [hr, dec_t h1, Bool.not_false, br_t]
          exact nope 8
        · have hr : inR n.1 0 (IntKind.i64.wrap ((s.2.2.2.2.2.1.length : Int) - 1)) = true := by
            rw [w64 (by omega)]
            exact inR_iff.2 ⟨by omega, by omega⟩
          simp only [hr, dec_f h1, Bool.not_true, br_f]
          have hlt : n.1.toNat < s.2.2.2.2.2.1.length := by omega
          have hx := List.getElem?_eq_getElem hlt
          have hid : idx s.2.2.2.2.2.1 n.1 = some s.2.2.2.2.2.1[n.1.toNat] := by unfold idx; rw [if_pos (by omega)]; exact hx
          rw [hid]
          simp only [ob_s]
          generalize hxe : s.2.2.2.2.2.1[n.1.toNat] = x at hx
          have hnx := sumN_at (f := need_Sess) hx
          have hns : need_Sess x ≤ need_Server s := by simp only [need_Server]; omega
          have ht := server_tab ho
          have hsx := tab_sess ht hx
          obtain ⟨w1, w2⟩ := hwf _ _ hx
          obtain ⟨y, os, ns, k, b1, b2, ⟨b3, b4, b5, b6⟩, b7, b8⟩ := ok_SessSend x b w1 w2 (by omega)
          rw [b1, b2]
          simp only [ob_s]
          by_cases hk : k = 0
          · subst hk
            obtain ⟨c1, c2⟩ := b8 rfl
            obtain ⟨c3, c4, c5⟩ := b6 c1 c2
            have hset := tabOk_set (t := (s.2.2.2.2.1, s.2.2.2.2.2.1, ())) (by dsimp only; omega) ht hx c3 c4 (.inr (c5.trans c2.symm))
            rw [br_ff (by decide), br_tt (by decide)]
            rw [putSess_ok (s.2.2.2.2.1, s.2.2.2.2.2.1, ()) n y x (by simp only [need_Tab]; omega) ht (by omega) hx hset]
            simp only [ob_s]
            refine ⟨_, os, ns, 0, rfl, rfl, ?_, by omega, by omega⟩
            have h9 := sumN_set (f := need_Sess) (l := s.2.2.2.2.2.1) (i := n.1.toNat) (x := y)
            simp only [need_Server, List.length_set] at *; omega
          · obtain ⟨e1, e2, e3⟩ := b7 hk
            subst e2
            subst e3
            rw [br_tt (by simpa using hk), br_ff (by simpa using hk)]
            exact nope k
theorem law_ServerSend (s : YServer) (m n : YI) (b : YBs) (hw : lo_Server s) {e1 e2 e3 e4 e5 e6 e7 e8 e9 e10 e11 e12 e13 e14 e15 e16 e17 : Nat}
    (w : wfDs [.sl e1 [.sl e2 [.int .u8]], .sl e3 [.int .u8], .sl e4 [.int .u8], .int .i64, .int .i64, .sl e5 [.int .i64, .sl e6 [.int .u8], .sl e7 [.int .u8], .int .i64, .sl e8 [.int .u8], .int .i64, .sl e9 [.int .u8], .int .i64, .int .i64, .sl e10 [.int .i64], .int .i64, .sl e11 [.int .u8], .int .i64, .int .i64, .sl e12 [.int .i64], .bool, .int .i64, .sl e13 [.int .u8], .int .i64, .int .i64, .sl e14 [.int .i64, .int .i64, .sl e15 [.int .u8], .int .i64], .int .i64, .int .i64, .bool], .sl e16 [.int .i64, .int .i64, .int .i64, .int .i64]] s)
    (w1 : wfDs [.int .i64] m) (w2 : wfDs [.int .i64] n) (w3 : wfDs [.sl e17 [.int .u8]] b) : V_l_FnExactServerSend s m n b = some (true, ()) := by
  have hwf : ∀ (i : Nat) (x : YSess), s.2.2.2.2.2.1[i]? = some x → wfB (chanOf x).2.1 ∧ wfB x.2.2.1 := fun i x hx => by
    have k := w.2.2.2.2.2.1
    simp only [wfD] at k
    have k2 := k.2 i x hx
    exact ⟨wfB_of k2.2.2.2.2.1, wfB_of k2.2.2.1⟩
  clear w w1 w2 w3
  obtain ⟨b, ⟨⟩⟩ := b
  unfold V_l_FnExactServerSend T_l_FnExactServerSend
  simp only [val_ob, val_br, val_leaf]
  by_cases h0 : (b.length : Int) > 1048576
  · rw [dec_t h0, br_t]
  · rw [dec_f h0, br_f, sz_Server s _ (by omega) (by omega) hw, ob_s]
    by_cases h : szR (need_Server s) 1048576 < 0
    · rw [br_tt (by simpa using h)]
    · have hb := szR_pos h
      obtain ⟨r, os, ns, k, h1, h2, h3, h4, h5⟩ := ok_ServerSend s m n b hwf (by omega)
      have h6 := wt_le_Server s
      have h7 := wt_le_Server r
      have h8 := sumN_le (f := w_Note) (g := need_Note) w_le_Note ns
      have h9 := sumN_le (f := w_Out) (g := need_Out) w_le_Out os
      have h10 := sumN_le1 (f := w_B) (fun _ => by simp [w_B]) b
      rw [br_ff (by simpa using h)]
      simp (disch := first | omega | (dsimp only; omega)) only [to_Server, to_ByteS, ob_s, h1, h2, eq_Server, eq_ByteS, eq_OutS, eq_NoteS, mark_Server, mark_ByteS, mark_OutS, mark_NoteS, held_Server, held_OutS, held_NoteS, Bool.not_true, br_f, nn_dec, bne_self]
end
end Go.Proofs.YtdlcjpjflckdlaaGreat

/-
  That the program and the reference answer alike, in plain terms, and that the laws answer true.
-/
import Derived.Test.YtdlcjpjflckdlaaGreatL17
namespace Go.Proofs.YtdlcjpjflckdlaaGreat
open Go.RowKit
set_option linter.unusedVariables false
set_option linter.unusedSimpArgs false
set_option maxRecDepth 100000
set_option maxHeartbeats 4000000
noncomputable section
/-! ## What a client sends -/
theorem clCh_need (c : YClient) : need_Chan (clCh c) ≤ need_Client c := by simp only [need_Chan, clCh, need_Client]; omega
def ClR (c : YClient) (m : Nat) (r : YClient) (fs : List YFrame) (ns : List YNote) : Prop :=
  need_Client r ≤ need_Client c + 64 ∧ fs.length + sumN need_Frame fs ≤ need_Client c + m + 99 ∧ ns.length + sumN need_Note ns ≤ 4 * (need_Client c + m + 99)
theorem key_need (c : YChan) : c.2.2.2.1.length ≤ need_Chan c := by simp only [need_Chan]; omega
theorem ok_ClientSend (c : YClient) (n : YI) (b : List YB) (h : need_Client c + b.length ≤ 8388608) :
    ∃ r fs ns k, V_i_ClientSend c n (b, ()) = some (r, (fs, ()), (ns, ()), (k, ())) ∧ V_s_ClientSend c n (b, ()) = some (r, (fs, ()), (ns, ()), (k, ())) ∧ ClR c b.length r fs ns := by
  have hch := clCh_need c
  unfold V_i_ClientSend T_i_ClientSend V_s_ClientSend T_s_ClientSend
  simp only [val_br, val_ob, val_leaf, val_chk, List.length_nil, Nat.zero_add, List.nil_append]
  rw [i_copyClient c (by omega), s_l19Copy c (by omega), i_ClientOk c (by omega), s_ClientOk c, i_within, s_l1In]
  simp only [ob_s]
  have nope : ∀ k : Int, ∃ r fs ns k', some (c, (([] : List YFrame), ()), (([] : List YNote), ()), (k, ())) = some (r, (fs, ()), (ns, ()), (k', ())) ∧ some (c, (([] : List YFrame), ()), (([] : List YNote), ()), (k, ())) = some (r, (fs, ()), (ns, ()), (k', ())) ∧ ClR c b.length r fs ns := fun k =>
    ⟨c, [], [], k, rfl, rfl, by omega, by simp [sumN], by simp [sumN]⟩
  cases clientOk c with
  | false => exact nope 1
  | true =>
    cases inR n.1 0 1000000 with
    | false => exact nope 1
    | true =>
      simp only [Bool.not_true, br_f]
      by_cases h40 : (b.length : Int) > 40
      · rw [dec_t h40]; exact nope 1
      · rw [dec_f h40]
        simp only [br_f]
        cases (c.2.2.2.2.1 != (3 : Int)) with
        | true => exact nope 6
        | false =>
          simp only [br_f]
          obtain ⟨c', f, z, h1, h2, e', q1, q2, q3, q4, q5⟩ := ok_ChanSeal (clCh c) 4 b (by omega)
          rw [h1, h2]
          simp only [ob_s]
          by_cases hz : z = 0
          · subst hz
            have hk := key_need c'
            have hsn : f.2.2.2.1.length ≤ need_Frame f := by simp only [need_Frame]; omega
            have hm := need_madeC c' f
            rw [br_ff (by decide), br_ff (by decide), i_clone _ (by dsimp only; omega), i_clone _ (by dsimp only; omega), dec_t (by omega), dec_t (by omega), i_madeBy _ _ (by omega) (by omega), s_l19Made _ _ (by omega) (by omega)]
            simp only [ob_s, chk_t]
            refine ⟨_, _, _, 0, rfl, rfl, ?_, ?_, ?_⟩
            · simp only [need_Chan, clCh] at q2
              simp only [need_Client]; omega
            · simp only [sumN, List.length_cons, List.length_nil]; omega
            · simp only [sumN, List.length_cons, List.length_nil, need_Note] at hm ⊢; omega
          · rw [br_tt (by simpa using hz), br_tt (by simpa using hz)]
            exact nope z
theorem law_ClientSend (c : YClient) (n : YI) (b : YBs) (hw : lo_Client c) : V_l_FnExactClientSend c n b = some (true, ()) := by
  obtain ⟨b, ⟨⟩⟩ := b
  unfold V_l_FnExactClientSend T_l_FnExactClientSend
  simp only [val_ob, val_br, val_leaf]
  by_cases h0 : (b.length : Int) > 1048576
  · rw [dec_t h0, br_t]
  · rw [dec_f h0, br_f, sz_Client c _ (by omega) (by omega) hw, ob_s]
    by_cases h : szR (need_Client c) 1048576 < 0
    · rw [br_tt (by simpa using h)]
    · have hb := szR_pos h
      obtain ⟨r, fs, ns, k, h1, h2, h3, h4, h5⟩ := ok_ClientSend c n b (by omega)
      have h6 := wt_le_Client c
      have h7 := wt_le_Client r
      have h8 := sumN_le (f := w_Note) (g := need_Note) w_le_Note ns
      have h9 := sumN_le (f := w_Frame) (g := need_Frame) w_le_Frame fs
      have h10 := sumN_le1 (f := w_B) (fun _ => by simp [w_B]) b
      rw [br_ff (by simpa using h)]
      simp (disch := first | omega | (dsimp only; omega)) only [to_Client, to_ByteS, ob_s, h1, h2, eq_Client, eq_ByteS, eq_FrameS, eq_NoteS, mark_Client, mark_ByteS, mark_FrameS, mark_NoteS, held_Client, held_FrameS, held_NoteS, Bool.not_true, br_f, nn_dec, bne_self]
theorem ok_ClientRekey (c : YClient) (n : YI) (h : need_Client c ≤ 8388608) :
    ∃ r fs ns k, V_i_ClientRekey c n = some (r, (fs, ()), (ns, ()), (k, ())) ∧ V_s_ClientRekey c n = some (r, (fs, ()), (ns, ()), (k, ())) ∧ ClR c 0 r fs ns := by
  have hch := clCh_need c
  unfold V_i_ClientRekey T_i_ClientRekey V_s_ClientRekey T_s_ClientRekey
  simp only [val_br, val_ob, val_leaf, val_chk, List.length_nil, Nat.zero_add, List.nil_append]
  rw [i_copyClient c (by omega), s_l19Copy c (by omega), i_ClientOk c (by omega), s_ClientOk c, i_within, s_l1In, TimerSet_eq]
  simp only [ob_s]
  have nope : ∀ k : Int, ∃ r fs ns k', some (c, (([] : List YFrame), ()), (([] : List YNote), ()), (k, ())) = some (r, (fs, ()), (ns, ()), (k', ())) ∧ some (c, (([] : List YFrame), ()), (([] : List YNote), ()), (k, ())) = some (r, (fs, ()), (ns, ()), (k', ())) ∧ ClR c 0 r fs ns := fun k =>
    ⟨c, [], [], k, rfl, rfl, by omega, by simp [sumN], by simp [sumN]⟩
  cases clientOk c with
  | false => exact nope 1
  | true =>
    cases inR n.1 0 1000000 with
    | false => exact nope 1
    | true =>
      simp only [Bool.not_true, br_f]
      cases (c.2.2.2.2.1 != (3 : Int)) with
      | true => exact nope 6
      | false =>
        simp only [br_f]
        cases decide ((c.2.2.2.2.2.2.2.2.2.2.2.2.2.2.2.2.2.2.2.2.2.2.2.2.2.2.2.2.2.2.2.1.length : Int) > (0 : Int)) with
        | true => exact nope 6
        | false =>
          simp only [br_f]
          obtain ⟨w, ok, w1, w2, w3⟩ := ok_Want (clCh c) (by omega)
          rw [w1, w2]
          simp only [ob_s]
          obtain ⟨c', f, z, h1, h2, q2, q3, q4⟩ := ok_AskRekey w (by omega)
          rw [h1, h2]
          simp only [ob_s]
          cases ok with
          | false => exact nope 5
          | true =>
            simp only [Bool.not_true, br_f]
            by_cases hz : z = 0
            · subst hz
              have hk := key_need c'
              have hm := need_madeC c' f
              obtain ⟨t, ht⟩ := some_TimerSet n
              rw [br_ff (by decide), br_ff (by decide), ht, i_madeBy _ _ (by omega) (by omega), s_l19Made _ _ (by omega) (by omega)]
              simp only [ob_s]
              refine ⟨_, _, _, 0, rfl, rfl, ?_, ?_, ?_⟩
              · simp only [need_Chan, clCh] at q2 w3
                simp only [need_Client]; omega
              · simp only [sumN, List.length_cons, List.length_nil]; omega
              · simp only [sumN, List.length_cons, List.length_nil]; omega
            · rw [br_tt (by simpa using hz), br_tt (by simpa using hz)]
              exact nope 5
theorem law_ClientRekey (c : YClient) (n : YI) (hw : lo_Client c) : V_l_FnExactClientRekey c n = some (true, ()) := by
  unfold V_l_FnExactClientRekey T_l_FnExactClientRekey
  simp only [val_ob, val_br, val_leaf]
  rw [sz_Client c _ (by omega) (by omega) hw, ob_s]
  by_cases h : szR (need_Client c) 1048576 < 0
  · rw [br_tt (by simpa using h)]
  · have hb := szR_pos h
    obtain ⟨r, fs, ns, k, h1, h2, h3, h4, h5⟩ := ok_ClientRekey c n (by omega)
    have h6 := wt_le_Client c
    have h7 := wt_le_Client r
    have h8 := sumN_le (f := w_Note) (g := need_Note) w_le_Note ns
    have h9 := sumN_le (f := w_Frame) (g := need_Frame) w_le_Frame fs
    rw [br_ff (by simpa using h)]
    simp (disch := first | omega | (dsimp only; omega)) only [to_Client, ob_s, h1, h2, eq_Client, eq_FrameS, eq_NoteS, mark_Client, mark_FrameS, mark_NoteS, held_Client, held_FrameS, held_NoteS, Bool.not_true, br_f, nn_dec, bne_self]
end
end Go.Proofs.YtdlcjpjflckdlaaGreat

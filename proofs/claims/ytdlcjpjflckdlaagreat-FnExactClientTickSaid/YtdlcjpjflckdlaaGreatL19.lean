/-
  That the program and the reference answer alike, in plain terms, and that the laws answer true.
-/
import Derived.Test.YtdlcjpjflckdlaaGreatL18
namespace Go.Proofs.YtdlcjpjflckdlaaGreat
open Go.RowKit
set_option linter.unusedVariables false
set_option linter.unusedSimpArgs false
set_option maxRecDepth 100000
set_option maxHeartbeats 4000000
noncomputable section
/-! ## A client as time passes -/
theorem some_TimerNext2 (t : YTimer) (n : YI) : ∃ t' z, V_s_TimerNext t n = some (t', (z, ())) ∧ (z = 0 → t' = t) := by
  unfold V_s_TimerNext T_s_TimerNext
  simp only [val_br, val_ob, val_leaf]
  obtain ⟨b, hb⟩ := some_TimerFires t n
  rw [hb, ob_s]
  cases b <;> cases (t.2.2.2.1 == (5 : Int)) <;> cases decide (IntKind.i64.wrap ((2 : Int) * t.2.2.1) > 8) <;> exact ⟨_, _, rfl, fun h => by first | rfl | cases h⟩
theorem ob_eta {α β γ : Type} (x : Option (α × β × γ)) : (ob x fun c => some (c.1, c.2.1, c.2.2)) = x := by cases x <;> rfl
theorem st_cases {c : YClient} (h : clientOk c = true) : c.2.2.2.2.1 = 0 ∨ c.2.2.2.2.1 = 1 ∨ c.2.2.2.2.1 = 2 ∨ c.2.2.2.2.1 = 3 := by
  unfold clientOk at h
  simp only [Bool.and_eq_true] at h
  have h3 := h.2.2.2
  by_cases h0 : c.2.2.2.2.1 = 0
  · exact .inl h0
  · rw [show (c.2.2.2.2.1 == (0 : Int)) = false by simpa using h0, cond_false] at h3
    by_cases h1 : c.2.2.2.2.1 = 1
    · exact .inr (.inl h1)
    · rw [show (c.2.2.2.2.1 == (1 : Int)) = false by simpa using h1, cond_false] at h3
      by_cases h2 : c.2.2.2.2.1 = 2
      · exact .inr (.inr (.inl h2))
      · rw [show (c.2.2.2.2.1 == (2 : Int)) = false by simpa using h2, cond_false] at h3
        by_cases h4 : c.2.2.2.2.1 = 3
        · exact .inr (.inr (.inr h4))
        · rw [show (c.2.2.2.2.1 == (3 : Int)) = false by simpa using h4, cond_false] at h3
          cases h3
theorem ok_ClientTick (c : YClient) (n : YI) (h : need_Client c ≤ 8388608) :
    ∃ r fs ns, V_i_ClientTick c n = some (r, (fs, ()), (ns, ())) ∧ V_s_ClientTick c n = some (r, (fs, ()), (ns, ())) ∧ ClR c 0 r fs ns := by
  have hch := clCh_need c
  have hfi := clFin_need c
  have hcn : c.2.2.2.2.2.1.length ≤ need_Client c := by simp only [need_Client]; omega
  have hsn : (c.2.2.2.2.2.2.2.2.2.2.2.2.2.2.2.2.2.2.1).length ≤ need_Client c := by simp only [need_Client]; omega
  have hidl := need_idle c
  unfold V_i_ClientTick T_i_ClientTick V_s_ClientTick T_s_ClientTick V_i_tickUp T_i_tickUp V_i_endOf T_i_endOf
  simp only [val_br, val_ob, val_leaf, val_chk, List.length_nil, Nat.zero_add, List.nil_append, List.length_cons]
  rw [i_copyClient c (by omega), s_l19Copy c (by omega), i_ClientOk c (by omega), s_ClientOk c, i_within, s_l1In, TimerSet_eq, TimerNext_eq]
  simp only [ob_s]
  have nope : ∃ r fs ns, some (c, (([] : List YFrame), ()), (([] : List YNote), ())) = some (r, (fs, ()), (ns, ())) ∧ some (c, (([] : List YFrame), ()), (([] : List YNote), ())) = some (r, (fs, ()), (ns, ())) ∧ ClR c 0 r fs ns :=
    ⟨c, [], [], rfl, rfl, by omega, by simp [sumN], by simp [sumN]⟩
  cases ho : clientOk c with
  | false => exact nope
  | true =>
    cases inR n.1 0 1000000 with
    | false => exact nope
    | true =>
      simp only [Bool.not_true, br_f]
      have hs := st_cases ho
      by_cases h0 : c.2.2.2.2.1 = 0
      · have e0 : (c.2.2.2.2.1 == (0 : Int)) = true := by simp [h0]
        simp only [e0, br_t]; exact nope
      · have e0 : (c.2.2.2.2.1 == (0 : Int)) = false := by simpa using h0
        simp only [e0, br_f]
        rw [i_idle c (by omega), s_l19Idle c (by omega) ho]
        simp only [ob_s]
        by_cases h3 : c.2.2.2.2.1 = 3
        · have e3 : (c.2.2.2.2.1 == (3 : Int)) = true := by simp [h3]
          have e4 : (c.2.2.2.2.1 != (3 : Int)) = false := by simp [h3]
          simp only [e3, e4, br_t, br_f]
          by_cases h60 : IntKind.i64.wrap (n.1 - c.2.2.2.2.2.2.2.2.2.2.2.2.2.2.2.2.2.2.2.2.2.2.2.2.2.2.2.2.2.2.2.2.2.2.2.2.2.2.2.2.1) > 60
          · simp only [dec_t h60, br_t]
            rw [i_clone _ (by dsimp only; omega), dec_t (by omega)]
            simp only [ob_s, chk_t]
            rw [dec_t (by decide), chk_t]
            refine ⟨idleC c, [], _, rfl, rfl, by omega, by simp [sumN], ?_⟩
            simp only [sumN, need_Note, List.length_cons, List.length_nil]; omega
          · simp only [dec_f h60, br_f]
            obtain ⟨ch, g1, g2, g3⟩ := ok_ChanTick (clCh c) n (by omega)
            obtain ⟨t', z, t1, t2⟩ := some_TimerNext2 (clR c) n
            obtain ⟨ts, hts⟩ := some_TimerSet n
            rw [g1, g2, t1, hts]
            simp only [ob_s]
            obtain ⟨c', f, y, a1, a2, a3, a4, a5⟩ := ok_AskRekey ch (by omega)
            rw [a1, a2]
            simp only [ob_s]
            have hk := key_need c'
            have hm := need_madeC c' f
            rw [i_madeBy _ _ (by omega) (by omega), s_l19Made _ _ (by omega) (by omega)]
            simp only [ob_s]
            rw [dec_t (by decide), ob_eta]
            simp only [chk_t]
            simp only [need_Chan, clCh] at g3 a3
            by_cases z0 : z = 0
            · have ez : (z == (0 : Int)) = true := by simp [z0]
              simp only [ez, br_t]
              have := t2 z0
              subst this
              refine ⟨_, [], [], rfl, rfl, ?_, by simp [sumN], by simp [sumN]⟩
              simp only [need_Client]; omega
            · have ez : (z == (0 : Int)) = false := by simpa using z0
              simp only [ez, br_f]
              have fin : ∀ t : YTimer, ∃ r fs ns, br (y != (0 : Int)) (some ((c.1, c.2.1, c.2.2.1, c.2.2.2.1, c.2.2.2.2.1, c.2.2.2.2.2.1, c.2.2.2.2.2.2.1, c.2.2.2.2.2.2.2.1, c.2.2.2.2.2.2.2.2.1, c.2.2.2.2.2.2.2.2.2.1, c.2.2.2.2.2.2.2.2.2.2.1, c.2.2.2.2.2.2.2.2.2.2.2.1, c.2.2.2.2.2.2.2.2.2.2.2.2.1, c.2.2.2.2.2.2.2.2.2.2.2.2.2.1, c.2.2.2.2.2.2.2.2.2.2.2.2.2.2.1, c.2.2.2.2.2.2.2.2.2.2.2.2.2.2.2.1, c.2.2.2.2.2.2.2.2.2.2.2.2.2.2.2.2.1, ch.1, ch.2.1, ch.2.2.1, ch.2.2.2.1, ch.2.2.2.2.1, ch.2.2.2.2.2.1, ch.2.2.2.2.2.2.1, ch.2.2.2.2.2.2.2.1, ch.2.2.2.2.2.2.2.2.1, ch.2.2.2.2.2.2.2.2.2.1, ch.2.2.2.2.2.2.2.2.2.2.1, ch.2.2.2.2.2.2.2.2.2.2.2.1, ch.2.2.2.2.2.2.2.2.2.2.2.2.1, ch.2.2.2.2.2.2.2.2.2.2.2.2.2.1, ch.2.2.2.2.2.2.2.2.2.2.2.2.2.2.1, c.2.2.2.2.2.2.2.2.2.2.2.2.2.2.2.2.2.2.2.2.2.2.2.2.2.2.2.2.2.2.2.2.1, c.2.2.2.2.2.2.2.2.2.2.2.2.2.2.2.2.2.2.2.2.2.2.2.2.2.2.2.2.2.2.2.2.2.1, c.2.2.2.2.2.2.2.2.2.2.2.2.2.2.2.2.2.2.2.2.2.2.2.2.2.2.2.2.2.2.2.2.2.2.1, c.2.2.2.2.2.2.2.2.2.2.2.2.2.2.2.2.2.2.2.2.2.2.2.2.2.2.2.2.2.2.2.2.2.2.2.1, t.1, t.2.1, t.2.2.1, t.2.2.2.1, c.2.2.2.2.2.2.2.2.2.2.2.2.2.2.2.2.2.2.2.2.2.2.2.2.2.2.2.2.2.2.2.2.2.2.2.2.2.2.2.2.1, ()), (([] : List YFrame), ()), (([] : List YNote), ())))
                  (some ((c.1, c.2.1, c.2.2.1, c.2.2.2.1, c.2.2.2.2.1, c.2.2.2.2.2.1, c.2.2.2.2.2.2.1, c.2.2.2.2.2.2.2.1, c.2.2.2.2.2.2.2.2.1, c.2.2.2.2.2.2.2.2.2.1, c.2.2.2.2.2.2.2.2.2.2.1, c.2.2.2.2.2.2.2.2.2.2.2.1, c.2.2.2.2.2.2.2.2.2.2.2.2.1, c.2.2.2.2.2.2.2.2.2.2.2.2.2.1, c.2.2.2.2.2.2.2.2.2.2.2.2.2.2.1, c.2.2.2.2.2.2.2.2.2.2.2.2.2.2.2.1, c.2.2.2.2.2.2.2.2.2.2.2.2.2.2.2.2.1, c'.1, c'.2.1, c'.2.2.1, c'.2.2.2.1, c'.2.2.2.2.1, c'.2.2.2.2.2.1, c'.2.2.2.2.2.2.1, c'.2.2.2.2.2.2.2.1, c'.2.2.2.2.2.2.2.2.1, c'.2.2.2.2.2.2.2.2.2.1, c'.2.2.2.2.2.2.2.2.2.2.1, c'.2.2.2.2.2.2.2.2.2.2.2.1, c'.2.2.2.2.2.2.2.2.2.2.2.2.1, c'.2.2.2.2.2.2.2.2.2.2.2.2.2.1, c'.2.2.2.2.2.2.2.2.2.2.2.2.2.2.1, c.2.2.2.2.2.2.2.2.2.2.2.2.2.2.2.2.2.2.2.2.2.2.2.2.2.2.2.2.2.2.2.2.1, c.2.2.2.2.2.2.2.2.2.2.2.2.2.2.2.2.2.2.2.2.2.2.2.2.2.2.2.2.2.2.2.2.2.1, c.2.2.2.2.2.2.2.2.2.2.2.2.2.2.2.2.2.2.2.2.2.2.2.2.2.2.2.2.2.2.2.2.2.2.1, c.2.2.2.2.2.2.2.2.2.2.2.2.2.2.2.2.2.2.2.2.2.2.2.2.2.2.2.2.2.2.2.2.2.2.2.1, t.1, t.2.1, t.2.2.1, t.2.2.2.1, c.2.2.2.2.2.2.2.2.2.2.2.2.2.2.2.2.2.2.2.2.2.2.2.2.2.2.2.2.2.2.2.2.2.2.2.2.2.2.2.2.1, ()), ([f], ()), ([madeC c' f], ()))) = some (r, (fs, ()), (ns, ())) ∧
                  br (y == (0 : Int)) (some ((c.1, c.2.1, c.2.2.1, c.2.2.2.1, c.2.2.2.2.1, c.2.2.2.2.2.1, c.2.2.2.2.2.2.1, c.2.2.2.2.2.2.2.1, c.2.2.2.2.2.2.2.2.1, c.2.2.2.2.2.2.2.2.2.1, c.2.2.2.2.2.2.2.2.2.2.1, c.2.2.2.2.2.2.2.2.2.2.2.1, c.2.2.2.2.2.2.2.2.2.2.2.2.1, c.2.2.2.2.2.2.2.2.2.2.2.2.2.1, c.2.2.2.2.2.2.2.2.2.2.2.2.2.2.1, c.2.2.2.2.2.2.2.2.2.2.2.2.2.2.2.1, c.2.2.2.2.2.2.2.2.2.2.2.2.2.2.2.2.1, c'.1, c'.2.1, c'.2.2.1, c'.2.2.2.1, c'.2.2.2.2.1, c'.2.2.2.2.2.1, c'.2.2.2.2.2.2.1, c'.2.2.2.2.2.2.2.1, c'.2.2.2.2.2.2.2.2.1, c'.2.2.2.2.2.2.2.2.2.1, c'.2.2.2.2.2.2.2.2.2.2.1, c'.2.2.2.2.2.2.2.2.2.2.2.1, c'.2.2.2.2.2.2.2.2.2.2.2.2.1, c'.2.2.2.2.2.2.2.2.2.2.2.2.2.1, c'.2.2.2.2.2.2.2.2.2.2.2.2.2.2.1, c.2.2.2.2.2.2.2.2.2.2.2.2.2.2.2.2.2.2.2.2.2.2.2.2.2.2.2.2.2.2.2.2.1, c.2.2.2.2.2.2.2.2.2.2.2.2.2.2.2.2.2.2.2.2.2.2.2.2.2.2.2.2.2.2.2.2.2.1, c.2.2.2.2.2.2.2.2.2.2.2.2.2.2.2.2.2.2.2.2.2.2.2.2.2.2.2.2.2.2.2.2.2.2.1, c.2.2.2.2.2.2.2.2.2.2.2.2.2.2.2.2.2.2.2.2.2.2.2.2.2.2.2.2.2.2.2.2.2.2.2.1, t.1, t.2.1, t.2.2.1, t.2.2.2.1, c.2.2.2.2.2.2.2.2.2.2.2.2.2.2.2.2.2.2.2.2.2.2.2.2.2.2.2.2.2.2.2.2.2.2.2.2.2.2.2.2.1, ()), ([f], ()), ([madeC c' f], ())))
                  (some ((c.1, c.2.1, c.2.2.1, c.2.2.2.1, c.2.2.2.2.1, c.2.2.2.2.2.1, c.2.2.2.2.2.2.1, c.2.2.2.2.2.2.2.1, c.2.2.2.2.2.2.2.2.1, c.2.2.2.2.2.2.2.2.2.1, c.2.2.2.2.2.2.2.2.2.2.1, c.2.2.2.2.2.2.2.2.2.2.2.1, c.2.2.2.2.2.2.2.2.2.2.2.2.1, c.2.2.2.2.2.2.2.2.2.2.2.2.2.1, c.2.2.2.2.2.2.2.2.2.2.2.2.2.2.1, c.2.2.2.2.2.2.2.2.2.2.2.2.2.2.2.1, c.2.2.2.2.2.2.2.2.2.2.2.2.2.2.2.2.1, ch.1, ch.2.1, ch.2.2.1, ch.2.2.2.1, ch.2.2.2.2.1, ch.2.2.2.2.2.1, ch.2.2.2.2.2.2.1, ch.2.2.2.2.2.2.2.1, ch.2.2.2.2.2.2.2.2.1, ch.2.2.2.2.2.2.2.2.2.1, ch.2.2.2.2.2.2.2.2.2.2.1, ch.2.2.2.2.2.2.2.2.2.2.2.1, ch.2.2.2.2.2.2.2.2.2.2.2.2.1, ch.2.2.2.2.2.2.2.2.2.2.2.2.2.1, ch.2.2.2.2.2.2.2.2.2.2.2.2.2.2.1, c.2.2.2.2.2.2.2.2.2.2.2.2.2.2.2.2.2.2.2.2.2.2.2.2.2.2.2.2.2.2.2.2.1, c.2.2.2.2.2.2.2.2.2.2.2.2.2.2.2.2.2.2.2.2.2.2.2.2.2.2.2.2.2.2.2.2.2.1, c.2.2.2.2.2.2.2.2.2.2.2.2.2.2.2.2.2.2.2.2.2.2.2.2.2.2.2.2.2.2.2.2.2.2.1, c.2.2.2.2.2.2.2.2.2.2.2.2.2.2.2.2.2.2.2.2.2.2.2.2.2.2.2.2.2.2.2.2.2.2.2.1, t.1, t.2.1, t.2.2.1, t.2.2.2.1, c.2.2.2.2.2.2.2.2.2.2.2.2.2.2.2.2.2.2.2.2.2.2.2.2.2.2.2.2.2.2.2.2.2.2.2.2.2.2.2.2.1, ()), (([] : List YFrame), ()), (([] : List YNote), ()))) = some (r, (fs, ()), (ns, ())) ∧ ClR c 0 r fs ns := fun t => by
                by_cases y0 : y = 0
                · rw [br_ff (by simp [y0]), br_tt (by simp [y0])]
                  refine ⟨_, _, _, rfl, rfl, ?_, ?_, ?_⟩
                  · simp only [need_Client]; omega
                  · simp only [sumN, List.length_cons, List.length_nil, need_Chan, clCh] at *; omega
                  · simp only [sumN, List.length_cons, List.length_nil, need_Chan, clCh] at *; omega
                · rw [br_tt (by simpa using y0), br_ff (by simpa using y0)]
                  refine ⟨_, [], [], rfl, rfl, ?_, by simp [sumN], by simp [sumN]⟩
                  simp only [need_Client]; omega
              cases (z == (2 : Int)) with
              | true => simp only [br_t]; exact fin ts
              | false => simp only [br_f]; exact fin t'
        · have e3 : (c.2.2.2.2.1 == (3 : Int)) = false := by simpa using h3
          have e4 : (c.2.2.2.2.1 != (3 : Int)) = true := by simpa using h3
          simp only [e3, e4, br_t, br_f]
          obtain ⟨t', z, t1, t2⟩ := some_TimerNext2 (clT c) n
          rw [t1, i_clone _ (by dsimp only; omega), dec_t (by omega), i_initOf c (by omega), s_l19Init c (by omega), i_copyFrame (clFin c) (by omega), s_l7Copy (clFin c) (by omega)]
          simp only [ob_s, chk_t]
          by_cases z2 : z = 2
          · have ez : (z == (2 : Int)) = true := by simp [z2]
            simp only [ez, br_t]
            rw [dec_t (by decide), chk_t]
            refine ⟨idleC c, [], _, rfl, rfl, by omega, by simp [sumN], ?_⟩
            simp only [sumN, need_Note, List.length_cons, List.length_nil]; omega
          · have ez : (z == (2 : Int)) = false := by simpa using z2
            simp only [ez, br_f]
            rcases hs with hs | hs | hs | hs
            · exact (h0 hs).elim
            · have e1 : (c.2.2.2.2.1 == (1 : Int)) = true := by simp [hs]
              have e2 : (c.2.2.2.2.1 == (2 : Int)) = false := by simp [hs]
              rw [e1, e2]
              cases (z == (1 : Int)) with
              | true =>
                simp only [br_t, br_f]
                rw [dec_t (by decide), chk_t]
                refine ⟨_, _, [], rfl, rfl, ?_, ?_, by simp [sumN]⟩
                · simp only [need_Client]; omega
                · simp only [sumN, need_Frame, List.length_cons, List.length_nil]; omega
              | false =>
                simp only [br_t, br_f]
                refine ⟨_, [], [], rfl, rfl, ?_, by simp [sumN], by simp [sumN]⟩
                simp only [need_Client]; omega
            · have e1 : (c.2.2.2.2.1 == (1 : Int)) = false := by simp [hs]
              have e2 : (c.2.2.2.2.1 == (2 : Int)) = true := by simp [hs]
              rw [e1, e2]
              cases (z == (1 : Int)) with
              | true =>
                simp only [br_t, br_f]
                rw [dec_t (by decide), chk_t]
                refine ⟨_, _, [], rfl, rfl, ?_, ?_, by simp [sumN]⟩
                · simp only [need_Client]; omega
                · simp only [sumN, List.length_cons, List.length_nil]; omega
              | false =>
                simp only [br_t, br_f]
                refine ⟨_, [], [], rfl, rfl, ?_, by simp [sumN], by simp [sumN]⟩
                simp only [need_Client]; omega
            · exact (h3 hs).elim
theorem law_ClientTick (c : YClient) (n : YI) (hw : lo_Client c) : V_l_FnExactClientTick c n = some (true, ()) := by
  unfold V_l_FnExactClientTick T_l_FnExactClientTick
  simp only [val_ob, val_br, val_leaf]
  rw [sz_Client c _ (by omega) (by omega) hw, ob_s]
  by_cases h : szR (need_Client c) 1048576 < 0
  · rw [br_tt (by simpa using h)]
  · have hb := szR_pos h
    obtain ⟨r, fs, ns, h1, h2, h3, h4, h5⟩ := ok_ClientTick c n (by omega)
    have h6 := wt_le_Client c
    have h7 := wt_le_Client r
    have h8 := sumN_le (f := w_Note) (g := need_Note) w_le_Note ns
    have h9 := sumN_le (f := w_Frame) (g := need_Frame) w_le_Frame fs
    rw [br_ff (by simpa using h)]
    simp (disch := first | omega | (dsimp only; omega)) only [to_Client, ob_s, h1, h2, eq_Client, eq_FrameS, eq_NoteS, mark_Client, mark_FrameS, mark_NoteS, held_Client, held_FrameS, held_NoteS, Bool.not_true, br_f, nn_dec, bne_self]
end
end Go.Proofs.YtdlcjpjflckdlaaGreat

/-
  That the program and the reference answer alike, in plain terms, and that the laws answer true.
-/
import Derived.Test.YtndbndcibmfgdaaGreatL24
namespace Go.Proofs.YtndbndcibmfgdaaGreat
open Go.RowKit
set_option linter.unusedVariables false
set_option linter.unusedSimpArgs false
set_option maxRecDepth 100000
set_option maxHeartbeats 4000000
noncomputable section
/-! ## Tables and servers as time passes -/
theorem sumN_take {E : Type} {f : E → Nat} {l : List E} {i : Nat} {x : E} (h : l[i]? = some x) : sumN f (l.take (i + 1)) = sumN f (l.take i) + f x := by
  rw [← snoc_take h, sumN_app]; simp [sumN]
theorem ok_TabTick (t : YTab) (n : YI) (h : need_Tab t ≤ 8388608) : ∃ r, V_i_TabTick t n = some r ∧ V_s_TabTick t n = some r ∧ r.2.1.length ≤ t.2.1.length ∧ need_Tab r ≤ need_Tab t := by
  have h' := h
  unfold V_i_TabTick T_i_TabTick V_s_TabTick T_s_TabTick
  simp only [val_br, val_ob, val_leaf]
  rw [i_TabOk t (by omega), s_TabOk t (by omega), i_copyTab t (by omega), s_l21Copy t (by omega), i_within, s_l1In]
  simp only [ob_s]
  have nope : ∃ r, some t = some r ∧ some t = some r ∧ r.2.1.length ≤ t.2.1.length ∧ need_Tab r ≤ need_Tab t := ⟨t, rfl, rfl, Nat.le_refl _, Nat.le_refl _⟩
  cases tabOk t with
  | false => exact nope
  | true =>
    cases inR n.1 0 1000000 with
    | false => exact nope
    | true =>
      simp only [Bool.not_true, br_f]
      obtain ⟨cap, l, ⟨⟩⟩ := t
      simp only [need_Tab] at h'
      obtain ⟨o1, o2, h1, h2, hq⟩ := lockstep (B1 := B_i_TabTick_5) (B2 := B_s_TabTick_5)
        (fun i d1 d2 => ∃ m : List YSess, m.length ≤ i ∧ sumN need_Sess m ≤ sumN need_Sess (l.take i) ∧ d1 = (n.1, l, (l.length : Int), (i : Int), (0 : Int), ([] : List YSess), cap, m, ()) ∧ d2 = (n.1, (i : Int), cap, l, (0 : Int), ([] : List YSess), cap, m, ()))
        (fun o1 o2 => o1 = o2 ∧ ∃ m : List YSess, m.length ≤ l.length ∧ sumN need_Sess m ≤ sumN need_Sess l ∧ o1 = ((0 : Int), ([] : List YSess), cap, m, ())) l.length
        (by
          rintro i d1 d2 hi ⟨m, m1, m2, rfl, rfl⟩
          have hx := List.getElem?_eq_getElem hi
          have hnx := sumN_at (f := need_Sess) hx
          have ht := sumN_take (f := need_Sess) hx
          obtain ⟨r, r1, r2, r3⟩ := ok_SessTick l[i] n (by omega)
          left
          unfold B_i_TabTick_5 B_s_TabTick_5
          simp only [val_br, val_ob, val_leaf, val_chk, lt_dec hi, br_t, idx_at hx, ob_s]
          rw [show ((n.1, ()) : YI) = n from rfl, r1, r2]
          simp only [ob_s]
          rw [w64 (by omega), dec_t (by simp; omega)]
          simp only [chk_t]
          cases (!r.2.2.2.2.2.2.2.2.2.2.2.2.2.2.2.2.2.2.2.2.2.2.2.1) with
          | true => exact ⟨_, _, rfl, rfl, m ++ [r], by simp; omega, by rw [sumN_app]; simp only [sumN]; omega, rfl, rfl⟩
          | false =>
            cases decide (IntKind.i64.wrap (n.1 - r.2.2.2.2.2.2.2.2.2.2.2.2.2.2.2.2.2.2.2.2.2.1) ≤ 10) with
            | true => exact ⟨_, _, rfl, rfl, m ++ [r], by simp; omega, by rw [sumN_app]; simp only [sumN]; omega, rfl, rfl⟩
            | false => exact ⟨_, _, rfl, rfl, m, by omega, by omega, rfl, rfl⟩)
        (by
          rintro d1 d2 ⟨m, m1, m2, rfl, rfl⟩
          unfold B_i_TabTick_5 B_s_TabTick_5
          simp only [val_br, val_ob, val_leaf, val_chk, ge_dec, br_f]
          rw [List.take_length] at m2
          exact ⟨_, _, rfl, rfl, rfl, m, m1, m2, rfl⟩)
        (d1 := (n.1, l, (l.length : Int), (0 : Int), (0 : Int), ([] : List YSess), cap, ([] : List YSess), ())) (d2 := (n.1, (0 : Int), cap, l, (0 : Int), ([] : List YSess), cap, ([] : List YSess), ())) ⟨[], by simp, by simp [sumN], rfl, rfl⟩
      obtain ⟨hq1, m, m1, m2, hq2⟩ := hq
      subst hq1
      subst hq2
      rw [h1, h2]
      exact ⟨(cap, m, ()), rfl, rfl, m1, by simp only [need_Tab]; omega⟩
theorem law_TabTick (t : YTab) (n : YI) (hw : lo_Tab t) : V_l_FnExactTabTick t n = some (true, ()) := by
  unfold V_l_FnExactTabTick T_l_FnExactTabTick
  simp only [val_ob, val_br, val_leaf]
  rw [sz_Tab t _ (by omega) (by omega) hw, ob_s]
  by_cases h : szR (need_Tab t) 1048576 < 0
  · rw [br_tt (by simpa using h)]
  · have hb := szR_pos h
    obtain ⟨r, h1, h2, h3, h4⟩ := ok_TabTick t n (by omega)
    have h6 := wt_le_Tab t
    have h7 := wt_le_Tab r
    rw [br_ff (by simpa using h)]
    simp (disch := first | omega | (dsimp only; omega)) only [to_Tab, ob_s, h1, h2, eq_Tab, mark_Tab, held_Tab, Bool.not_true, br_f, nn_dec, bne_self]
theorem endN_need (x : YSess) : need_Note ((11 : Int), x.1, (1 : Int), ([] : List YB), x.2.2.1, (0 : Int), (0 : Int), ([] : List YB), ([] : List YB), (0 : Int), (0 : Int), (0 : Int), ()) ≤ need_Sess x := by
  simp only [need_Note, need_Sess, List.length_nil]; omega
theorem ok_ServerTick (s : YServer) (n : YI) (h : need_Server s ≤ 8388608) : ∃ r ns, V_i_ServerTick s n = some (r, (ns, ())) ∧ V_s_ServerTick s n = some (r, (ns, ())) ∧ need_Server r ≤ need_Server s ∧ ns.length + sumN need_Note ns ≤ need_Server s := by
  have h' := h
  unfold V_i_ServerTick T_i_ServerTick V_s_ServerTick T_s_ServerTick
  simp only [val_br, val_ob, val_leaf]
  rw [i_copyServer s (by omega), s_l22Copy s (by omega), i_ServerOk s (by omega), s_ServerOk s (by omega), i_within, s_l1In]
  simp only [ob_s]
  have nope : ∃ r ns, some (s, (([] : List YNote), ())) = some (r, (ns, ())) ∧ some (s, (([] : List YNote), ())) = some (r, (ns, ())) ∧ need_Server r ≤ need_Server s ∧ ns.length + sumN need_Note ns ≤ need_Server s := ⟨s, [], rfl, rfl, Nat.le_refl _, by simp [sumN]⟩
  cases serverOk s with
  | false => exact nope
  | true =>
    cases inR n.1 0 1000000 with
    | false => exact nope
    | true =>
      simp only [Bool.not_true, br_f]
      obtain ⟨ps, jar, sd, dn, cap, l, cr, ⟨⟩⟩ := s
      simp only [need_Server] at h'
      obtain ⟨t, t1, t2, t3, t4⟩ := ok_TabTick (cap, l, ()) n (by simp only [need_Tab]; omega)
      simp only at t3
      simp only [need_Tab] at t4
      simp only
      rw [t1, t2]
      simp only [ob_s]
      obtain ⟨o1, o2, h1, h2, hq⟩ := lockstep (B1 := B_i_ServerTick_7) (B2 := B_s_ServerTick_7)
        (fun i d1 d2 => ∃ m : List YNote, m.length ≤ i ∧ sumN need_Note m ≤ sumN need_Sess (l.take i) ∧ d1 = (m, l, (l.length : Int), (i : Int), ([] : List YBs), ([] : List YB), ([] : List YB), (0 : Int), (0 : Int), ([] : List YSess), ([] : List YCredit), ps, jar, sd, dn, t.1, t.2.1, cr, ()) ∧
          d2 = (m, (i : Int), ps, jar, sd, dn, cap, l, cr, ([] : List YBs), ([] : List YB), ([] : List YB), (0 : Int), (0 : Int), ([] : List YSess), ([] : List YCredit), ps, jar, sd, dn, t.1, t.2.1, cr, ()))
        (fun o1 o2 => o1 = o2 ∧ ∃ m : List YNote, m.length ≤ l.length ∧ sumN need_Note m ≤ sumN need_Sess l ∧ o1 = (m, ([] : List YBs), ([] : List YB), ([] : List YB), (0 : Int), (0 : Int), ([] : List YSess), ([] : List YCredit), ps, jar, sd, dn, t.1, t.2.1, cr, ())) l.length
        (by
          rintro i d1 d2 hi ⟨m, m1, m2, rfl, rfl⟩
          have hx := List.getElem?_eq_getElem hi
          have hnx := sumN_at (f := need_Sess) hx
          have ht := sumN_take (f := need_Sess) hx
          have hen := endN_need l[i]
          have hsn : l[i].2.2.1.length ≤ need_Sess l[i] := by simp only [need_Sess]; omega
          left
          unfold B_i_ServerTick_7 B_s_ServerTick_7 V_i_endOf T_i_endOf V_s_l22End T_s_l22End
          simp only [val_br, val_ob, val_leaf, val_chk, lt_dec hi, br_t, idx_at hx, ob_s, List.length_nil, Nat.zero_add, List.nil_append]
          rw [i_FindSn (t.1, t.2.1, ()) (l[i].2.2.1, ()) (by dsimp only; omega), s_FindSn (t.1, t.2.1, ()) (l[i].2.2.1, ()) (by dsimp only; omega), i_clone _ (by dsimp only; omega), dec_t (p := l[i].2.2.1.length ≤ 4294967296) (by omega)]
          simp only [ob_s, chk_t]
          rw [w64 (by omega), dec_t (p := m.length + [(((11 : Int), l[i].1, (1 : Int), ([] : List YB), l[i].2.2.1, (0 : Int), (0 : Int), ([] : List YB), ([] : List YB), (0 : Int), (0 : Int), (0 : Int), ()) : YNote)].length ≤ 4294967296) (by simp; omega)]
          simp only [chk_t]
          have more : m.length + 1 ≤ i + 1 ∧ sumN need_Note (m ++ [(((11 : Int), l[i].1, (1 : Int), ([] : List YB), l[i].2.2.1, (0 : Int), (0 : Int), ([] : List YB), ([] : List YB), (0 : Int), (0 : Int), (0 : Int), ()) : YNote)]) ≤ sumN need_Sess (l.take (i + 1)) := ⟨by omega, by rw [sumN_app]; simp only [sumN]; omega⟩
          cases (!l[i].2.2.2.2.2.2.2.2.2.2.2.2.2.2.2.2.2.2.2.2.2.2.2.1) with
          | false => exact ⟨_, _, rfl, rfl, m, by omega, by omega, rfl, rfl⟩
          | true =>
            simp only [br_t]
            by_cases hk : findSn t.2.1 l[i].2.2.1 < 0
            · rw [dec_t hk]
              exact ⟨_, _, rfl, rfl, _, by simpa using more.1, more.2, rfl, rfl⟩
            · rw [dec_f hk]
              simp only [br_f]
              have hp := posI_le (q := fun x : YSess => sameB x.2.2.1 l[i].2.2.1) (l := t.2.1)
              obtain ⟨e, he, _⟩ := idx_some (l := t.2.1) (n := findSn t.2.1 l[i].2.2.1) (by omega) hp.2
              rw [he]
              simp only [ob_s]
              cases e.2.2.2.2.2.2.2.2.2.2.2.2.2.2.2.2.2.2.2.2.2.2.2.1 with
              | true => exact ⟨_, _, rfl, rfl, _, by simpa using more.1, more.2, rfl, rfl⟩
              | false => exact ⟨_, _, rfl, rfl, m, by omega, by omega, rfl, rfl⟩)
        (by
          rintro d1 d2 ⟨m, m1, m2, rfl, rfl⟩
          unfold B_i_ServerTick_7 B_s_ServerTick_7
          simp only [val_br, val_ob, val_leaf, val_chk, ge_dec, br_f]
          rw [List.take_length] at m2
          exact ⟨_, _, rfl, rfl, rfl, m, m1, m2, rfl⟩)
        (d1 := (([] : List YNote), l, (l.length : Int), (0 : Int), ([] : List YBs), ([] : List YB), ([] : List YB), (0 : Int), (0 : Int), ([] : List YSess), ([] : List YCredit), ps, jar, sd, dn, t.1, t.2.1, cr, ()))
        (d2 := (([] : List YNote), (0 : Int), ps, jar, sd, dn, cap, l, cr, ([] : List YBs), ([] : List YB), ([] : List YB), (0 : Int), (0 : Int), ([] : List YSess), ([] : List YCredit), ps, jar, sd, dn, t.1, t.2.1, cr, ())) ⟨[], by simp, by simp [sumN], rfl, rfl⟩
      obtain ⟨hq1, m, m1, m2, hq2⟩ := hq
      subst hq1
      subst hq2
      rw [h1, h2]
      refine ⟨(ps, jar, sd, dn, t.1, t.2.1, cr, ()), m, rfl, rfl, ?_, ?_⟩
      · simp only [need_Server]; omega
      · simp only [need_Server]; omega
theorem law_ServerTick (s : YServer) (n : YI) (hw : lo_Server s) : V_l_FnExactServerTick s n = some (true, ()) := by
  unfold V_l_FnExactServerTick T_l_FnExactServerTick
  simp only [val_ob, val_br, val_leaf]
  rw [sz_Server s _ (by omega) (by omega) hw, ob_s]
  by_cases h : szR (need_Server s) 1048576 < 0
  · rw [br_tt (by simpa using h)]
  · have hb := szR_pos h
    obtain ⟨r, ns, h1, h2, h3, h4⟩ := ok_ServerTick s n (by omega)
    have h6 := wt_le_Server s
    have h7 := wt_le_Server r
    have h8 := sumN_le (f := w_Note) (g := need_Note) w_le_Note ns
    rw [br_ff (by simpa using h)]
    simp (disch := first | omega | (dsimp only; omega)) only [to_Server, ob_s, h1, h2, eq_Server, eq_NoteS, mark_Server, mark_NoteS, held_Server, held_NoteS, Bool.not_true, br_f, nn_dec, bne_self]
end
end Go.Proofs.YtndbndcibmfgdaaGreat

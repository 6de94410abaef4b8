/-
  That the program and the reference answer alike, in plain terms, and that the laws answer true.
-/
import Derived.Test.YthcbhopanefaiaaL5
namespace Go.Proofs.Ythcbhopanefaiaa
open Go.RowKit
set_option linter.unusedVariables false
set_option linter.unusedSimpArgs false
set_option maxHeartbeats 4000000
noncomputable section
/-! ## Frames -/
theorem i_Sealed (n : YI) : V_i_Sealed n = some (inR n.1 4 8, ()) := by
  unfold V_i_Sealed T_i_Sealed
  simp only [val_ob, val_leaf, i_within, ob_s]
theorem s_Sealed (n : YI) : V_s_Sealed n = some (inR n.1 4 8, ()) := by
  unfold V_s_Sealed T_s_Sealed
  simp only [val_ob, val_leaf, s_l1In, ob_s]
def bodyOk (k n : Int) : Bool := bif k == 4 then decide (n ≤ 40) else bif k == 5 then n == 12 else bif k == 6 then n == 12 else n == 4
theorem i_bodyOk (k n : YI) : V_i_bodyOk k n = some (bodyOk k.1 n.1, ()) := by
  unfold V_i_bodyOk T_i_bodyOk bodyOk
  simp only [val_br, val_leaf, br_cc]
theorem s_l7Body (k n : YI) : V_s_l7Body k n = some (bodyOk k.1 n.1, ()) := by
  unfold V_s_l7Body T_s_l7Body bodyOk
  simp only [val_br, val_leaf, br_cc]
theorem i_sameFrame (f g : YFrame) : V_i_sameFrame f g = some ((f.1 == g.1) && ((f.2.1 == g.2.1) && ((f.2.2.2.2.1 == g.2.2.2.2.1) && ((f.2.2.2.2.2.2.2.1 == g.2.2.2.2.2.2.2.1) && ((f.2.2.2.2.2.2.2.2.1 == g.2.2.2.2.2.2.2.2.1) && (sameB f.2.2.1 g.2.2.1 && (sameB f.2.2.2.1 g.2.2.2.1 &&
    (sameB f.2.2.2.2.2.1 g.2.2.2.2.2.1 && (sameB f.2.2.2.2.2.2.1 g.2.2.2.2.2.2.1 && (sameB f.2.2.2.2.2.2.2.2.2.1 g.2.2.2.2.2.2.2.2.2.1 && sameB f.2.2.2.2.2.2.2.2.2.2.1 g.2.2.2.2.2.2.2.2.2.2.1))))))))), ()) := by
  unfold V_i_sameFrame T_i_sameFrame
  simp only [val_br, val_ob, val_leaf, bytes_Equal, ob_s, br_and]
def frameOk (f : YFrame) : Bool :=
  bif inR f.1 4 8 then (f.2.1 == 0) && (((f.2.2.1.length : Int) == 0) && (((f.2.2.2.1.length : Int) == 12) && ((f.2.2.2.2.1 == 0) && (((f.2.2.2.2.2.1.length : Int) == 0) && (((f.2.2.2.2.2.2.1.length : Int) == 0) && (inR f.2.2.2.2.2.2.2.1 0 4294967295 && (inR f.2.2.2.2.2.2.2.2.1 0 281474976710655 &&
    (bodyOk f.1 (f.2.2.2.2.2.2.2.2.2.1.length : Int) && ((f.2.2.2.2.2.2.2.2.2.2.1.length : Int) == 16)))))))))
  else (f.2.2.2.2.2.2.2.1 == 0) && ((f.2.2.2.2.2.2.2.2.1 == 0) && (((f.2.2.2.2.2.2.2.2.2.1.length : Int) == 0) && (((f.2.2.2.2.2.2.2.2.2.2.1.length : Int) == 0) && (((f.2.2.1.length : Int) == 12) &&
    (bif f.1 == 1 then inR f.2.1 1 9 && (((f.2.2.2.1.length : Int) == 0) && ((f.2.2.2.2.1 == 0) && (((f.2.2.2.2.2.1.length : Int) == 0) && ((f.2.2.2.2.2.2.1.length : Int) == 0))))
     else bif f.1 == 2 then (f.2.1 == 0) && (((f.2.2.2.1.length : Int) == 12) && (inR f.2.2.2.2.1 0 1000000 && (((f.2.2.2.2.2.1.length : Int) == 16) && ((f.2.2.2.2.2.2.1.length : Int) == 0))))
     else (f.1 == 3) && (inR f.2.1 1 9 && (((f.2.2.2.1.length : Int) == 12) && (inR f.2.2.2.2.1 0 1000000 && (((f.2.2.2.2.2.1.length : Int) == 16) && ((f.2.2.2.2.2.2.1.length : Int) == 16))))))))))
theorem s_FrameOk (f : YFrame) : V_s_FrameOk f = some (frameOk f, ()) := by
  unfold V_s_FrameOk T_s_FrameOk frameOk
  simp only [val_br, val_ob, val_leaf, s_Sealed, s_l1In, s_l7Body, ob_s, br_cc, bne, Bool.cond_false_right, Bool.cond_true_left, Bool.cond_false_left, Bool.not_not]
theorem i_FrameOk (f : YFrame) : V_i_FrameOk f = some (frameOk f, ()) := by
  obtain ⟨kind, id, cn, sn, tick, cookie, proof, epoch, seq, body, tag, _⟩ := f
  unfold V_i_FrameOk T_i_FrameOk frameOk
  simp only [val_br, val_ob, val_leaf, i_Sealed, i_within, i_isNonce, i_bodyOk, i_sameFrame, sameB_nil, sameB_refl, beq_self_eq_true, Bool.true_and, Bool.and_true, ob_s, br_cc, Bool.cond_false_right, Bool.cond_true_left, Bool.cond_false_left, Bool.not_not]
  refine congrArg (fun b => some (b, ())) ?_
  by_cases h1 : kind = 1
  · subst h1
    apply beq_of_iff
    simp [inR]
    grind
  · by_cases h2 : kind = 2
    · subst h2
      apply beq_of_iff
      simp [inR]
      grind
    · by_cases h3 : kind = 3
      · subst h3
        apply beq_of_iff
        simp [inR]
        grind
      · have e1 : (kind == 1) = false := by simpa using h1
        have e2 : (kind == 2) = false := by simpa using h2
        have e3 : (kind == 3) = false := by simpa using h3
        rw [e1, e2, e3]
        cases inR kind 4 8 with
        | false => simp
        | true =>
          cases hb : bodyOk kind (body.length : Int) with
          | false => simp
          | true =>
            apply beq_of_iff
            simp [inR]
            grind
def putFrame (f : YFrame) : List YB :=
  bif !frameOk f then [] else
  bif f.1 == 1 then (IntKind.u8.wrap f.1, ()) :: (IntKind.u8.wrap f.2.1, ()) :: (f.2.2.1 ++ List.replicate 20 ((0 : Int), ()))
  else bif f.1 == 2 then (IntKind.u8.wrap f.1, ()) :: (f.2.2.1 ++ (f.2.2.2.1 ++ (bytN f.2.2.2.2.1 4 4 ++ f.2.2.2.2.2.1)))
  else bif f.1 == 3 then (IntKind.u8.wrap f.1, ()) :: (IntKind.u8.wrap f.2.1, ()) :: (f.2.2.1 ++ (f.2.2.2.1 ++ (bytN f.2.2.2.2.1 4 4 ++ (f.2.2.2.2.2.1 ++ f.2.2.2.2.2.2.1))))
  else (IntKind.u8.wrap f.1, ()) :: (f.2.2.2.1 ++ (bytN f.2.2.2.2.2.2.2.1 4 4 ++ (bytN f.2.2.2.2.2.2.2.2.1 6 6 ++ (f.2.2.2.2.2.2.2.2.2.2.1 ++ f.2.2.2.2.2.2.2.2.2.1))))
theorem s_zeros (b : List YB) (hl : b.length ≤ 1073741824) : iterO B_s_PutFrame_10 (b, (0 : Int), ()) = some (b ++ List.replicate 20 ((0 : Int), ()), ()) := by
  have hr := loop_run (B := B_s_PutFrame_10) 20 (fun i => (b ++ List.replicate i ((0 : Int), ()), (i : Int), ())) (b ++ List.replicate 20 ((0 : Int), ()), ())
    (fun i hi => by
      unfold B_s_PutFrame_10
      simp only [val_br, val_chk, val_leaf]
      rw [dec_t (by omega), br_t, dec_t (by simp; omega), chk_t, w64 (by omega), List.append_assoc, ← List.replicate_succ']
      rfl)
    (by unfold B_s_PutFrame_10; simp only [val_br, val_leaf, val_chk]; rfl)
  simpa using hr
theorem s_PutFrame (f : YFrame) (h : need_Frame f ≤ 536870912) : V_s_PutFrame f = some (putFrame f, ()) := by
  obtain ⟨kind, id, cn, sn, tick, cookie, proof, epoch, seq, body, tag, _⟩ := f
  simp only [need_Frame] at h
  unfold V_s_PutFrame T_s_PutFrame putFrame
  simp only [val_br, val_ob, val_leaf, val_chk, s_FrameOk, ob_s]
  cases frameOk (kind, id, cn, sn, tick, cookie, proof, epoch, seq, body, tag, PUnit.unit) with
  | false => rfl
  | true =>
    simp only [Bool.not_true, br_f, cond_false]
    cases kind == 1 with
    | true =>
      simp only [br_t, cond_true]
      rw [dec_t (by simp), chk_t, dec_t (by simp; omega), chk_t, s_zeros _ (by simp; omega)]
      simp [ob]
    | false =>
      cases kind == 2 with
      | true =>
        simp only [br_t, br_f, cond_true, cond_false]
        rw [dec_t (by simp; omega), chk_t, dec_t (by simp; omega), chk_t, s_PutN4 _ _ (by simp; omega), ob_s, dec_t (by simp [bytN_len]; omega), chk_t]
        simp
      | false =>
        cases kind == 3 with
        | true =>
          simp only [br_t, br_f, cond_true, cond_false]
          rw [dec_t (by simp), chk_t, dec_t (by simp; omega), chk_t, dec_t (by simp; omega), chk_t, s_PutN4 _ _ (by simp; omega), ob_s, dec_t (by simp [bytN_len]; omega), chk_t, dec_t (by simp [bytN_len]; omega), chk_t]
          simp
        | false =>
          simp only [br_f, cond_false]
          rw [dec_t (by simp; omega), chk_t, s_PutN4 _ _ (by simp; omega), ob_s, s_PutN6 _ _ (by simp [bytN_len]; omega), ob_s, dec_t (by simp [bytN_len]; omega), chk_t, dec_t (by simp [bytN_len]; omega), chk_t]
          simp
theorem i_PutFrame (f : YFrame) (h : need_Frame f ≤ 536870912) : V_i_PutFrame f = some (putFrame f, ()) := by
  obtain ⟨kind, id, cn, sn, tick, cookie, proof, epoch, seq, body, tag, _⟩ := f
  simp only [need_Frame] at h
  unfold V_i_PutFrame T_i_PutFrame putFrame
  simp only [val_br, val_ob, val_leaf, val_chk, i_FrameOk, ob_s]
  cases frameOk (kind, id, cn, sn, tick, cookie, proof, epoch, seq, body, tag, PUnit.unit) with
  | false => rfl
  | true =>
    simp only [Bool.not_true, br_f, cond_false]
    cases kind == 1 with
    | true =>
      simp only [br_t, cond_true]
      rw [i_joined _ (by simp [cat]; omega) (by simp)]
      simp [ob, cat]
    | false =>
      cases kind == 2 with
      | true =>
        simp only [br_t, br_f, cond_true, cond_false]
        rw [i_PutN4 _ _ (by simp), ob_s, i_joined _ (by simp [cat, bytN_len]; omega) (by simp)]
        simp [ob, cat]
      | false =>
        cases kind == 3 with
        | true =>
          simp only [br_t, br_f, cond_true, cond_false]
          rw [i_PutN4 _ _ (by simp), ob_s, i_joined _ (by simp [cat, bytN_len]; omega) (by simp)]
          simp [ob, cat]
        | false =>
          simp only [br_f, cond_false]
          rw [i_PutN4 _ _ (by simp), ob_s, i_PutN6 _ _ (by simp), ob_s, i_joined _ (by simp [cat, bytN_len]; omega) (by simp)]
          simp [ob, cat]
theorem putFrame_le (f : YFrame) : (putFrame f).length ≤ need_Frame f + 32 := by
  unfold putFrame need_Frame
  cases frameOk f <;> cases f.1 == 1 <;> cases f.1 == 2 <;> cases f.1 == 3 <;> simp [bytN_len] <;> omega
def wireFrom (a b : YAddr) (f : YFrame) : YWire := (a.1, a.2.1, b.1, b.2.1, putFrame f, ())
theorem i_WireFrom (a b : YAddr) (f : YFrame) (h : need_Frame f ≤ 536870912) : V_i_WireFrom a b f = some (wireFrom a b f) := by
  unfold V_i_WireFrom T_i_WireFrom wireFrom
  simp only [val_ob, val_leaf, i_PutFrame f h, ob_s]
theorem s_WireFrom (a b : YAddr) (f : YFrame) (h : need_Frame f ≤ 536870912) : V_s_WireFrom a b f = some (wireFrom a b f) := by
  unfold V_s_WireFrom T_s_WireFrom wireFrom
  simp only [val_ob, val_leaf, s_PutFrame f h, ob_s]
theorem law_WireFrom (a b : YAddr) (f : YFrame) (hw : lo_Frame f) : V_l_FnExactWireFrom a b f = some (true, ()) := by
  unfold V_l_FnExactWireFrom T_l_FnExactWireFrom
  simp only [val_ob, val_br, val_leaf]
  rw [sz_Frame f _ (by omega) (by omega) hw, ob_s]
  by_cases h : szR (need_Frame f) 1048576 < 0
  · rw [br_tt (by simpa using h)]
  · have hb := szR_pos h
    have h1 := putFrame_le f
    have h2 : need_Wire (wireFrom a b f) = (putFrame f).length := rfl
    have h3 := wt_le_Wire (wireFrom a b f)
    have h4 := wt_le_Frame f
    rw [br_ff (by simpa using h)]
    simp (disch := omega) only [to_Frame, to_Addr, ob_s, i_WireFrom, s_WireFrom, eq_Wire, eq_Frame, mark_Frame, mark_Wire, held_Wire, Bool.not_true, br_f, nn_dec, bne_self]
theorem law_See (l : List YWire × Unit) (w : YWire) (hw : l.1.length ≤ 9223372036854775807 ∧ (∀ (i : Nat) x, l.1[i]? = some x → lo_Wire x)) (hw2 : lo_Wire w) : V_l_FnExactSee l w = some (true, ()) := by
  unfold V_l_FnExactSee T_l_FnExactSee
  simp only [val_ob, val_br, val_leaf]
  rw [sz_WireS l _ (by omega) (by omega) hw, ob_s]
  by_cases h : szR (l.1.length + sumN need_Wire l.1) 1048576 < 0
  · rw [br_tt (by simpa using h)]
  · rw [br_ff (by simpa using h), sz_Wire w _ (szR_ge _ _) (szR_le (by omega) (by omega)) hw2, ob_s]
    have hb := szR_pos h
    rw [szR_szR]
    by_cases h' : szR (l.1.length + sumN need_Wire l.1 + need_Wire w) 1048576 < 0
    · rw [br_tt (by simpa using h')]
    · have hb' := szR_pos h'
      obtain ⟨l, ⟨⟩⟩ := l
      simp only at hb hb'
      have h1 := need_see l w
      have h3 := sumN_le (f := w_Wire) (g := need_Wire) w_le_Wire (see l w)
      have h4 := sumN_le (f := w_Wire) (g := need_Wire) w_le_Wire l
      have h5 := wt_le_Wire w
      rw [br_ff (by simpa using h')]
      simp (disch := first | omega | (dsimp only; omega)) only [to_WireS, to_Wire, ob_s, i_See, s_See, eq_WireS, eq_Wire, mark_WireS, mark_Wire, held_WireS, Bool.not_true, br_f, nn_dec, bne_self]
end
end Go.Proofs.Ythcbhopanefaiaa

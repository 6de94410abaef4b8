/-
  That the program and the reference answer alike, in plain terms, and that the laws answer true.
-/
import Derived.Test.YtdlcjpjflckdlaaGreatL5
namespace Go.Proofs.YtdlcjpjflckdlaaGreat
open Go.RowKit
set_option linter.unusedVariables false
set_option linter.unusedSimpArgs false
set_option maxHeartbeats 4000000
noncomputable section
/-! ## Frames -/
theorem i_Sealed (n : YI) : V_i_Sealed n = some (inR n.1 4 8, ()) := by
  unfold V_i_Sealed T_i_Sealed
  simp only [val_ob, val_leaf, i_within, ob_s]
theorem s_Sealed (n : YI) : V_s_Sealed n = some (inR n.1 4 8, ()) := by
  unfold V_s_Sealed T_s_Sealed
  simp only [val_ob, val_leaf, s_l1In, ob_s]
def bodyOk (k n : Int) : Bool := bif k == 4 then decide (n ≤ 40) else bif k == 5 then n == 12 else bif k == 6 then n == 12 else n == 4
theorem i_bodyOk (k n : YI) : V_i_bodyOk k n = some (bodyOk k.1 n.1, ()) := by
  unfold V_i_bodyOk T_i_bodyOk bodyOk
  simp only [val_br, val_leaf, br_cc]
theorem s_l7Body (k n : YI) : V_s_l7Body k n = some (bodyOk k.1 n.1, ()) := by
  unfold V_s_l7Body T_s_l7Body bodyOk
  simp only [val_br, val_leaf, br_cc]
theorem i_sameFrame (f g : YFrame) : V_i_sameFrame f g = some ((f.1 == g.1) && ((f.2.1 == g.2.1) && ((f.2.2.2.2.1 == g.2.2.2.2.1) && ((f.2.2.2.2.2.2.2.1 == g.2.2.2.2.2.2.2.1) && ((f.2.2.2.2.2.2.2.2.1 == g.2.2.2.2.2.2.2.2.1) && (sameB f.2.2.1 g.2.2.1 && (sameB f.2.2.2.1 g.2.2.2.1 &&
    (sameB f.2.2.2.2.2.1 g.2.2.2.2.2.1 && (sameB f.2.2.2.2.2.2.1 g.2.2.2.2.2.2.1 && (sameB f.2.2.2.2.2.2.2.2.2.1 g.2.2.2.2.2.2.2.2.2.1 && sameB f.2.2.2.2.2.2.2.2.2.2.1 g.2.2.2.2.2.2.2.2.2.2.1))))))))), ()) := by
  unfold V_i_sameFrame T_i_sameFrame
  simp only [val_br, val_ob, val_leaf, bytes_Equal, ob_s, br_and]
def frameOk (f : YFrame) : Bool :=
  bif inR f.1 4 8 then (f.2.1 == 0) && (((f.2.2.1.length : Int) == 0) && (((f.2.2.2.1.length : Int) == 12) && ((f.2.2.2.2.1 == 0) && (((f.2.2.2.2.2.1.length : Int) == 0) && (((f.2.2.2.2.2.2.1.length : Int) == 0) && (inR f.2.2.2.2.2.2.2.1 0 4294967295 && (inR f.2.2.2.2.2.2.2.2.1 0 281474976710655 &&
    (bodyOk f.1 (f.2.2.2.2.2.2.2.2.2.1.length : Int) && ((f.2.2.2.2.2.2.2.2.2.2.1.length : Int) == 16)))))))))
  else (f.2.2.2.2.2.2.2.1 == 0) && ((f.2.2.2.2.2.2.2.2.1 == 0) && (((f.2.2.2.2.2.2.2.2.2.1.length : Int) == 0) && (((f.2.2.2.2.2.2.2.2.2.2.1.length : Int) == 0) && (((f.2.2.1.length : Int) == 12) &&
    (bif f.1 == 1 then inR f.2.1 1 9 && (((f.2.2.2.1.length : Int) == 0) && ((f.2.2.2.2.1 == 0) && (((f.2.2.2.2.2.1.length : Int) == 0) && ((f.2.2.2.2.2.2.1.length : Int) == 0))))
     else bif f.1 == 2 then (f.2.1 == 0) && (((f.2.2.2.1.length : Int) == 12) && (inR f.2.2.2.2.1 0 1000000 && (((f.2.2.2.2.2.1.length : Int) == 16) && ((f.2.2.2.2.2.2.1.length : Int) == 0))))
     else (f.1 == 3) && (inR f.2.1 1 9 && (((f.2.2.2.1.length : Int) == 12) && (inR f.2.2.2.2.1 0 1000000 && (((f.2.2.2.2.2.1.length : Int) == 16) && ((f.2.2.2.2.2.2.1.length : Int) == 16))))))))))
theorem s_FrameOk (f : YFrame) : V_s_FrameOk f = some (frameOk f, ()) := by
  unfold V_s_FrameOk T_s_FrameOk frameOk
  simp only [val_br, val_ob, val_leaf, s_Sealed, s_l1In, s_l7Body, ob_s, br_cc, bne, Bool.cond_false_right, Bool.cond_true_left, Bool.cond_false_left, Bool.not_not]
theorem i_FrameOk (f : YFrame) : V_i_FrameOk f = some (frameOk f, ()) := by
  obtain ⟨kind, id, cn, sn, tick, cookie, proof, epoch, seq, body, tag, _⟩ := f
  unfold V_i_FrameOk T_i_FrameOk frameOk
  simp only [val_br, val_ob, val_leaf, i_Sealed, i_within, i_isNonce, i_bodyOk, i_sameFrame, sameB_nil, sameB_refl, beq_self_eq_true, Bool.true_and, Bool.and_true, ob_s, br_cc, Bool.cond_false_right, Bool.cond_true_left, Bool.cond_false_left, Bool.not_not]
  refine congrArg (fun b => some (b, ())) ?_
  by_cases h1 : kind = 1
  · subst h1
    apply beq_of_iff
    simp [inR]
    grind
  · by_cases h2 : kind = 2
    · subst h2
      apply beq_of_iff
      simp [inR]
      grind
    · by_cases h3 : kind = 3
      · subst h3
        apply beq_of_iff
        simp [inR]
        grind
      · have e1 : (kind == 1) = false := by simpa using h1
        have e2 : (kind == 2) = false := by simpa using h2
        have e3 : (kind == 3) = false := by simpa using h3
        rw [e1, e2, e3]
        cases inR kind 4 8 with
        | false => simp
        | true =>
          cases hb : bodyOk kind (body.length : Int) with
          | false => simp
          | true =>
            apply beq_of_iff
            simp [inR]
            grind
end
end Go.Proofs.YtdlcjpjflckdlaaGreat

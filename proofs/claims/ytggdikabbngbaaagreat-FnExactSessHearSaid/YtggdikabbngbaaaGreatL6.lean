/-
  That the program and the reference answer alike, in plain terms, and that the laws answer true.
-/
import Derived.Test.YtggdikabbngbaaaGreatL5
namespace Go.Proofs.YtggdikabbngbaaaGreat
open Go.RowKit
set_option linter.unusedVariables false
set_option linter.unusedSimpArgs false
set_option maxHeartbeats 4000000
noncomputable section
theorem Alq (n : YI) : Oy n = some (inR n.1 4 8, ()) := by
 unfold Oy Ajf
 simp only [Ag, Ab, C9, Ah]
theorem U2 (n : YI) : Le n = some (inR n.1 4 8, ()) := by
 unfold Le Aiq
 simp only [Ag, Ab, Dm, Ah]
def Ji (k n : Int) : Bool := bif k == 4 then decide (n ≤ 40) else bif k == 5 then n == 12 else bif k == 6 then n == 12 else n == 4
theorem Bl3 (k n : YI) : Ajh k n = some (Ji k.1 n.1, ()) := by
 unfold Ajh Ajg Ji
 simp only [Ae, Ab, Zb]
theorem Axf (k n : YI) : Rz k n = some (Ji k.1 n.1, ()) := by
 unfold Rz Air Ji
 simp only [Ae, Ab, Zb]
theorem Beq (f g : Av) : Ir f g = some ((f.1 == g.1) && ((f.2.1 == g.2.1) && ((f.2.2.2.2.1 == g.2.2.2.2.1) && ((f.2.2.2.2.2.2.2.1 == g.2.2.2.2.2.2.2.1) && ((f.2.2.2.2.2.2.2.2.1 == g.2.2.2.2.2.2.2.2.1) && (Ew f.2.2.1 g.2.2.1 && (Ew f.2.2.2.1 g.2.2.2.1 &&
  (Ew f.2.2.2.2.2.1 g.2.2.2.2.2.1 && (Ew f.2.2.2.2.2.2.1 g.2.2.2.2.2.2.1 && (Ew f.2.2.2.2.2.2.2.2.2.1 g.2.2.2.2.2.2.2.2.2.1 && Ew f.2.2.2.2.2.2.2.2.2.2.1 g.2.2.2.2.2.2.2.2.2.2.1))))))))), ()) := by
 unfold Ir Wl
 simp only [Ae, Ag, Ab, Qo, Ah, Th]
def Ej (f : Av) : Bool :=
 bif inR f.1 4 8 then (f.2.1 == 0) && (((f.2.2.1.length : Int) == 0) && (((f.2.2.2.1.length : Int) == 12) && ((f.2.2.2.2.1 == 0) && (((f.2.2.2.2.2.1.length : Int) == 0) && (((f.2.2.2.2.2.2.1.length : Int) == 0) && (inR f.2.2.2.2.2.2.2.1 0 4294967295 && (inR f.2.2.2.2.2.2.2.2.1 0 281474976710655 &&
  (Ji f.1 (f.2.2.2.2.2.2.2.2.2.1.length : Int) && ((f.2.2.2.2.2.2.2.2.2.2.1.length : Int) == 16)))))))))
 else (f.2.2.2.2.2.2.2.1 == 0) && ((f.2.2.2.2.2.2.2.2.1 == 0) && (((f.2.2.2.2.2.2.2.2.2.1.length : Int) == 0) && (((f.2.2.2.2.2.2.2.2.2.2.1.length : Int) == 0) && (((f.2.2.1.length : Int) == 12) &&
  (bif f.1 == 1 then inR f.2.1 1 9 && (((f.2.2.2.1.length : Int) == 0) && ((f.2.2.2.2.1 == 0) && (((f.2.2.2.2.2.1.length : Int) == 0) && ((f.2.2.2.2.2.2.1.length : Int) == 0))))
   else bif f.1 == 2 then (f.2.1 == 0) && (((f.2.2.2.1.length : Int) == 12) && (inR f.2.2.2.2.1 0 1000000 && (((f.2.2.2.2.2.1.length : Int) == 16) && ((f.2.2.2.2.2.2.1.length : Int) == 0))))
   else (f.1 == 3) && (inR f.2.1 1 9 && (((f.2.2.2.1.length : Int) == 12) && (inR f.2.2.2.2.1 0 1000000 && (((f.2.2.2.2.2.1.length : Int) == 16) && ((f.2.2.2.2.2.2.1.length : Int) == 16))))))))))
theorem Arj (f : Av) : Ve f = some (Ej f, ()) := by
 unfold Ve Ad6 Ej
 simp only [Ae, Ag, Ab, U2, Dm, Axf, Ah, Zb, bne, Bool.cond_false_right, Bool.cond_true_left, Bool.cond_false_left, Bool.not_not]
theorem Ark (f : Av) : P9 f = some (Ej f, ()) := by
 obtain ⟨kind, id, cn, sn, tick, cookie, proof, epoch, seq, body, tag, _⟩ := f
 unfold P9 Aef Ej
 simp only [Ae, Ag, Ab, Alq, C9, Rk, Bl3, Beq, A59, A1q, beq_self_eq_true, Bool.true_and, Bool.and_true, Ah, Zb, Bool.cond_false_right, Bool.cond_true_left, Bool.cond_false_left, Bool.not_not]
 refine congrArg (fun b => some (b, ())) ?_
 by_cases h1 : kind = 1
 ·subst h1
  apply Lj
  simp [inR]
  grind
 ·by_cases h2 : kind = 2
  ·subst h2
   apply Lj
   simp [inR]
   grind
  ·by_cases h3 : kind = 3
   ·subst h3
    apply Lj
    simp [inR]
    grind
   ·have e1 : (kind == 1) = false := by simpa using h1
    have e2 : (kind == 2) = false := by simpa using h2
    have e3 : (kind == 3) = false := by simpa using h3
    rw [e1, e2, e3]
    cases inR kind 4 8 with
    | false => simp
    | true =>
     cases hb : Ji kind (body.length : Int) with
     | false => simp
     | true =>
      apply Lj
      simp [inR]
      grind
end
end Go.Proofs.YtggdikabbngbaaaGreat

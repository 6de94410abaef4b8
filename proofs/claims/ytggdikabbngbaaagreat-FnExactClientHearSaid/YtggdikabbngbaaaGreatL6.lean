/-
  That the program and the reference answer alike, in plain terms, and that the laws answer true.
-/
import Derived.Test.YtggdikabbngbaaaGreatL5
namespace Go.Proofs.YtggdikabbngbaaaGreat
open Go.RowKit
set_option linter.unusedVariables false
set_option linter.unusedSimpArgs false
set_option maxHeartbeats 4000000
noncomputable section
theorem Ade (n : YI) : Gp n = some (inR n.1 4 8, ()) := by
 unfold Gp Akx
 simp only [Ak, Ae, Cq, Al]
theorem Pj (n : YI) : Ih n = some (inR n.1 4 8, ()) := by
 unfold Ih Akc
 simp only [Ak, Ae, C6, Al]
def Hr (k n : Int) : Bool := bif k == 4 then decide (n ≤ 40) else bif k == 5 then n == 12 else bif k == 6 then n == 12 else n == 4
theorem Bkw (k n : YI) : Akz k n = some (Hr k.1 n.1, ()) := by
 unfold Akz Aky Hr
 simp only [Ah, Ae, Pd]
theorem Axc (k n : YI) : Ql k n = some (Hr k.1 n.1, ()) := by
 unfold Ql Akd Hr
 simp only [Ah, Ae, Pd]
theorem Avb (f g : Aa) : Fb f g = some ((f.1 == g.1) && ((f.2.1 == g.2.1) && ((f.2.2.2.2.1 == g.2.2.2.2.1) && ((f.2.2.2.2.2.2.2.1 == g.2.2.2.2.2.2.2.1) && ((f.2.2.2.2.2.2.2.2.1 == g.2.2.2.2.2.2.2.2.1) && (Dr f.2.2.1 g.2.2.1 && (Dr f.2.2.2.1 g.2.2.2.1 &&
  (Dr f.2.2.2.2.2.1 g.2.2.2.2.2.1 && (Dr f.2.2.2.2.2.2.1 g.2.2.2.2.2.2.1 && (Dr f.2.2.2.2.2.2.2.2.2.1 g.2.2.2.2.2.2.2.2.2.1 && Dr f.2.2.2.2.2.2.2.2.2.2.1 g.2.2.2.2.2.2.2.2.2.2.1))))))))), ()) := by
 unfold Fb U9
 simp only [Ah, Ak, Ae, T6, Al, Ou]
def Cd (f : Aa) : Bool :=
 bif inR f.1 4 8 then (f.2.1 == 0) && (((f.2.2.1.length : Int) == 0) && (((f.2.2.2.1.length : Int) == 12) && ((f.2.2.2.2.1 == 0) && (((f.2.2.2.2.2.1.length : Int) == 0) && (((f.2.2.2.2.2.2.1.length : Int) == 0) && (inR f.2.2.2.2.2.2.2.1 0 4294967295 && (inR f.2.2.2.2.2.2.2.2.1 0 281474976710655 &&
  (Hr f.1 (f.2.2.2.2.2.2.2.2.2.1.length : Int) && ((f.2.2.2.2.2.2.2.2.2.2.1.length : Int) == 16)))))))))
 else (f.2.2.2.2.2.2.2.1 == 0) && ((f.2.2.2.2.2.2.2.2.1 == 0) && (((f.2.2.2.2.2.2.2.2.2.1.length : Int) == 0) && (((f.2.2.2.2.2.2.2.2.2.2.1.length : Int) == 0) && (((f.2.2.1.length : Int) == 12) &&
  (bif f.1 == 1 then inR f.2.1 1 9 && (((f.2.2.2.1.length : Int) == 0) && ((f.2.2.2.2.1 == 0) && (((f.2.2.2.2.2.1.length : Int) == 0) && ((f.2.2.2.2.2.2.1.length : Int) == 0))))
   else bif f.1 == 2 then (f.2.1 == 0) && (((f.2.2.2.1.length : Int) == 12) && (inR f.2.2.2.2.1 0 1000000 && (((f.2.2.2.2.2.1.length : Int) == 16) && ((f.2.2.2.2.2.2.1.length : Int) == 0))))
   else (f.1 == 3) && (inR f.2.1 1 9 && (((f.2.2.2.1.length : Int) == 12) && (inR f.2.2.2.2.1 0 1000000 && (((f.2.2.2.2.2.1.length : Int) == 16) && ((f.2.2.2.2.2.2.1.length : Int) == 16))))))))))
theorem Py (f : Aa) : I7 f = some (Cd f, ()) := by
 unfold I7 Afl Cd
 simp only [Ah, Ak, Ae, Pj, C6, Axc, Al, Pd, bne, Bool.cond_false_right, Bool.cond_true_left, Bool.cond_false_left, Bool.not_not]
theorem Pz (f : Aa) : Gt f = some (Cd f, ()) := by
 obtain ⟨kind, id, cn, sn, tick, cookie, proof, epoch, seq, body, tag, _⟩ := f
 unfold Gt Afy Cd
 simp only [Ah, Ak, Ae, Ade, Cq, Kj, Bkw, Avb, Ar5, Amx, beq_self_eq_true, Bool.true_and, Bool.and_true, Al, Pd, Bool.cond_false_right, Bool.cond_true_left, Bool.cond_false_left, Bool.not_not]
 refine congrArg (fun b => some (b, ())) ?_
 by_cases h1 : kind = 1
 ·subst h1
  apply Iw
  simp [inR]
  grind
 ·by_cases h2 : kind = 2
  ·subst h2
   apply Iw
   simp [inR]
   grind
  ·by_cases h3 : kind = 3
   ·subst h3
    apply Iw
    simp [inR]
    grind
   ·have e1 : (kind == 1) = false := by simpa using h1
    have e2 : (kind == 2) = false := by simpa using h2
    have e3 : (kind == 3) = false := by simpa using h3
    rw [e1, e2, e3]
    cases inR kind 4 8 with
    | false => simp
    | true =>
     cases hb : Hr kind (body.length : Int) with
     | false => simp
     | true =>
      apply Iw
      simp [inR]
      grind
end
end Go.Proofs.YtggdikabbngbaaaGreat

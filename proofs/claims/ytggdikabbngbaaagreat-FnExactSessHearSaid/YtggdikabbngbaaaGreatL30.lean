/-
  That the program and the reference answer alike, in plain terms, and that the laws answer true.
-/
import Derived.Test.YtggdikabbngbaaaGreatL29
namespace Go.Proofs.YtggdikabbngbaaaGreat
open Go.RowKit
set_option linter.unusedVariables false
set_option linter.unusedSimpArgs false
set_option maxRecDepth 100000
set_option maxHeartbeats 4000000
noncomputable section
theorem Art (e : YEp) (r : YI) (f : Av) (h : Bb e ≤ 4294967296) (h2 : A1 f ≤ 536870912) : Fx e r f = I9 e r f := by
 obtain ⟨r, ⟨⟩⟩ := r
 obtain ⟨e', p, z, k1, k2, _⟩ := Adb e r f h h2
 rw [k1, k2]
theorem D4 {e : YEp} (h : Er e = true) : (0 ≤ e.1 ∧ e.1 ≤ 4294967295) ∧ e.2.1.length = 32 ∧ e.2.2.2.2.1.length = 32 := by
 unfold Er J5 at h
 simp only [Bool.and_eq_true, C6] at h
 refine ⟨h.1, by have := h.2.1; simp at this; omega, by have := h.2.2.2.2.1.2; simp at this; omega⟩
theorem Id {c : Ak} (h : Cj c = true) : (c.1 = 0 ∨ c.1 = 1) ∧ c.2.1.length = 12 ∧ Er (F2 c) = true ∧ My c = true ∧ (c.2.2.2.2.2.2.2.2.2.2.2.2.2.2.1.length = 0 ∨ (c.1 = 0 ∧ c.2.2.2.2.2.2.2.2.2.2.2.2.2.2.1.length = 32 ∧ c.2.2.1 < 4294967295)) := by
 unfold Cj at h
 simp only [Bool.not_not, Bool.and_eq_true, Bool.or_eq_true, beq_iff_eq, decide_eq_true_eq] at h
 refine ⟨h.1, by omega, h.2.2.1, h.2.2.2.1, ?_⟩
 rcases h.2.2.2.2 with q | q
 ·left; have := q; simp only [L6] at this; omega
 ·right; have := q; simp only [L6] at this; exact ⟨this.1, by omega, this.2.2⟩
theorem Afw {c : Ak} (h : My c = true) (hh : Ti c = true) (hN : 0 ≤ c.2.2.1 ∧ c.2.2.1 ≤ 4294967295) : Er (J6 c) = true ∧ c.2.2.2.2.2.2.2.1 = c.2.2.1 - 1 ∧ ((0 ≤ U1 c ∧ U1 c ≤ 1000005) ∨ (U1 c = -1 ∧ c.1 = 1)) := by
 unfold My at h
 rw [hh] at h
 simp only [Bool.not_true, cond_false, Bool.not_not, Bool.and_eq_true, Bool.or_eq_true, Bool.not_eq_true', bne_eq_false_iff_eq, C6, beq_iff_eq] at h
 refine ⟨h.1, ?_, h.2.2⟩
 have := h.2.1
 have this : c.2.2.2.2.2.2.2.1 = IntKind.i64.wrap (c.2.2.1 - 1) := this
 rw [w64 (by omega)] at this
 exact this
theorem Bey (c : Ak) (n : YI) (f : Av) (h : Ar c ≤ 67000000) (h2 : A1 f ≤ 67108864) (w1 : wfB f.2.2.2.1) (w2 : wfB c.2.1) : Nk c n f = Hx c n f := by
 have hc := h
 simp only [Ar] at hc
 have hsn : f.2.2.2.1.length ≤ A1 f := by simp only [A1]; omega
 obtain ⟨d, d1, d2, d3⟩ := Bfx f.2.2.2.1 c.2.1 (by omega)
 have d3 := d3 w1 w2
 unfold Nk Aah Hx R7
 simp only [Ae, Ag, Ab]
 rw [Ps c (by omega), Oa c (by omega), Q9 c (by dsimp only [F2]; omega) (by dsimp only [J6]; omega), N6 c, C9, Dm, Alq, U2, Ark, Arj, Abq, d1]
 simp only [Ah]
 cases ho : Cj c with
 | false => rfl
 | true =>
 cases inR n.1 0 1000000 with
 | false => rfl
 | true =>
 simp only [Bool.not_true, An]
 cases inR f.1 4 8 with
 | false => cases Ej f <;> rfl
 | true =>
 cases Ej f with
 | false => rfl
 | true =>
 simp only [Bool.not_true, An]
 obtain ⟨f1, f2, f3, f4, f5⟩ := Id ho
 obtain ⟨f6, f7, f8⟩ := D4 f3
 have f6 : 0 ≤ c.2.2.1 ∧ c.2.2.1 ≤ 4294967295 := f6
 have hwN : IntKind.i64.wrap (c.2.2.1 + (1 : Int)) = c.2.2.1 + 1 := w64 (by omega)
 have hE1 := Art (c.2.2.1, c.2.2.2.1, c.2.2.2.2.1, c.2.2.2.2.2.1, c.2.2.2.2.2.2.1, ()) (IntKind.i64.wrap ((1 : Int) - c.1), ()) f (by simp only [Bb]; omega) (by omega)
 have hE2 := Art (c.2.2.2.2.2.2.2.1, c.2.2.2.2.2.2.2.2.1, c.2.2.2.2.2.2.2.2.2.1, c.2.2.2.2.2.2.2.2.2.2.1, c.2.2.2.2.2.2.2.2.2.2.2.1, ()) (IntKind.i64.wrap ((1 : Int) - c.1), ()) f (by simp only [Bb]; omega) (by omega)
 obtain ⟨en, n1, n2, n3⟩ := Bba (IntKind.i64.wrap (c.2.2.1 + (1 : Int)), ()) (c.2.2.2.2.2.2.2.2.2.2.2.2.2.2.1, ())
 have hE3 := Art en (IntKind.i64.wrap ((1 : Int) - c.1), ()) f (by omega) (by omega)
 by_cases hs : f.2.2.2.1 = c.2.1
 case neg =>
  have e1 : (d != (0 : Int)) = true := by simp; exact fun e => hs (d3.1 e)
  have e2 : Ew f.2.2.2.1 c.2.1 = false := by
   cases hh : Ew f.2.2.2.1 c.2.1 with
   | false => rfl
   | true => exact (hs (Bbd w1 w2 hh)).elim
  rw [e1, e2]
  cases c.2.2.2.2.2.2.2.2.2.2.2.2.1 <;> cases decide ((c.2.2.2.2.2.2.2.2.2.2.2.2.2.2.1.length : Int) > (0 : Int)) <;> rfl
 case pos =>
 have e1 : (d != (0 : Int)) = false := by simp; exact d3.2 hs
 have e2 : Ew f.2.2.2.1 c.2.1 = true := by rw [hs]; exact A1q _
 rw [e1, e2]
 simp only [Bool.not_true, An]
 have main (r : YEp × YBs × YI) : (O0 r c f c n).val = br (r.2.2.1 != (0 : Int)) (some (c, (([] : List YB), ()), r.2.2)) ((Hm f c c r n).val) := rfl
 have main2 (r : YEp × YBs × YI) : (Sm r c f c n).val = br (r.2.2.1 != (0 : Int)) (some (c, (([] : List YB), ()), r.2.2)) ((Mv f c c r n).val) := rfl
 have hA : c.2.2.2.2.2.2.2.2.2.2.2.2.1 = true → c.2.2.2.2.2.2.2.1 = c.2.2.1 - 1 := fun hh => (Afw f4 hh f6).2.1
 cases hold : c.2.2.2.2.2.2.2.2.2.2.2.2.1 with
 | true =>
  have hoN := hA hold
  by_cases hb : f.2.2.2.2.2.2.2.1 = c.2.2.1
  ·have q1 : (f.2.2.2.2.2.2.2.1 == c.2.2.1) = true := by simpa using hb
   have q2 : (f.2.2.2.2.2.2.2.1 == c.2.2.2.2.2.2.2.1) = false := by simp; omega
   have q3 : (f.2.2.2.2.2.2.2.1 == IntKind.i64.wrap (c.2.2.1 + (1 : Int))) = false := by rw [hwN]; simp; omega
   simp only [q1, Bool.not_true, An, A3]
   rw [← hE1]
   cases hnx : decide ((c.2.2.2.2.2.2.2.2.2.2.2.2.2.2.1.length : Int) > (0 : Int)) with
   | true =>
    simp only [A3]
    unfold Ge
    simp only [Ae, q2, An]
    unfold Gd
    simp only [Ae, q2, An]
    unfold Sl
    simp only [Ae, q3, An]
    unfold Mt
    simp only [Ag, main]
    unfold Hm
    simp only [Ae, q1, A3]
    unfold J9
    simp only [Ae, hold, A3]
    unfold Ub
    simp only [Ae, Ab, hold]
   | false =>
    simp only [An]
    unfold Mu
    simp only [Ae, q2, An]
    unfold Jb
    simp only [Ae, q2, An]
    unfold Mt
    simp only [Ag, main]
    unfold Hm
    simp only [Ae, q1, A3]
    unfold J9
    simp only [Ae, hold, A3]
    unfold Ub
    simp only [Ae, Ab, hold]
  ·have q1 : (f.2.2.2.2.2.2.2.1 == c.2.2.1) = false := by simpa using hb
   simp only [q1, Bool.not_false, An, A3]
   by_cases ho2 : f.2.2.2.2.2.2.2.1 = c.2.2.2.2.2.2.2.1
   ·have q2 : (f.2.2.2.2.2.2.2.1 == c.2.2.2.2.2.2.2.1) = true := by simpa using ho2
    have q3 : (f.2.2.2.2.2.2.2.1 == IntKind.i64.wrap (c.2.2.1 + (1 : Int))) = false := by rw [hwN]; simp; omega
    simp only [q2, Bool.not_true, An, A3]
    rw [← hE2]
    have fin : (O5 c f c n).val = ob (Fx (c.2.2.2.2.2.2.2.1, c.2.2.2.2.2.2.2.2.1, c.2.2.2.2.2.2.2.2.2.1, c.2.2.2.2.2.2.2.2.2.2.1, c.2.2.2.2.2.2.2.2.2.2.2.1, ()) (IntKind.i64.wrap ((1 : Int) - c.1), ()) f) fun r => br (r.2.2.1 != (0 : Int)) (some (c, (([] : List YB), ()), r.2.2)) (some ((c.1, c.2.1, c.2.2.1, c.2.2.2.1, c.2.2.2.2.1, c.2.2.2.2.2.1, c.2.2.2.2.2.2.1, r.1.1, r.1.2.1, r.1.2.2.1, r.1.2.2.2.1, r.1.2.2.2.2.1, true, c.2.2.2.2.2.2.2.2.2.2.2.2.2.1, c.2.2.2.2.2.2.2.2.2.2.2.2.2.2.1, ()), r.2.1, ((0 : Int), ()))) := by
     unfold O5
     simp only [Ag, main]
     unfold Hm
     simp only [Ae, q1, An]
     unfold Uc
     simp only [Ae, q2, A3, Ab, hold]
    cases hnx : decide ((c.2.2.2.2.2.2.2.2.2.2.2.2.2.2.1.length : Int) > (0 : Int)) with
    | true =>
     simp only [A3]
     unfold Ge
     simp only [Ae, q2, A3]
     unfold Aca
     simp only [Ae]
     unfold Ab9
     simp only [Ae, Ab]
     unfold Gd
     simp only [Ae, q2, A3]
     unfold Agj
     simp only [Ae, q3, An, fin]
    | false =>
     simp only [An]
     unfold Mu
     simp only [Ae, q2, A3]
     unfold Acc
     simp only [Ae]
     unfold Acb
     simp only [Ae, Ab]
     unfold Jb
     simp only [Ae, q2, A3, fin]
   ·have q2 : (f.2.2.2.2.2.2.2.1 == c.2.2.2.2.2.2.2.1) = false := by simpa using ho2
    simp only [q2, Bool.not_false, An, A3]
    cases hnx : decide ((c.2.2.2.2.2.2.2.2.2.2.2.2.2.2.1.length : Int) > (0 : Int)) with
    | false => rfl
    | true =>
     simp only [A3]
     cases q3 : (f.2.2.2.2.2.2.2.1 == IntKind.i64.wrap (c.2.2.1 + (1 : Int))) with
     | false => rfl
     | true =>
      simp only [Bool.not_true, An, A3]
      rw [n2]
      simp only [Ah]
      rw [← hE3]
      unfold Ge
      simp only [Ae, q2, An]
      unfold Gd
      simp only [Ae, q2, An]
      unfold Sl
      simp only [Ae, q3, A3]
      unfold Ud
      simp only [Ag]
      rw [n1]
      simp only [Ah]
      unfold Agi
      simp only [Ag, main]
      unfold Hm
      simp only [Ae, q1, An]
      unfold Uc
      simp only [Ae, q2, An, Ab]
 | false =>
  by_cases hb : f.2.2.2.2.2.2.2.1 = c.2.2.1
  ·have q1 : (f.2.2.2.2.2.2.2.1 == c.2.2.1) = true := by simpa using hb
   have q3 : (f.2.2.2.2.2.2.2.1 == IntKind.i64.wrap (c.2.2.1 + (1 : Int))) = false := by rw [hwN]; simp; omega
   simp only [q1, Bool.not_true, An, A3]
   rw [← hE1]
   have fin : (Mw c f c n).val = ob (Fx (c.2.2.1, c.2.2.2.1, c.2.2.2.2.1, c.2.2.2.2.2.1, c.2.2.2.2.2.2.1, ()) (IntKind.i64.wrap ((1 : Int) - c.1), ()) f) fun r => br (r.2.2.1 != (0 : Int)) (some (c, (([] : List YB), ()), r.2.2)) (some ((c.1, c.2.1, r.1.1, r.1.2.1, r.1.2.2.1, r.1.2.2.2.1, r.1.2.2.2.2.1, c.2.2.2.2.2.2.2.1, c.2.2.2.2.2.2.2.2.1, c.2.2.2.2.2.2.2.2.2.1, c.2.2.2.2.2.2.2.2.2.2.1, c.2.2.2.2.2.2.2.2.2.2.2.1, false, c.2.2.2.2.2.2.2.2.2.2.2.2.2.1, c.2.2.2.2.2.2.2.2.2.2.2.2.2.2.1, ()), r.2.1, ((0 : Int), ()))) := by
    unfold Mw
    simp only [Ag, main2]
    unfold Mv
    simp only [Ae, q1, A3]
    unfold J9
    simp only [Ae, hold, An, Ab]
   cases hnx : decide ((c.2.2.2.2.2.2.2.2.2.2.2.2.2.2.1.length : Int) > (0 : Int)) with
   | true =>
    simp only [A3]
    unfold Mx
    simp only [Ae, q3, An, fin]
   | false =>
    simp only [An, fin]
  ·have q1 : (f.2.2.2.2.2.2.2.1 == c.2.2.1) = false := by simpa using hb
   simp only [q1, Bool.not_false, An, A3]
   cases hnx : decide ((c.2.2.2.2.2.2.2.2.2.2.2.2.2.2.1.length : Int) > (0 : Int)) with
   | false => rfl
   | true =>
    simp only [A3]
    cases q3 : (f.2.2.2.2.2.2.2.1 == IntKind.i64.wrap (c.2.2.1 + (1 : Int))) with
    | false => rfl
    | true =>
     simp only [Bool.not_true, An, A3]
     rw [n2]
     simp only [Ah]
     rw [← hE3]
     unfold Mx
     simp only [Ae, q3, A3]
     unfold Ace
     simp only [Ag]
     rw [n1]
     simp only [Ah]
     unfold Acd
     simp only [Ag, main2]
     unfold Mv
     simp only [Ae, q1, An, Ab]
end
end Go.Proofs.YtggdikabbngbaaaGreat

/-
  That the program and the reference answer alike, in plain terms, and that the laws answer true.
-/
import Derived.Test.YtggdikabbngbaaaGreatL29
namespace Go.Proofs.YtggdikabbngbaaaGreat
open Go.RowKit
set_option linter.unusedVariables false
set_option linter.unusedSimpArgs false
set_option maxRecDepth 100000
set_option maxHeartbeats 4000000
noncomputable section
theorem Ase (e : YEp) (r : YI) (f : Aa) (h : Bc e ≤ 4294967296) (h2 : An f ≤ 536870912) : Fr e r f = Ii e r f := by
 obtain ⟨r, ⟨⟩⟩ := r
 obtain ⟨e', p, z, k1, k2, _⟩ := Aey e r f h h2
 rw [k1, k2]
theorem Eh {e : YEp} (h : Ep e = true) : (0 ≤ e.1 ∧ e.1 ≤ 4294967295) ∧ e.2.1.length = 32 ∧ e.2.2.2.2.1.length = 32 := by
 unfold Ep Jl at h
 simp only [Bool.and_eq_true, Bv] at h
 refine ⟨h.1, by have := h.2.1; simp at this; omega, by have := h.2.2.2.2.1.2; simp at this; omega⟩
theorem Hv {c : Ag} (h : By c = true) : (c.1 = 0 ∨ c.1 = 1) ∧ c.2.1.length = 12 ∧ Ep (H0 c) = true ∧ Lx c = true ∧ (c.2.2.2.2.2.2.2.2.2.2.2.2.2.2.1.length = 0 ∨ (c.1 = 0 ∧ c.2.2.2.2.2.2.2.2.2.2.2.2.2.2.1.length = 32 ∧ c.2.2.1 < 4294967295)) := by
 unfold By at h
 simp only [Bool.not_not, Bool.and_eq_true, Bool.or_eq_true, beq_iff_eq, decide_eq_true_eq] at h
 refine ⟨h.1, by omega, h.2.2.1, h.2.2.2.1, ?_⟩
 rcases h.2.2.2.2 with q | q
 ·left; have := q; simp only [C0] at this; omega
 ·right; have := q; simp only [C0] at this; exact ⟨this.1, by omega, this.2.2⟩
theorem Ahd {c : Ag} (h : Lx c = true) (hh : Rl c = true) (hN : 0 ≤ c.2.2.1 ∧ c.2.2.1 ≤ 4294967295) : Ep (N0 c) = true ∧ c.2.2.2.2.2.2.2.1 = c.2.2.1 - 1 ∧ ((0 ≤ Tc c ∧ Tc c ≤ 1000005) ∨ (Tc c = -1 ∧ c.1 = 1)) := by
 unfold Lx at h
 rw [hh] at h
 simp only [Bool.not_true, cond_false, Bool.not_not, Bool.and_eq_true, Bool.or_eq_true, Bool.not_eq_true', bne_eq_false_iff_eq, Bv, beq_iff_eq] at h
 refine ⟨h.1, ?_, h.2.2⟩
 have := h.2.1
 have this : c.2.2.2.2.2.2.2.1 = IntKind.i64.wrap (c.2.2.1 - 1) := this
 rw [w64 (by omega)] at this
 exact this
theorem Bdi (c : Ag) (n : YI) (f : Aa) (h : Az c ≤ 67000000) (h2 : An f ≤ 67108864) (w1 : wfB f.2.2.2.1) (w2 : wfB c.2.1) : Mh c n f = Hj c n f := by
 have hc := h
 simp only [Az] at hc
 have hsn : f.2.2.2.1.length ≤ An f := by simp only [An]; omega
 obtain ⟨d, d1, d2, d3⟩ := Beg f.2.2.2.1 c.2.1 (by omega)
 have d3 := d3 w1 w2
 unfold Mh Ab2 Hj Qu
 simp only [Ah, Ak, Ae]
 rw [Am6 c (by omega), Aev c (by omega), Adb c (by dsimp only [H0]; omega) (by dsimp only [N0]; omega), Adc c, Cq, C6, Ade, Pj, Pz, Py, Amu, d1]
 simp only [Al]
 cases ho : By c with
 | false => rfl
 | true =>
 cases inR n.1 0 1000000 with
 | false => rfl
 | true =>
 simp only [Bool.not_true, Ap]
 cases inR f.1 4 8 with
 | false => cases Cd f <;> rfl
 | true =>
 cases Cd f with
 | false => rfl
 | true =>
 simp only [Bool.not_true, Ap]
 obtain ⟨f1, f2, f3, f4, f5⟩ := Hv ho
 obtain ⟨f6, f7, f8⟩ := Eh f3
 have f6 : 0 ≤ c.2.2.1 ∧ c.2.2.1 ≤ 4294967295 := f6
 have hwN : IntKind.i64.wrap (c.2.2.1 + (1 : Int)) = c.2.2.1 + 1 := w64 (by omega)
 have hE1 := Ase (c.2.2.1, c.2.2.2.1, c.2.2.2.2.1, c.2.2.2.2.2.1, c.2.2.2.2.2.2.1, ()) (IntKind.i64.wrap ((1 : Int) - c.1), ()) f (by simp only [Bc]; omega) (by omega)
 have hE2 := Ase (c.2.2.2.2.2.2.2.1, c.2.2.2.2.2.2.2.2.1, c.2.2.2.2.2.2.2.2.2.1, c.2.2.2.2.2.2.2.2.2.2.1, c.2.2.2.2.2.2.2.2.2.2.2.1, ()) (IntKind.i64.wrap ((1 : Int) - c.1), ()) f (by simp only [Bc]; omega) (by omega)
 obtain ⟨en, n1, n2, n3⟩ := A95 (IntKind.i64.wrap (c.2.2.1 + (1 : Int)), ()) (c.2.2.2.2.2.2.2.2.2.2.2.2.2.2.1, ())
 have hE3 := Ase en (IntKind.i64.wrap ((1 : Int) - c.1), ()) f (by omega) (by omega)
 by_cases hs : f.2.2.2.1 = c.2.1
 case neg =>
  have e1 : (d != (0 : Int)) = true := by simp; exact fun e => hs (d3.1 e)
  have e2 : Dr f.2.2.2.1 c.2.1 = false := by
   cases hh : Dr f.2.2.2.1 c.2.1 with
   | false => rfl
   | true => exact (hs (Bab w1 w2 hh)).elim
  rw [e1, e2]
  cases c.2.2.2.2.2.2.2.2.2.2.2.2.1 <;> cases decide ((c.2.2.2.2.2.2.2.2.2.2.2.2.2.2.1.length : Int) > (0 : Int)) <;> rfl
 case pos =>
 have e1 : (d != (0 : Int)) = false := by simp; exact d3.2 hs
 have e2 : Dr f.2.2.2.1 c.2.1 = true := by rw [hs]; exact Amx _
 rw [e1, e2]
 simp only [Bool.not_true, Ap]
 have main (r : YEp × YBs × YI) : (Nd r c f c n).val = br (r.2.2.1 != (0 : Int)) (some (c, (([] : List YB), ()), r.2.2)) ((Gz f c c r n).val) := rfl
 have main2 (r : YEp × YBs × YI) : (Q4 r c f c n).val = br (r.2.2.1 != (0 : Int)) (some (c, (([] : List YB), ()), r.2.2)) ((Lu f c c r n).val) := rfl
 have hA : c.2.2.2.2.2.2.2.2.2.2.2.2.1 = true → c.2.2.2.2.2.2.2.1 = c.2.2.1 - 1 := fun hh => (Ahd f4 hh f6).2.1
 cases hold : c.2.2.2.2.2.2.2.2.2.2.2.2.1 with
 | true =>
  have hoN := hA hold
  by_cases hb : f.2.2.2.2.2.2.2.1 = c.2.2.1
  ·have q1 : (f.2.2.2.2.2.2.2.1 == c.2.2.1) = true := by simpa using hb
   have q2 : (f.2.2.2.2.2.2.2.1 == c.2.2.2.2.2.2.2.1) = false := by simp; omega
   have q3 : (f.2.2.2.2.2.2.2.1 == IntKind.i64.wrap (c.2.2.1 + (1 : Int))) = false := by rw [hwN]; simp; omega
   simp only [q1, Bool.not_true, Ap, Ay]
   rw [← hE1]
   cases hnx : decide ((c.2.2.2.2.2.2.2.2.2.2.2.2.2.2.1.length : Int) > (0 : Int)) with
   | true =>
    simp only [Ay]
    unfold F5
    simp only [Ah, q2, Ap]
    unfold F4
    simp only [Ah, q2, Ap]
    unfold Q3
    simp only [Ah, q3, Ap]
    unfold Lr
    simp only [Ak, main]
    unfold Gz
    simp only [Ah, q1, Ay]
    unfold Jr
    simp only [Ah, hold, Ay]
    unfold Se
    simp only [Ah, Ae, hold]
   | false =>
    simp only [Ap]
    unfold Ls
    simp only [Ah, q2, Ap]
    unfold Im
    simp only [Ah, q2, Ap]
    unfold Lr
    simp only [Ak, main]
    unfold Gz
    simp only [Ah, q1, Ay]
    unfold Jr
    simp only [Ah, hold, Ay]
    unfold Se
    simp only [Ah, Ae, hold]
  ·have q1 : (f.2.2.2.2.2.2.2.1 == c.2.2.1) = false := by simpa using hb
   simp only [q1, Bool.not_false, Ap, Ay]
   by_cases ho2 : f.2.2.2.2.2.2.2.1 = c.2.2.2.2.2.2.2.1
   ·have q2 : (f.2.2.2.2.2.2.2.1 == c.2.2.2.2.2.2.2.1) = true := by simpa using ho2
    have q3 : (f.2.2.2.2.2.2.2.1 == IntKind.i64.wrap (c.2.2.1 + (1 : Int))) = false := by rw [hwN]; simp; omega
    simp only [q2, Bool.not_true, Ap, Ay]
    rw [← hE2]
    have fin : (Nf c f c n).val = ob (Fr (c.2.2.2.2.2.2.2.1, c.2.2.2.2.2.2.2.2.1, c.2.2.2.2.2.2.2.2.2.1, c.2.2.2.2.2.2.2.2.2.2.1, c.2.2.2.2.2.2.2.2.2.2.2.1, ()) (IntKind.i64.wrap ((1 : Int) - c.1), ()) f) fun r => br (r.2.2.1 != (0 : Int)) (some (c, (([] : List YB), ()), r.2.2)) (some ((c.1, c.2.1, c.2.2.1, c.2.2.2.1, c.2.2.2.2.1, c.2.2.2.2.2.1, c.2.2.2.2.2.2.1, r.1.1, r.1.2.1, r.1.2.2.1, r.1.2.2.2.1, r.1.2.2.2.2.1, true, c.2.2.2.2.2.2.2.2.2.2.2.2.2.1, c.2.2.2.2.2.2.2.2.2.2.2.2.2.2.1, ()), r.2.1, ((0 : Int), ()))) := by
     unfold Nf
     simp only [Ak, main]
     unfold Gz
     simp only [Ah, q1, Ap]
     unfold Sf
     simp only [Ah, q2, Ay, Ae, hold]
    cases hnx : decide ((c.2.2.2.2.2.2.2.2.2.2.2.2.2.2.1.length : Int) > (0 : Int)) with
    | true =>
     simp only [Ay]
     unfold F5
     simp only [Ah, q2, Ay]
     unfold Ad2
     simp only [Ah]
     unfold Ad1
     simp only [Ah, Ae]
     unfold F4
     simp only [Ah, q2, Ay]
     unfold Ahw
     simp only [Ah, q3, Ap, fin]
    | false =>
     simp only [Ap]
     unfold Ls
     simp only [Ah, q2, Ay]
     unfold Ad4
     simp only [Ah]
     unfold Ad3
     simp only [Ah, Ae]
     unfold Im
     simp only [Ah, q2, Ay, fin]
   ·have q2 : (f.2.2.2.2.2.2.2.1 == c.2.2.2.2.2.2.2.1) = false := by simpa using ho2
    simp only [q2, Bool.not_false, Ap, Ay]
    cases hnx : decide ((c.2.2.2.2.2.2.2.2.2.2.2.2.2.2.1.length : Int) > (0 : Int)) with
    | false => rfl
    | true =>
     simp only [Ay]
     cases q3 : (f.2.2.2.2.2.2.2.1 == IntKind.i64.wrap (c.2.2.1 + (1 : Int))) with
     | false => rfl
     | true =>
      simp only [Bool.not_true, Ap, Ay]
      rw [n2]
      simp only [Al]
      rw [← hE3]
      unfold F5
      simp only [Ah, q2, Ap]
      unfold F4
      simp only [Ah, q2, Ap]
      unfold Q3
      simp only [Ah, q3, Ay]
      unfold Si
      simp only [Ak]
      rw [n1]
      simp only [Al]
      unfold Ahv
      simp only [Ak, main]
      unfold Gz
      simp only [Ah, q1, Ap]
      unfold Sf
      simp only [Ah, q2, Ap, Ae]
 | false =>
  by_cases hb : f.2.2.2.2.2.2.2.1 = c.2.2.1
  ·have q1 : (f.2.2.2.2.2.2.2.1 == c.2.2.1) = true := by simpa using hb
   have q3 : (f.2.2.2.2.2.2.2.1 == IntKind.i64.wrap (c.2.2.1 + (1 : Int))) = false := by rw [hwN]; simp; omega
   simp only [q1, Bool.not_true, Ap, Ay]
   rw [← hE1]
   have fin : (Lv c f c n).val = ob (Fr (c.2.2.1, c.2.2.2.1, c.2.2.2.2.1, c.2.2.2.2.2.1, c.2.2.2.2.2.2.1, ()) (IntKind.i64.wrap ((1 : Int) - c.1), ()) f) fun r => br (r.2.2.1 != (0 : Int)) (some (c, (([] : List YB), ()), r.2.2)) (some ((c.1, c.2.1, r.1.1, r.1.2.1, r.1.2.2.1, r.1.2.2.2.1, r.1.2.2.2.2.1, c.2.2.2.2.2.2.2.1, c.2.2.2.2.2.2.2.2.1, c.2.2.2.2.2.2.2.2.2.1, c.2.2.2.2.2.2.2.2.2.2.1, c.2.2.2.2.2.2.2.2.2.2.2.1, false, c.2.2.2.2.2.2.2.2.2.2.2.2.2.1, c.2.2.2.2.2.2.2.2.2.2.2.2.2.2.1, ()), r.2.1, ((0 : Int), ()))) := by
    unfold Lv
    simp only [Ak, main2]
    unfold Lu
    simp only [Ah, q1, Ay]
    unfold Jr
    simp only [Ah, hold, Ap, Ae]
   cases hnx : decide ((c.2.2.2.2.2.2.2.2.2.2.2.2.2.2.1.length : Int) > (0 : Int)) with
   | true =>
    simp only [Ay]
    unfold Lw
    simp only [Ah, q3, Ap, fin]
   | false =>
    simp only [Ap, fin]
  ·have q1 : (f.2.2.2.2.2.2.2.1 == c.2.2.1) = false := by simpa using hb
   simp only [q1, Bool.not_false, Ap, Ay]
   cases hnx : decide ((c.2.2.2.2.2.2.2.2.2.2.2.2.2.2.1.length : Int) > (0 : Int)) with
   | false => rfl
   | true =>
    simp only [Ay]
    cases q3 : (f.2.2.2.2.2.2.2.1 == IntKind.i64.wrap (c.2.2.1 + (1 : Int))) with
    | false => rfl
    | true =>
     simp only [Bool.not_true, Ap, Ay]
     rw [n2]
     simp only [Al]
     rw [← hE3]
     unfold Lw
     simp only [Ah, q3, Ay]
     unfold Ad6
     simp only [Ak]
     rw [n1]
     simp only [Al]
     unfold Ad5
     simp only [Ak, main2]
     unfold Lu
     simp only [Ah, q1, Ap, Ae]
end
end Go.Proofs.YtggdikabbngbaaaGreat

/-
  That the program and the reference answer alike, in plain terms, and that the laws answer true.
-/
import Derived.Test.YtggdikabbngbaaaGreatL36
namespace Go.Proofs.YtggdikabbngbaaaGreat
open Go.RowKit
set_option linter.unusedVariables false
set_option linter.unusedSimpArgs false
set_option maxRecDepth 100000
set_option maxHeartbeats 4000000
noncomputable section
def Ahr (c : Ak) (e : YEp) : Ak := (c.1, c.2.1, e.1, e.2.1, e.2.2.1, e.2.2.2.1, e.2.2.2.2.1, c.2.2.1, c.2.2.2.1, c.2.2.2.2.1, c.2.2.2.2.2.1, c.2.2.2.2.2.2.1, true, (-1 : Int), c.2.2.2.2.2.2.2.2.2.2.2.2.2.2.1, ())
theorem Bkp {c : Ak} {e : YEp} (h : Cj c = true) (hr : c.1 = 1) (he : Er e = true) (h1 : e.1 = c.2.2.1 + 1) : Cj (Ahr c e) = true := by
 obtain ⟨f1, f2, f3, f4, f5⟩ := Id h
 have f6 := (D4 f3).1
 have f7 := (D4 he).1
 unfold Cj at h ⊢
 simp only [Bool.not_not, Bool.and_eq_true] at h ⊢
 refine ⟨h.1, h.2.1, he, ?_, ?_⟩
 ·unfold My
  have hh : Ti (Ahr c e) = true := rfl
  rw [hh]
  simp only [Bool.not_true, cond_false, Bool.not_not, Bool.and_eq_true, Bool.or_eq_true, Bool.not_eq_true', bne_eq_false_iff_eq]
  refine ⟨f3, ?_, .inr ⟨rfl, by show (c.1 == (1 : Int)) = true; rw [hr]; rfl⟩⟩
  show c.2.2.1 = IntKind.i64.wrap (e.1 - 1)
  have f6' : 0 ≤ c.2.2.1 ∧ c.2.2.1 ≤ 4294967295 := f6
  rw [w64 (by omega)]; omega
 ·rcases f5 with f5 | f5
  ·have : (((L6 (Ahr c e)).length : Int) == 0) = true := by
    have e1 : L6 (Ahr c e) = c.2.2.2.2.2.2.2.2.2.2.2.2.2.2.1 := rfl
    rw [e1, f5]; rfl
   rw [this]; rfl
  ·omega
def TuH (c : Ak) (c' : Ak) (b : Bool) : Prop := (b = false → c' = c) ∧ Ar c' ≤ Ar c + 200 ∧ (b = true → Cj c = true ∧ c.1 = 1 ∧ Cj c' = true ∧ c'.1 = c.1 ∧ c'.2.1 = c.2.1)
theorem Boc (c : Ak) (h : Ar c ≤ 67000000) : ∃ c' b, Avy c = some (c', (b, ())) ∧ Avp c = some (c', (b, ())) ∧ TuH c c' b := by
 have nope : ∃ c' b, some (c, (false, ())) = some (c', (b, ())) ∧ some (c, (false, ())) = some (c', (b, ())) ∧ TuH c c' b := ⟨c, false, rfl, rfl, fun _ => rfl, by omega, fun h => by cases h⟩
 have hc := h
 simp only [Ar] at hc
 unfold Avy Avx Avp Avo
 simp only [Ae, Ag, Ab]
 rw [Ps c (by omega), Oa c (by omega), Q9 c (by dsimp only [F2]; omega) (by dsimp only [J6]; omega), N6 c, Bj7, Bj8]
 simp only [Ah]
 cases ho : Cj c with
 | false => exact nope
 | true =>
 simp only [Bool.not_true, An]
 cases hr : (c.1 == (1 : Int)) with
 | false => rw [show (c.1 != (1 : Int)) = true by unfold bne; rw [hr]; rfl]; exact nope
 | true =>
 rw [show (c.1 != (1 : Int)) = false by unfold bne; rw [hr]; rfl, An, An]
 cases hm : (c.2.2.1 == (4294967295 : Int)) with
 | true => exact nope
 | false =>
 simp only [An]
 obtain ⟨f1, f2, f3, f4, f5⟩ := Id ho
 have f6 := (D4 f3).1
 have f6 : 0 ≤ c.2.2.1 ∧ c.2.2.1 ≤ 4294967295 := f6
 have f7 : c.2.2.2.1.length = 32 := (D4 f3).2.1
 have hm' : c.2.2.1 ≠ 4294967295 := by simpa using hm
 have hk : (Tm c.2.2.2.1 Arq).length = 32 := Bkm (by decide) (by omega)
 rw [w64 (by omega)]
 obtain ⟨n1, n2⟩ := Bkl (c.2.2.1 + 1) (Tm c.2.2.2.1 Arq) (by omega) hk
 rw [n1, n2]
 refine ⟨Ahr c (Aru (c.2.2.1 + 1) (Tm c.2.2.2.1 Arq)), true, rfl, rfl, fun h => (by cases h), ?_, fun _ => ⟨ho, eq_of_beq hr, Bkp ho (eq_of_beq hr) (Bkk (by omega) hk) rfl, rfl, rfl⟩⟩
 simp only [Ar, Ahr, Aru, List.length_replicate]
 omega
def HrH (c : Ak) (c' : Ak) (z : Int) : Prop := (z ≠ 0 → c' = c) ∧ Ar c' ≤ Ar c + 200 ∧ (z = 0 → Cj c = true ∧ c.1 = 1 ∧ Cj c' = true ∧ c'.1 = c.1 ∧ c'.2.1 = c.2.1)
theorem Bbn (c : Ak) (n : YI) (p : YBs) (h : Ar c ≤ 67000000) : ∃ c' z, Qz c n p = some (c', (z, ())) ∧ Qx c n p = some (c', (z, ())) ∧ HrH c c' z := by
 have nope : ∃ c' z, some (c, ((6 : Int), ())) = some (c', (z, ())) ∧ some (c, ((6 : Int), ())) = some (c', (z, ())) ∧ HrH c c' z := ⟨c, 6, rfl, rfl, fun _ => rfl, by omega, fun h => by cases h⟩
 have hc := h
 simp only [Ar] at hc
 obtain ⟨t, b, t1, t2, t3, t4, t5⟩ := Boc c h
 unfold Qz Wo Qx Wk
 simp only [Ae, Ag, Ab]
 rw [Ps c (by omega), Oa c (by omega), Q9 c (by dsimp only [F2]; omega) (by dsimp only [J6]; omega), N6 c, C9, Dm, Au5, Au6, t1, t2]
 simp only [Ah, Qo, Abq]
 cases ho : Cj c with
 | false => exact nope
 | true =>
 simp only [Bool.not_true, An]
 cases hr : (c.1 == (1 : Int)) with
 | false => rw [show (c.1 != (1 : Int)) = true by unfold bne; rw [hr]; rfl]; exact nope
 | true =>
 rw [show (c.1 != (1 : Int)) = false by unfold bne; rw [hr]; rfl, An, An]
 cases hn : inR n.1 0 4294967294 with
 | false => exact nope
 | true =>
 simp only [Bool.not_true, An]
 cases hs : Ew p.1 (Tn (IntKind.i64.wrap (n.1 + 1))) with
 | false => exact nope
 | true =>
 simp only [Bool.not_true, An]
 obtain ⟨f1, f2, f3, f4, f5⟩ := Id ho
 have f6 := (D4 f3).1
 have f6 : 0 ≤ c.2.2.1 ∧ c.2.2.1 ≤ 4294967295 := f6
 rw [w64 (by omega)]
 have same : ∃ c' z, some (c, ((0 : Int), ())) = some (c', (z, ())) ∧ some (c, ((0 : Int), ())) = some (c', (z, ())) ∧ HrH c c' z := ⟨c, 0, rfl, rfl, fun _ => rfl, by omega, fun _ => ⟨ho, eq_of_beq hr, ho, rfl, rfl⟩⟩
 cases hA : (n.1 == c.2.2.1 - 1) with
 | true =>
  have e1 := eq_of_beq hA
  rw [show (n.1 == c.2.2.1) = false by simp; omega, A3, An, A3]
  exact same
 | false =>
  rw [An]
  cases hB : (n.1 == c.2.2.1) with
  | false => rw [show (n.1 != c.2.2.1) = true by unfold bne; rw [hB]; rfl]; exact nope
  | true =>
   rw [show (n.1 != c.2.2.1) = false by unfold bne; rw [hB]; rfl, An, A3]
   cases b with
   | false => exact nope
   | true => exact ⟨t, 0, rfl, rfl, fun h => (h rfl).elim, t4, fun _ => t5 rfl⟩
end
end Go.Proofs.YtggdikabbngbaaaGreat

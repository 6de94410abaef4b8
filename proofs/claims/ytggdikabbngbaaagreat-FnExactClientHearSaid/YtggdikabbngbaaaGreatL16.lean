/-
  That the program and the reference answer alike, in plain terms, and that the laws answer true.
-/
import Derived.Test.YtggdikabbngbaaaGreatL15
namespace Go.Proofs.YtggdikabbngbaaaGreat
open Go.RowKit
set_option linter.unusedVariables false
set_option linter.unusedSimpArgs false
set_option maxRecDepth 100000
set_option maxHeartbeats 4000000
noncomputable section
theorem Bi4 (k : List YB) (r : Int) (sn : List YB) (ep seq kind : Int) (p : List YB) : (Eb k r sn ep seq kind p).2.1 = J8 k r sn ep seq kind p := by
 unfold Eb
 cases J8 k r sn ep seq kind p <;> rfl
theorem Bk2 (r : Int) (sn : List YB) (ep seq : Int) : (((Cy r sn ep seq).length : Int) == 0) = !Em r sn ep seq := by
 rw [Kl]
 cases Em r sn ep seq <;> rfl
def Asd (e : YEp) : YEp := (e.1, e.2.1, e.2.2.1 + 1, e.2.2.2.1, e.2.2.2.2.1, ())
theorem Bm1 {e : YEp} (h : Ep e = true) (hs : e.2.2.1 ≠ 281474976710656) : Ep (Asd e) = true := by
 unfold Ep at h ⊢
 simp only [Bool.and_eq_true, Bv, Asd] at h ⊢
 exact ⟨h.1, h.2.1, ⟨by omega, by omega⟩, h.2.2.2⟩
def EpS (e : YEp) (role : Int) (sn : List YB) (k : Int) (p : List YB) (e' : YEp) (f : Aa) (c : Int) : Prop :=
 Bc e' = Bc e ∧ An f ≤ sn.length + p.length + 32 ∧ (c ≠ 0 → e' = e) ∧ (c = 0 → Ep e = true ∧ Ep e' = true ∧ e'.1 = e.1 ∧ e'.2.1 = e.2.1 ∧ f = (Eb e.2.1 role sn e.1 e.2.2.1 k p).1 ∧ J8 e.2.1 role sn e.1 e.2.2.1 k p = true)
theorem Bi5 (e : YEp) (role : Int) (sn : List YB) (k : Int) (p : List YB) (h : Bc e + sn.length + p.length ≤ 67108864) :
  ∃ (e' : YEp) (f : Aa) (c : Int), All e (role, ()) (sn, ()) (k, ()) (p, ()) = some (e', f, (c, ())) ∧ Aks e (role, ()) (sn, ()) (k, ()) (p, ()) = some (e', f, (c, ())) ∧ EpS e role sn k p e' f c := by
 have hn := Bde e.2.1 role sn e.1 e.2.2.1 k p
 have he : Bc e = e.2.1.length + e.2.2.2.2.1.length := rfl
 have none : ∀ {c : Int}, c ≠ 0 → ∃ (e' : YEp) (f : Aa) (c' : Int), some (e, Dy, (c, ())) = some (e', f, (c', ())) ∧ some (e, Dy, (c, ())) = some (e', f, (c', ())) ∧ EpS e role sn k p e' f c' := fun {c} hc =>
  ⟨e, Dy, c, rfl, rfl, rfl, by simp [An, Dy], fun _ => rfl, fun h => (hc h).elim⟩
 unfold All Alk Aks Akr
 simp only [Ah, Ak, Ae]
 rw [Axf e (by omega), Am5 e (by omega), A1b e (by omega), A9s e]
 simp only [Al]
 cases ho : Ep e with
 | false => exact none (c := 1) (by decide)
 | true =>
  have hk : ((e.2.1.length : Int) == 32) = true := by unfold Ep at ho; simp only [Bool.and_eq_true] at ho; exact ho.2.1
  have hseq : inR e.2.2.1 0 281474976710656 = true := by unfold Ep at ho; simp only [Bool.and_eq_true] at ho; exact ho.2.2.1
  rw [Bv] at hseq
  simp only [Bool.not_true, Ap]
  rw [Biu _ _ _ _ _ _ _ (by omega) (by omega), Al, Am4, Al, Pj, Al, Axc, Al]
  simp only [Bi4, Bk2]
  unfold J8
  rw [hk]
  simp only [Bool.true_and]
  cases hd : Em role sn e.1 0 with
  | false => exact none (c := 1) (by decide)
  | true =>
   cases hkd : inR k 4 8 with
   | false => exact none (c := 1) (by decide)
   | true =>
    cases hb : Hr k (p.length : Int) with
    | false => exact none (c := 1) (by decide)
    | true =>
     simp only [Bool.and_self, Bool.not_true, Ap]
     have fin : e.2.2.1 ≠ 281474976710656 → ∃ (e' : YEp) (f : Aa) (c' : Int), some (Asd e, (Eb e.2.1 role sn e.1 e.2.2.1 k p).1, ((0 : Int), ())) = some (e', f, (c', ())) ∧ some (Asd e, (Eb e.2.1 role sn e.1 e.2.2.1 k p).1, ((0 : Int), ())) = some (e', f, (c', ())) ∧ EpS e role sn k p e' f c' := fun hs =>
      ⟨Asd e, _, 0, rfl, rfl, rfl, hn, fun h => (h rfl).elim, fun _ => ⟨ho, Bm1 ho hs, rfl, rfl, rfl, by
       unfold J8
       rw [hk, hkd, hb]
       unfold Em at hd ⊢
       simp only [Bool.and_eq_true, Bv, Bool.and_true] at hd ⊢
       exact ⟨trivial, hd.1, hd.2.1, hd.2.2.1, by omega, by omega⟩⟩⟩
     rw [Biu _ _ _ _ _ _ _ (by omega) (by omega), Bn0 _ _ _ _ _ _ _ (by omega) (by omega)]
     simp only [Al]
     have go : br (e.2.2.1 == (281474976710656 : Int)) (some (e, Dy, ((5 : Int), ()))) (some ((e.1, e.2.1, (IntKind.i64.wrap (e.2.2.1 + (1 : Int))), e.2.2.2.1, e.2.2.2.2.1, ()), (Eb e.2.1 role sn e.1 e.2.2.1 k p).1, ((0 : Int), ()))) = if e.2.2.1 = 281474976710656 then some (e, Dy, ((5 : Int), ())) else some (Asd e, (Eb e.2.1 role sn e.1 e.2.2.1 k p).1, ((0 : Int), ())) := by
      by_cases h5 : e.2.2.1 = 281474976710656
      ·rw [if_pos h5, Dq (by simp [h5])]
      ·rw [if_neg h5, Cg (by simp [h5]), w64 (by omega)]; rfl
     have fin2 : ∃ (e' : YEp) (f : Aa) (c' : Int), (if e.2.2.1 = 281474976710656 then some (e, Dy, ((5 : Int), ())) else some (Asd e, (Eb e.2.1 role sn e.1 e.2.2.1 k p).1, ((0 : Int), ()))) = some (e', f, (c', ())) ∧ (if e.2.2.1 = 281474976710656 then some (e, Dy, ((5 : Int), ())) else some (Asd e, (Eb e.2.1 role sn e.1 e.2.2.1 k p).1, ((0 : Int), ()))) = some (e', f, (c', ())) ∧ EpS e role sn k p e' f c' := by
      by_cases h5 : e.2.2.1 = 281474976710656
      ·rw [if_pos h5]; exact none (c := 5) (by decide)
      ·rw [if_neg h5]; exact fin h5
     cases hk4 : (k == (4 : Int)) with
     | false =>
      simp only [Ap]
      exact go ▸ fin2
     | true =>
      simp only [Ay]
      by_cases h4 : e.2.2.1 ≥ 281474976709656
      ·rw [Ao h4, Ay]; exact none (c := 4) (by decide)
      ·rw [Bg h4, Ap]
       exact go ▸ fin2
def Dz (c : Ag) (e : YEp) : Ag := (c.1, c.2.1, e.1, e.2.1, e.2.2.1, e.2.2.2.1, e.2.2.2.2.1, c.2.2.2.2.2.2.2.1, c.2.2.2.2.2.2.2.2.1, c.2.2.2.2.2.2.2.2.2.1, c.2.2.2.2.2.2.2.2.2.2.1, c.2.2.2.2.2.2.2.2.2.2.2.1, c.2.2.2.2.2.2.2.2.2.2.2.2.1, c.2.2.2.2.2.2.2.2.2.2.2.2.2.1, c.2.2.2.2.2.2.2.2.2.2.2.2.2.2.1, ())
theorem A1i {c : Ag} {e : YEp} (h : By c = true) (he : Ep e = true) (h1 : e.1 = c.2.2.1) : By (Dz c e) = true := by
 have e1 : H0 (Dz c e) = e := rfl
 have e2 : Lx (Dz c e) = Lx c := by
  unfold Lx
  have : (Dz c e).2.2.1 = c.2.2.1 := h1
  simp only [this]
  rfl
 unfold By at h ⊢
 rw [e1, e2]
 simp only [Bool.not_not, Bool.and_eq_true] at h ⊢
 refine ⟨h.1, h.2.1, he, h.2.2.2.1, ?_⟩
 have := h.2.2.2.2
 simp only [Dz, C0, h1] at this ⊢
 exact this
theorem A99 (c : Ag) (e : YEp) (h : Bc e = Bc (H0 c)) : Az (Dz c e) = Az c := by
 simp only [Bc, H0] at h
 simp only [Az, Dz]
 omega
def ChS (c : Ag) (k : Int) (p : List YB) (c' : Ag) (f : Aa) (z : Int) : Prop :=
 ∃ e' : YEp, c' = Dz c e' ∧ Az c' = Az c ∧ An f ≤ Az c + p.length + 32 ∧ (z ≠ 0 → c' = c) ∧
  (z = 0 → By c = true ∧ By c' = true ∧ e'.1 = c.2.2.1 ∧ e'.2.1 = c.2.2.2.1 ∧ f = (Eb c.2.2.2.1 c.1 c.2.1 c.2.2.1 c.2.2.2.2.1 k p).1 ∧ J8 c.2.2.2.1 c.1 c.2.1 c.2.2.1 c.2.2.2.2.1 k p = true)
theorem Bdg (c : Ag) (k : Int) (p : List YB) (h : Az c + p.length ≤ 67108864) :
  ∃ (c' : Ag) (f : Aa) (z : Int), D9 c (k, ()) (p, ()) = some (c', f, (z, ())) ∧ D8 c (k, ()) (p, ()) = some (c', f, (z, ())) ∧ ChS c k p c' f z := by
 have hc := h
 simp only [Az] at hc
 unfold D9 Ab4 D8 Aa9
 simp only [Ah, Ak, Ae]
 rw [Am6 c (by omega), Aev c (by omega), Adb c (by dsimp only [H0]; omega) (by dsimp only [N0]; omega), Adc c]
 simp only [Al]
 cases ho : By c with
 | false => exact ⟨c, Dy, 1, rfl, rfl, H0 c, rfl, rfl, by simp [An, Dy], fun _ => rfl, fun h => by cases h⟩
 | true =>
  simp only [Bool.not_true, Ap]
  obtain ⟨e', f, z, h1, h2, h3, h4, h5, h6⟩ := Bi5 (H0 c) c.1 c.2.1 k p (by simp only [Bc, H0]; omega)
  have hn := A99 c e' h3
  rw [h1, h2, Al, Al]
  have hf : An f ≤ Az c + p.length + 32 := by simp only [Az]; omega
  by_cases hz : z = 0
  ·subst hz
   obtain ⟨q1, q2, q3, q4, q5, q6⟩ := h6 rfl
   exact ⟨Dz c e', f, 0, rfl, rfl, e', rfl, hn, hf, fun h => (h rfl).elim, fun _ => ⟨ho, A1i ho q2 q3, q3, q4, q5, q6⟩⟩
  ·have he := h5 hz
   subst he
   refine ⟨c, f, z, rfl, ?_, H0 c, rfl, rfl, hf, fun _ => rfl, fun h => (hz h).elim⟩
   rw [Cg (by simpa using hz)]
end
end Go.Proofs.YtggdikabbngbaaaGreat

/-
  That the program and the reference answer alike, in plain terms, and that the laws answer true.
-/
import Derived.Test.YtggdikabbngbaaaGreatL15
namespace Go.Proofs.YtggdikabbngbaaaGreat
open Go.RowKit
set_option linter.unusedVariables false
set_option linter.unusedSimpArgs false
set_option maxRecDepth 100000
set_option maxHeartbeats 4000000
noncomputable section
theorem Bj9 (k : List YB) (r : Int) (sn : List YB) (ep seq kind : Int) (p : List YB) : (G2 k r sn ep seq kind p).2.1 = Qp k r sn ep seq kind p := by
 unfold G2
 cases Qp k r sn ep seq kind p <;> rfl
theorem Bmb (r : Int) (sn : List YB) (ep seq : Int) : (((Dr r sn ep seq).length : Int) == 0) = !Fl r sn ep seq := by
 rw [N9]
 cases Fl r sn ep seq <;> rfl
def Arr (e : YEp) : YEp := (e.1, e.2.1, e.2.2.1 + 1, e.2.2.2.1, e.2.2.2.2.1, ())
theorem Bn3 {e : YEp} (h : Er e = true) (hs : e.2.2.1 ≠ 281474976710656) : Er (Arr e) = true := by
 unfold Er at h ⊢
 simp only [Bool.and_eq_true, C6, Arr] at h ⊢
 exact ⟨h.1, h.2.1, ⟨by omega, by omega⟩, h.2.2.2⟩
def EpS (e : YEp) (role : Int) (sn : List YB) (k : Int) (p : List YB) (e' : YEp) (f : Av) (c : Int) : Prop :=
 Bb e' = Bb e ∧ A1 f ≤ sn.length + p.length + 32 ∧ (c ≠ 0 → e' = e) ∧ (c = 0 → Er e = true ∧ Er e' = true ∧ e'.1 = e.1 ∧ e'.2.1 = e.2.1 ∧ f = (G2 e.2.1 role sn e.1 e.2.2.1 k p).1 ∧ Qp e.2.1 role sn e.1 e.2.2.1 k p = true)
theorem Bka (e : YEp) (role : Int) (sn : List YB) (k : Int) (p : List YB) (h : Bb e + sn.length + p.length ≤ 67108864) :
  ∃ (e' : YEp) (f : Av) (c : Int), Ajz e (role, ()) (sn, ()) (k, ()) (p, ()) = some (e', f, (c, ())) ∧ Ai5 e (role, ()) (sn, ()) (k, ()) (p, ()) = some (e', f, (c, ())) ∧ EpS e role sn k p e' f c := by
 have hn := Beu e.2.1 role sn e.1 e.2.2.1 k p
 have he : Bb e = e.2.1.length + e.2.2.2.2.1.length := rfl
 have none : ∀ {c : Int}, c ≠ 0 → ∃ (e' : YEp) (f : Av) (c' : Int), some (e, Fi, (c, ())) = some (e', f, (c', ())) ∧ some (e, Fi, (c, ())) = some (e', f, (c', ())) ∧ EpS e role sn k p e' f c' := fun {c} hc =>
  ⟨e, Fi, c, rfl, rfl, rfl, by simp [A1, Fi], fun _ => rfl, fun h => (hc h).elim⟩
 unfold Ajz Ajy Ai5 Ai4
 simp only [Ae, Ag, Ab]
 rw [Axi e (by omega), Alx e (by omega), A1o e (by omega), Bav e]
 simp only [Ah]
 cases ho : Er e with
 | false => exact none (c := 1) (by decide)
 | true =>
  have hk : ((e.2.1.length : Int) == 32) = true := by unfold Er at ho; simp only [Bool.and_eq_true] at ho; exact ho.2.1
  have hseq : inR e.2.2.1 0 281474976710656 = true := by unfold Er at ho; simp only [Bool.and_eq_true] at ho; exact ho.2.2.1
  rw [C6] at hseq
  simp only [Bool.not_true, An]
  rw [Bj5 _ _ _ _ _ _ _ (by omega) (by omega), Ah, Alw, Ah, U2, Ah, Axf, Ah]
  simp only [Bj9, Bmb]
  unfold Qp
  rw [hk]
  simp only [Bool.true_and]
  cases hd : Fl role sn e.1 0 with
  | false => exact none (c := 1) (by decide)
  | true =>
   cases hkd : inR k 4 8 with
   | false => exact none (c := 1) (by decide)
   | true =>
    cases hb : Ji k (p.length : Int) with
    | false => exact none (c := 1) (by decide)
    | true =>
     simp only [Bool.and_self, Bool.not_true, An]
     have fin : e.2.2.1 ≠ 281474976710656 → ∃ (e' : YEp) (f : Av) (c' : Int), some (Arr e, (G2 e.2.1 role sn e.1 e.2.2.1 k p).1, ((0 : Int), ())) = some (e', f, (c', ())) ∧ some (Arr e, (G2 e.2.1 role sn e.1 e.2.2.1 k p).1, ((0 : Int), ())) = some (e', f, (c', ())) ∧ EpS e role sn k p e' f c' := fun hs =>
      ⟨Arr e, _, 0, rfl, rfl, rfl, hn, fun h => (h rfl).elim, fun _ => ⟨ho, Bn3 ho hs, rfl, rfl, rfl, by
       unfold Qp
       rw [hk, hkd, hb]
       unfold Fl at hd ⊢
       simp only [Bool.and_eq_true, C6, Bool.and_true] at hd ⊢
       exact ⟨trivial, hd.1, hd.2.1, hd.2.2.1, by omega, by omega⟩⟩⟩
     rw [Bj5 _ _ _ _ _ _ _ (by omega) (by omega), Bo6 _ _ _ _ _ _ _ (by omega) (by omega)]
     simp only [Ah]
     have go : br (e.2.2.1 == (281474976710656 : Int)) (some (e, Fi, ((5 : Int), ()))) (some ((e.1, e.2.1, (IntKind.i64.wrap (e.2.2.1 + (1 : Int))), e.2.2.2.1, e.2.2.2.2.1, ()), (G2 e.2.1 role sn e.1 e.2.2.1 k p).1, ((0 : Int), ()))) = if e.2.2.1 = 281474976710656 then some (e, Fi, ((5 : Int), ())) else some (Arr e, (G2 e.2.1 role sn e.1 e.2.2.1 k p).1, ((0 : Int), ())) := by
      by_cases h5 : e.2.2.1 = 281474976710656
      ·rw [if_pos h5, J3 (by simp [h5])]
      ·rw [if_neg h5, Dw (by simp [h5]), w64 (by omega)]; rfl
     have fin2 : ∃ (e' : YEp) (f : Av) (c' : Int), (if e.2.2.1 = 281474976710656 then some (e, Fi, ((5 : Int), ())) else some (Arr e, (G2 e.2.1 role sn e.1 e.2.2.1 k p).1, ((0 : Int), ()))) = some (e', f, (c', ())) ∧ (if e.2.2.1 = 281474976710656 then some (e, Fi, ((5 : Int), ())) else some (Arr e, (G2 e.2.1 role sn e.1 e.2.2.1 k p).1, ((0 : Int), ()))) = some (e', f, (c', ())) ∧ EpS e role sn k p e' f c' := by
      by_cases h5 : e.2.2.1 = 281474976710656
      ·rw [if_pos h5]; exact none (c := 5) (by decide)
      ·rw [if_neg h5]; exact fin h5
     cases hk4 : (k == (4 : Int)) with
     | false =>
      simp only [An]
      exact go ▸ fin2
     | true =>
      simp only [A3]
      by_cases h4 : e.2.2.1 ≥ 281474976709656
      ·rw [Ao h4, A3]; exact none (c := 4) (by decide)
      ·rw [Bm h4, An]
       exact go ▸ fin2
def Ec (c : Ak) (e : YEp) : Ak := (c.1, c.2.1, e.1, e.2.1, e.2.2.1, e.2.2.2.1, e.2.2.2.2.1, c.2.2.2.2.2.2.2.1, c.2.2.2.2.2.2.2.2.1, c.2.2.2.2.2.2.2.2.2.1, c.2.2.2.2.2.2.2.2.2.2.1, c.2.2.2.2.2.2.2.2.2.2.2.1, c.2.2.2.2.2.2.2.2.2.2.2.2.1, c.2.2.2.2.2.2.2.2.2.2.2.2.2.1, c.2.2.2.2.2.2.2.2.2.2.2.2.2.2.1, ())
theorem A1w {c : Ak} {e : YEp} (h : Cj c = true) (he : Er e = true) (h1 : e.1 = c.2.2.1) : Cj (Ec c e) = true := by
 have e1 : F2 (Ec c e) = e := rfl
 have e2 : My (Ec c e) = My c := by
  unfold My
  have : (Ec c e).2.2.1 = c.2.2.1 := h1
  simp only [this]
  rfl
 unfold Cj at h ⊢
 rw [e1, e2]
 simp only [Bool.not_not, Bool.and_eq_true] at h ⊢
 refine ⟨h.1, h.2.1, he, h.2.2.2.1, ?_⟩
 have := h.2.2.2.2
 simp only [Ec, L6, h1] at this ⊢
 exact this
theorem Bbb (c : Ak) (e : YEp) (h : Bb e = Bb (F2 c)) : Ar (Ec c e) = Ar c := by
 simp only [Bb, F2] at h
 simp only [Ar, Ec]
 omega
def ChS (c : Ak) (k : Int) (p : List YB) (c' : Ak) (f : Av) (z : Int) : Prop :=
 ∃ e' : YEp, c' = Ec c e' ∧ Ar c' = Ar c ∧ A1 f ≤ Ar c + p.length + 32 ∧ (z ≠ 0 → c' = c) ∧
  (z = 0 → Cj c = true ∧ Cj c' = true ∧ e'.1 = c.2.2.1 ∧ e'.2.1 = c.2.2.2.1 ∧ f = (G2 c.2.2.2.1 c.1 c.2.1 c.2.2.1 c.2.2.2.2.1 k p).1 ∧ Qp c.2.2.2.1 c.1 c.2.1 c.2.2.1 c.2.2.2.2.1 k p = true)
theorem Ez (c : Ak) (k : Int) (p : List YB) (h : Ar c + p.length ≤ 67108864) :
  ∃ (c' : Ak) (f : Av) (z : Int), Cq c (k, ()) (p, ()) = some (c', f, (z, ())) ∧ Cc c (k, ()) (p, ()) = some (c', f, (z, ())) ∧ ChS c k p c' f z := by
 have hc := h
 simp only [Ar] at hc
 unfold Cq Aaj Cc Z3
 simp only [Ae, Ag, Ab]
 rw [Ps c (by omega), Oa c (by omega), Q9 c (by dsimp only [F2]; omega) (by dsimp only [J6]; omega), N6 c]
 simp only [Ah]
 cases ho : Cj c with
 | false => exact ⟨c, Fi, 1, rfl, rfl, F2 c, rfl, rfl, by simp [A1, Fi], fun _ => rfl, fun h => by cases h⟩
 | true =>
  simp only [Bool.not_true, An]
  obtain ⟨e', f, z, h1, h2, h3, h4, h5, h6⟩ := Bka (F2 c) c.1 c.2.1 k p (by simp only [Bb, F2]; omega)
  have hn := Bbb c e' h3
  rw [h1, h2, Ah, Ah]
  have hf : A1 f ≤ Ar c + p.length + 32 := by simp only [Ar]; omega
  by_cases hz : z = 0
  ·subst hz
   obtain ⟨q1, q2, q3, q4, q5, q6⟩ := h6 rfl
   exact ⟨Ec c e', f, 0, rfl, rfl, e', rfl, hn, hf, fun h => (h rfl).elim, fun _ => ⟨ho, A1w ho q2 q3, q3, q4, q5, q6⟩⟩
  ·have he := h5 hz
   subst he
   refine ⟨c, f, z, rfl, ?_, F2 c, rfl, rfl, hf, fun _ => rfl, fun h => (hz h).elim⟩
   rw [Dw (by simpa using hz)]
def Tn (n : Int) : List YB := bif inR n 0 4294967295 then Ft n 4 4 else []
theorem Bkb (n : Int) : (Tn n).length ≤ 4 := by unfold Tn; cases inR n 0 4294967295 <;> simp [Lk]
theorem Au5 (n : Int) : Qy (n, ()) = some (Tn n, ()) := by
 unfold Qy Wn Tn
 simp only [Ae, Ag, Ab, C9, Ah]
 cases inR n 0 4294967295 with
 | false => rfl
 | true => simp only [Bool.not_true, An]; rw [Asz _ _ (by simp), Ah]; rfl
theorem Au6 (n : Int) : Qw (n, ()) = some (Tn n, ()) := by
 unfold Qw Wi Tn
 simp only [Ae, Ag, Ab, Dm, Ah]
 cases inR n 0 4294967295 with
 | false => rfl
 | true => simp only [Bool.not_true, An]; rw [Zm _ _ (by simp), Ah]; rfl
theorem Bo7 (c : Ak) (h : Ar c ≤ 67000000) :
  ∃ (c' : Ak) (f : Av) (z : Int), Asq c = some (c', f, (z, ())) ∧ Asn c = some (c', f, (z, ())) ∧ Ar c' = Ar c ∧ A1 f ≤ Ar c + 36 ∧ (z = 0 → ChS c 8 (Tn c.2.2.1) c' f 0) := by
 have hc := h
 have hl := Bkb c.2.2.1
 simp only [Ar] at hc
 unfold Asq A2y Asn A2r
 simp only [Ae, Ag, Ab]
 rw [Ps c (by omega), Oa c (by omega), Q9 c (by dsimp only [F2]; omega) (by dsimp only [J6]; omega), N6 c]
 simp only [Ah]
 cases ho : Cj c with
 | false => exact ⟨c, Fi, 6, rfl, rfl, rfl, by simp [A1, Fi], fun h => by cases h⟩
 | true =>
  simp only [Bool.not_true, An]
  cases hx : (c.1 != (1 : Int)) with
  | true => exact ⟨c, Fi, 6, rfl, rfl, rfl, by simp [A1, Fi], fun h => by cases h⟩
  | false =>
   simp only [An]
   rw [Au5, Au6, Ah, Ah]
   obtain ⟨c', f, z, h1, h2, h3⟩ := Ez c 8 (Tn c.2.2.1) (by omega)
   rw [h1, h2, Ah]
   have h3' := h3
   obtain ⟨e', q1, q2, q3, q4, q5⟩ := h3
   exact ⟨c', f, z, rfl, rfl, q2, by omega, fun hz => hz ▸ h3'⟩
end
end Go.Proofs.YtggdikabbngbaaaGreat

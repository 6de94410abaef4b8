/-
  That the program and the reference answer alike, in plain terms, and that the laws answer true.
-/
import Derived.Test.YtggdikabbngbaaaGreatL23
namespace Go.Proofs.YtggdikabbngbaaaGreat
open Go.RowKit
set_option linter.unusedVariables false
set_option linter.unusedSimpArgs false
set_option maxRecDepth 100000
set_option maxHeartbeats 4000000
noncomputable section
theorem Afr {E : Type} {p : E → Bool} {l : List E} {i : Nat} {x : E} (hx : l[i]? = some x) : (l.take (i + 1)).filter p = (l.take i).filter p ++ (bif p x then [x] else []) := by
 rw [← Eu hx, List.filter_append]
 cases h : p x <;> simp [List.filter_cons, h]
theorem Ars {E : Type} {p : E → Bool} {l : List E} {i : Nat} : ((l.take i).filter p).length ≤ i := by
 have := List.length_filter_le p (l.take i)
 simp only [List.length_take] at this; omega
theorem Afs {E : Type} {f : E → Nat} {p : E → Bool} : ∀ {l : List E}, Ad f (l.filter p) ≤ Ad f l
 | [] => by simp [Ad]
 | a :: r => by
  have := Afs (f := f) (p := p) (l := r)
  simp only [List.filter_cons]
  split <;> simp only [Ad] <;> omega
theorem Bn4 (n : Nat) : Nat.beq n n = true := Nat.beq_refl n
theorem Bpb {i : Nat} : Nat.ble (Int.toNat (i : Int) + 1) (Int.toNat ((i : Int) + 1)) = true := by
 rw [show Int.toNat (i : Int) = i by omega, show Int.toNat ((i : Int) + 1) = i + 1 by omega]
 exact Nat.ble_eq_true_of_le (Nat.le_refl _)
def Jj (n : Int) (x : Aj) : Bool := decide (x.2.2.2.1 ≥ n)
def D9 (p : A6) (n : Int) : A6 := (p.1, p.2.1, p.2.2.1.filter (Jj n), ())
theorem Axl (p : A6) (n : YI) (h : A4 p ≤ 4294967296) : Nl p n = some (D9 p n.1) := by
 have h' := h
 obtain ⟨a, b, l, ⟨⟩⟩ := p
 simp only [A4] at h'
 have hl := Da (B := Ds) l.length (fun i => (n.1, l, (l.length : Int), (i : Int), (0 : Int), (0 : Int), ([] : List Aj), a, b, (l.take i).filter (Jj n.1), ())) ((0 : Int), (0 : Int), ([] : List Aj), a, b, l.filter (Jj n.1), ())
  (fun i hi => by
   have hx := List.getElem?_eq_getElem hi
   have hle := Ars (p := Jj n.1) (l := l) (i := i)
   have hs := Afr (p := Jj n.1) hx
   unfold Ds
   simp only [Ae, Ag, Ab, Ai, Ci hi, A3, Bq hx, Ah, Bn4, A8]
   rw [w64 (by omega), Bpb]
   simp only [A8]
   rw [hs]
   have hp : Jj n.1 l[i] = decide (l[i].2.2.2.1 ≥ n.1) := rfl
   rw [hp]
   cases decide (l[i].2.2.2.1 ≥ n.1) with
   | false => simp [An]
   | true =>
    simp only [A3, cond_true]
    rw [Ao (by simp; omega), A8]
    rfl)
  (by unfold Ds; simp only [Ae, Ab, C0, An, List.take_length])
 unfold Nl F6
 simp only [Ag, Ab]
 rw [Vp _ h]
 simp only [Ah]
 rw [show Ay Ds (n.1, l, (l.length : Int), (0 : Int), (0 : Int), (0 : Int), ([] : List Aj), a, b, ([] : List Aj), ()) = _ from hl]
 rfl
theorem Bew (p : A6) (n : Int) : A4 (D9 p n) ≤ A4 p := by
 have h1 := List.length_filter_le (Jj n) p.2.2.1
 have h2 := Afs (f := Bd) (p := Jj n) (l := p.2.2.1)
 simp only [A4, D9]; omega
def Aly (p : A6) (n : Int) : A6 := bif Fs p && inR n 0 1000000 then D9 p n else p
theorem Bh1 (p : A6) (n : YI) (h : A4 p ≤ 4294967296) : Z4 p n = some (Aly p n.1) := by
 have h' := h
 have hl0 : p.2.2.1.length ≤ A4 p := by simp only [A4]; omega
 unfold Z4 M9 Aly
 simp only [Ae, Ag, Ab]
 rw [Ac9 p (by omega), Dm, Rm p h]
 simp only [Ah]
 obtain ⟨a, b, l, ⟨⟩⟩ := p
 simp only [A4] at h'
 have hl := Da (B := Fp) l.length (fun i => (n.1, (i : Int), a, b, l, (0 : Int), (0 : Int), ([] : List Aj), a, b, (l.take i).filter (Jj n.1), ())) ((0 : Int), (0 : Int), ([] : List Aj), a, b, l.filter (Jj n.1), ())
  (fun i hi => by
   have hx := List.getElem?_eq_getElem hi
   have hle := Ars (p := Jj n.1) (l := l) (i := i)
   have hs := Afr (p := Jj n.1) hx
   have hn := Pq (f := Bd) hx
   unfold Fp
   simp only [Ae, Ag, Ab, Ai, Ci hi, A3, Bq hx, Ah]
   rw [w64 (by omega), hs, Ada _ (by omega)]
   simp only [Ah]
   have hp : Jj n.1 l[i] = decide (l[i].2.2.2.1 ≥ n.1) := rfl
   rw [hp]
   cases decide (l[i].2.2.2.1 ≥ n.1) with
   | false => simp [An]
   | true =>
    simp only [A3, cond_true]
    rw [Ao (by simp; omega), A8]
    rfl)
  (by unfold Fp; simp only [Ae, Ab, C0, An, List.take_length])
 rw [show Ay Fp (n.1, (0 : Int), a, b, l, (0 : Int), (0 : Int), ([] : List Aj), a, b, ([] : List Aj), ()) = _ from hl]
 cases Fs (a, b, l, ()) <;> cases inR n.1 0 1000000 <;> rfl
theorem Bbe (s : Bi) : A4 (C7 s) ≤ Bh s := by simp only [A4, C7, Bh]; omega
end
end Go.Proofs.YtggdikabbngbaaaGreat

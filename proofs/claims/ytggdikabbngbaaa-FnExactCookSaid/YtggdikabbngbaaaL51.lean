/-
  That the program and the reference answer alike, in plain terms, and that the laws answer true.
-/
import Derived.Test.YtggdikabbngbaaaL50
namespace Go.Proofs.Ytggdikabbngbaaa
open Go.RowKit
set_option linter.unusedVariables false
set_option linter.unusedSimpArgs false
set_option maxRecDepth 100000
set_option maxHeartbeats 8000000
noncomputable section
theorem Aso (l : List YOp) (seen : List Az) (known : List YBs) (hll : l.length ≤ 16) (hseen : ∀ w ∈ seen, w.2.2.2.2.1.length ≤ 4294967296) (hknown : ∀ w ∈ known, w.1.length ≤ 4294967296) (hsl : seen.length ≤ 4294967296) (hkl : known.length ≤ 4294967296) :
  ∀ (k i : Nat) (st : List YBs), i + k = l.length → Afi st → ∃ o : DO, Ar Fh (seen, known, st, l, (l.length : Int), (i : Int), ()) = some o ∧ Ar D4 (l, seen, known, st, (i : Int), ()) = some o ∧ (∀ t, o = .inr (t, ()) → Afi t) ∧ (∀ b q, o = .inl (b, q, ()) → b = [] ∧ q = false) := by
 intro k
 induction k with
 | zero =>
  intro i st hi hs
  have e : i = l.length := by omega
  subst e
  refine ⟨.inr (st, ()), ?_, ?_, fun t h => ?_, fun b q h => by cases h⟩
  ·rw [Bh]
   unfold Fh
   simp only [Ae, Ad, Cp, Al]
  ·rw [Bh]
   unfold D4
   simp only [Ae, Ad, Cp, Al]
  ·simp only [Sum.inr.injEq, Prod.mk.injEq, and_true] at h
   subst h; exact hs
 | succ k ih =>
  intro i st hi hs
  have hlt : i < l.length := by omega
  obtain ⟨R, h1, h2, h3⟩ := Asn l seen known st i l[i] hlt (List.getElem?_eq_getElem hlt) hll hs.1 hs.2 hseen hknown hsl hkl
  rw [Bh, h1, Bh D4, h2]
  cases R with
  | none => exact ⟨.inl ([], false, ()), rfl, rfl, fun t h => (by cases h), fun b q h => (by cases h; exact ⟨rfl, rfl⟩)⟩
  | some t => exact ih (i + 1) t (by omega) (h3 t rfl)
theorem Avq (l : List YOp) (seen : List Az) (known : List YBs) (hseen : ∀ w ∈ seen, w.2.2.2.2.1.length ≤ 4294967296) (hknown : ∀ w ∈ known, w.1.length ≤ 4294967296) (hsl : seen.length ≤ 4294967296) (hkl : known.length ≤ 4294967296) :
  ∃ b k, Th (l, ()) (seen, ()) (known, ()) = some ((b, ()), (k, ())) ∧ Abg (l, ()) (seen, ()) (known, ()) = some ((b, ()), (k, ())) ∧ b.length ≤ 200 := by
 have nope : ∃ (b : List YB) (k : Bool), some ((([] : List YB), ()), (false, ())) = some ((b, ()), (k, ())) ∧ some ((([] : List YB), ()), (false, ())) = some ((b, ()), (k, ())) ∧ b.length ≤ 200 := ⟨[], false, rfl, rfl, by simp⟩
 unfold Th N4 Abg Nx
 simp only [Ae, Af, Ad, Ah, A9]
 by_cases h0 : (l.length : Int) > 16
 ·rw [Ak h0, Ax, Ax]; exact nope
 rw [A2 h0, Al, Al]
 obtain ⟨o, h1, h2, h3, h4⟩ := Aso l seen known (by omega) hseen hknown hsl hkl l.length 0 [] (by omega) ⟨by simp, fun y hy => by cases hy⟩
 rw [show Ar Fh (seen, known, ([] : List YBs), l, (l.length : Int), (0 : Int), ()) = some o from h1, show Ar D4 (l, seen, known, ([] : List YBs), (0 : Int), ()) = some o from h2]
 simp only [Ag]
 rcases o with ⟨b, q, ⟨⟩⟩ | ⟨t, ⟨⟩⟩
 ·obtain ⟨rfl, rfl⟩ := h4 b q rfl
  exact nope
 ·obtain ⟨g1, g2⟩ := h3 t rfl
  simp only [Axl, bne]
  cases ht : ((t.length : Int) == 1) with
  | false => exact nope
  | true =>
   have ht' : t.length = 1 := by have := eq_of_beq ht; omega
   match t, ht', g2 with
   | [x], _, g2 =>
    have hx := g2 x (by simp)
    obtain ⟨x, ⟨⟩⟩ := x
    simp only at hx
    simp only [Bool.not_true, Al, show idx [((x, ()) : YBs)] (0 : Int) = some (x, ()) from rfl, Ag]
    rw [Nl _ (by dsimp only; omega)]
    simp only [Ag, List.length_nil, Nat.zero_add, List.nil_append]
    rw [Ak (by omega), A0]
    exact ⟨x, true, rfl, rfl, hx⟩
theorem At6 (l : List YOp × Unit) (seen : List Az × Unit) (known : List YBs × Unit) (hw : l.1.length ≤ 9223372036854775807 ∧ (∀ (i : Nat) x, l.1[i]? = some x → M8 x)) (hw2 : seen.1.length ≤ 9223372036854775807 ∧ (∀ (i : Nat) x, seen.1[i]? = some x → Jz x)) (hw3 : known.1.length ≤ 9223372036854775807 ∧ (∀ (i : Nat) x, known.1[i]? = some x → Ae8 x)) : Pg l seen known = some (true, ()) := by
 unfold Pg C0
 simp only [Af, Ae, Ad]
 rw [Ar5 l _ (by omega) (by omega) hw, Ag]
 by_cases h : szR (l.1.length + A7 Bv l.1) 1048576 < 0
 ·rw [M7 (by simpa using h)]
 rw [Ew (by simpa using h), Atr seen _ (Ae9 _ _) (Xg (by omega) (by omega)) hw2, Ag]
 have hb := Ahm h
 rw [J0]
 by_cases h' : szR (l.1.length + A7 Bv l.1 + (seen.1.length + A7 Br seen.1)) 1048576 < 0
 ·rw [M7 (by simpa using h')]
 rw [Ew (by simpa using h'), Ar7 known _ (Ae9 _ _) (Xg (by omega) (by omega)) hw3, Ag]
 have hb' := Ahm h'
 rw [J0]
 by_cases h'' : szR (l.1.length + A7 Bv l.1 + (seen.1.length + A7 Br seen.1) + (known.1.length + A7 Dk known.1)) 1048576 < 0
 ·rw [M7 (by simpa using h'')]
 have hb'' := Ahm h''
 rw [Ew (by simpa using h'')]
 obtain ⟨l, ⟨⟩⟩ := l
 obtain ⟨seen, ⟨⟩⟩ := seen
 obtain ⟨known, ⟨⟩⟩ := known
 simp only at hb hb' hb''
 obtain ⟨b, k, c1, c2, c3⟩ := Avq l seen known (fun w hw => by have := Ua (f := Br) hw; simp only [Br] at *; omega) (fun w hw => by have := Ua (f := Dk) hw; simp only [Dk] at *; omega) (by omega) (by omega)
 have k1 := Zg (f := Ms) (g := Bv) Avb l
 have k2 := Zg (f := G3) (g := Br) Ar3 seen
 have k3 := Zg (f := Q4) (g := Dk) Avc known
 have k4 := Oy (f := w_B) (fun _ => by simp [w_B]) b
 simp (disch := first | omega | (dsimp only; omega)) only [Ar6, Ats, Ar8, Ag, c1, c2, Alx, Att, Ar9, Oz, Acl, Afa, Aoa, M9, Aqf, Bool.not_true, Al, Ar1, C8]
 cases k <;> rfl
end
end Go.Proofs.Ytggdikabbngbaaa

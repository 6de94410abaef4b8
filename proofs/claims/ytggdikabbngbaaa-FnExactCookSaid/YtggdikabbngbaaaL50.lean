/-
  That the program and the reference answer alike, in plain terms, and that the laws answer true.
-/
import Derived.Test.YtggdikabbngbaaaL13
namespace Go.Proofs.Ytggdikabbngbaaa
open Go.RowKit
set_option linter.unusedVariables false
set_option linter.unusedSimpArgs false
set_option maxRecDepth 100000
set_option maxHeartbeats 8000000
noncomputable section
def Si (o : YOp) : Bool := inR o.1 1 10 && (decide ((o.2.2.2.1.length : Int) ≤ 200) && (inR o.2.1 0 200 && inR o.2.2.1 0 200))
theorem At1 (o : YOp) : Ta o = some (Si o, ()) := by
 unfold Ta S9 Si
 simp only [Ae, Af, Ad, Jl, Ag]
 cases inR o.1 1 10 <;> cases decide ((o.2.2.2.1.length : Int) ≤ 200) <;> cases inR o.2.1 0 200 <;> rfl
theorem At2 (o : YOp) : S4 o = some (Si o, ()) := by
 unfold S4 S3 Si
 simp only [Ae, Af, Ad, Xh, Ag]
 cases inR o.1 1 10 <;> cases decide ((o.2.2.2.1.length : Int) ≤ 200) <;> cases inR o.2.1 0 200 <;> rfl
theorem Axc (b : List YB) (p n : Int) (hl : b.length ≤ 4294967296) : Af9 (b, ()) (p, ()) (n, ()) = some (if 0 ≤ p ∧ 0 ≤ n ∧ p + n ≤ b.length then (((b.drop p.toNat).take n.toNat, ()), (true, ())) else (([], ()), (false, ()))) := by
 unfold Af9 Af8
 simp only [Ae, Ad, Ah]
 by_cases h1 : n < 0
 ·rw [Ak h1, Ax, if_neg (by omega)]
 rw [A2 h1, Al]
 by_cases h2 : p < 0
 ·rw [Ak h2, Ax, if_neg (by omega)]
 rw [A2 h2, Al]
 by_cases h3 : n > (b.length : Int)
 ·rw [Ak h3, Ax, if_neg (by omega)]
 rw [A2 h3, Al, w64 (by omega)]
 by_cases h4 : p > (b.length : Int) - n
 ·rw [Ak h4, Ax, if_neg (by omega)]
 rw [A2 h4, Al, w64 (by omega), if_pos (by omega), Ak (by omega), Ak (by omega), Ak (by omega)]
 have e : (b.take (p + n).toNat).drop p.toNat = (b.drop p.toNat).take n.toNat := by
  rw [List.drop_take, show (p + n).toNat - p.toNat = n.toNat by omega]
 rw [e, Ak (by simp only [List.length_nil, List.length_take, List.length_drop]; omega)]
 rfl
def At3 (x y : YB) : YB := ((IntKind.u8.wrap ((BitVec.ofInt (IntKind.u8.bits) (x.1) ^^^ BitVec.ofInt (IntKind.u8.bits) (y.1)).toNat : Nat)), ())
def Kq (a b : List YB) : List YB := List.zipWith At3 a b
theorem Al7 {a b : List YB} {i : Nat} {x y : YB} (hx : a[i]? = some x) (hy : b[i]? = some y) : (Kq a b).take (i + 1) = (Kq a b).take i ++ [At3 x y] := by
 have h : (Kq a b)[i]? = some (At3 x y) := by unfold Kq; rw [List.getElem?_zipWith, hx, hy]
 obtain ⟨h1, h2⟩ := List.getElem?_eq_some_iff.1 h
 rw [List.take_add_one, h]; rfl
theorem Al8 {a b : List YB} (h : a.length = b.length) : (Kq a b).length = a.length := by unfold Kq; rw [List.length_zipWith]; omega
theorem Avp (a b : List YB) (h : a.length = b.length) (hl : a.length ≤ 4294967290) : Vy (a, ()) (b, ()) = some (Kq a b, ()) := by
 have hlen := Al8 h
 have e := Ck (B := Fs) a.length (fun i => (b, (Kq a b).take i, a, (a.length : Int), (i : Int), ())) (Kq a b, ())
  (fun i hi => by
   have hx := List.getElem?_eq_getElem hi
   have hy := List.getElem?_eq_getElem (show i < b.length by omega)
   unfold Fs
   simp only [Ae, Af, Ad, Ah, Cd hi, Ax, A5 hx, A5 hy, Ag]
   rw [w64 (by omega), Al7 hx hy, Ak (by simp; omega), A0]
   rfl)
  (by unfold Fs; simp only [Ae, Ad, Cp, Al]; rw [List.take_of_length_le (by omega)])
 unfold Vy L3
 simp only [Af, Ad]
 rw [show Ar Fs (b, ([] : List YB), a, (a.length : Int), (0 : Int), ()) = _ from e]
 rfl
theorem Asm (l : List YOp) (seen : List Az) (known st : List YBs) (i : Nat) (n : Int) (a b : List YB) (h : a.length = b.length) (hl : a.length ≤ 4294967290) (i0 : idx st n = some (a, ())) (i1 : idx st (IntKind.i64.wrap (n + 1)) = some (b, ())) :
  Ar Fr (l, seen, known, st, (i : Int), n, ([] : List YB), (0 : Int), ()) = some (l, seen, known, st, (i : Int), n, Kq a b, ()) := by
 have hlen := Al8 h
 exact Ck (B := Fr) a.length (fun k => (l, seen, known, st, (i : Int), n, (Kq a b).take k, (k : Int), ())) (l, seen, known, st, (i : Int), n, Kq a b, ())
  (fun k hi => by
   have hx := List.getElem?_eq_getElem hi
   have hy := List.getElem?_eq_getElem (show k < b.length by omega)
   unfold Fr
   simp only [Ae, Af, Ad, Ah, i0, i1, Ag, Cd hi, Ax, A5 hx, A5 hy]
   rw [w64 (by omega), Al7 hx hy, Ak (by simp; omega), A0]
   rfl)
  (by unfold Fr; simp only [Ae, Af, Ad, i0, Ag, Cp, Al]; rw [List.take_of_length_le (by omega)])
theorem Xl (st : List YBs) (h : 1 ≤ (st.length : Int)) : ∃ pre a, st = pre ++ [(a, ())] := by
 have hne : st ≠ [] := by rintro rfl; simp at h
 exact ⟨st.dropLast, (st.getLast hne).1, (List.dropLast_concat_getLast hne).symm⟩
theorem Xm (st : List YBs) (h : 2 ≤ (st.length : Int)) : ∃ pre a b, st = pre ++ [(a, ()), (b, ())] := by
 obtain ⟨p, b, rfl⟩ := Xl st (by omega)
 obtain ⟨pre, a, rfl⟩ := Xl p (by simp at h; omega)
 exact ⟨pre, a, b, by simp⟩
theorem Awj (st : List YBs) (h : 3 ≤ (st.length : Int)) : ∃ pre a b c, st = pre ++ [(a, ()), (b, ()), (c, ())] := by
 obtain ⟨p, c, rfl⟩ := Xl st (by omega)
 obtain ⟨pre, a, b, rfl⟩ := Xm p (by simp at h; omega)
 exact ⟨pre, a, b, c, by simp⟩
abbrev DI := (List Az) × (List YBs) × (List YBs) × (List YOp) × Int × Int × Unit
abbrev DS := (List YOp) × (List Az) × (List YBs) × (List YBs) × Int × Unit
abbrev DO := ((List YB) × Bool × Unit) ⊕ ((List YBs) × Unit)
def At4 (l : List YOp) (seen : List Az) (known : List YBs) (i : Nat) : Option (List YBs) → Option (DI ⊕ DO)
 | none => some (.inr (.inl (([] : List YB), false, ())))
 | some t => some (.inl (seen, known, t, l, (l.length : Int), ((i + 1 : Nat) : Int), ()))
def At5 (l : List YOp) (seen : List Az) (known : List YBs) (i : Nat) : Option (List YBs) → Option (DS ⊕ DO)
 | none => some (.inr (.inl (([] : List YB), false, ())))
 | some t => some (.inl (l, seen, known, t, ((i + 1 : Nat) : Int), ()))
def Afi (t : List YBs) : Prop := t.length ≤ 8 ∧ ∀ y ∈ t, y.1.length ≤ 200
theorem Asn (l : List YOp) (seen : List Az) (known st : List YBs) (i : Nat) (x : YOp) (hi : i < l.length) (hx : l[i]? = some x) (hll : l.length ≤ 16) (hst : st.length ≤ 8) (hb : ∀ y ∈ st, y.1.length ≤ 200)
  (hseen : ∀ w ∈ seen, w.2.2.2.2.1.length ≤ 4294967296) (hknown : ∀ w ∈ known, w.1.length ≤ 4294967296) (hsl : seen.length ≤ 4294967296) (hkl : known.length ≤ 4294967296) :
  ∃ R : Option (List YBs), Fh (seen, known, st, l, (l.length : Int), (i : Int), ()) = At4 l seen known i R ∧ D4 (l, seen, known, st, (i : Int), ()) = At5 l seen known i R ∧ ∀ t, R = some t → Afi t := by
 have nope : ∃ R : Option (List YBs), (some (.inr (.inl (([] : List YB), false, ()))) : Option (DI ⊕ DO)) = At4 l seen known i R ∧ (some (.inr (.inl (([] : List YB), false, ()))) : Option (DS ⊕ DO)) = At5 l seen known i R ∧ ∀ t, R = some t → Afi t := ⟨none, rfl, rfl, fun t h => by cases h⟩
 have fin : ∀ (pre : List YBs) (r : List YB), pre.length ≤ 8 → (∀ y ∈ pre, y.1.length ≤ 200) → ∃ R : Option (List YBs),
   br (decide ((r.length : Int) > (200 : Int))) (some (.inr (.inl (([] : List YB), false, ()))) : Option (DI ⊕ DO)) (br (decide (IntKind.i64.wrap ((pre.length : Int) + (1 : Int)) > (8 : Int))) (some (.inr (.inl (([] : List YB), false, ())))) (some (.inl (seen, known, pre ++ [(r, ())], l, (l.length : Int), ((i + 1 : Nat) : Int), ())))) = At4 l seen known i R ∧
   br (decide ((r.length : Int) > (200 : Int))) (some (.inr (.inl (([] : List YB), false, ()))) : Option (DS ⊕ DO)) (br ((pre.length : Int) == (8 : Int)) (some (.inr (.inl (([] : List YB), false, ())))) (some (.inl (l, seen, known, pre ++ [(r, ())], ((i + 1 : Nat) : Int), ())))) = At5 l seen known i R ∧ ∀ t, R = some t → Afi t := fun pre r hp hpb => by
  by_cases h1 : (r.length : Int) > 200
  ·rw [Ak h1]; exact nope
  rw [A2 h1, Al, Al, w64 (by omega)]
  by_cases h2 : (pre.length : Int) = 8
  ·rw [Ak (by omega), show ((pre.length : Int) == (8 : Int)) = true by simpa using h2]; exact nope
  rw [A2 (by omega), show ((pre.length : Int) == (8 : Int)) = false by simpa using h2, Al, Al]
  refine ⟨some (pre ++ [(r, ())]), rfl, rfl, fun t ht => ?_⟩
  simp only [Option.some.injEq] at ht
  subst ht
  refine ⟨by simp; omega, fun y hy => ?_⟩
  rcases List.mem_append.1 hy with hy | hy
  ·exact hpb y hy
  ·simp only [List.mem_singleton] at hy
   subst hy; dsimp only; omega
 have e0 : IntKind.i64.wrap ((i : Int) + 1) = ((i + 1 : Nat) : Int) := by rw [w64 (by omega)]; rfl
 unfold Fh D4
 simp only [Ae, Af, Ad, Ah, Cd hi, Ax, A5 hx, Ag, At1, At2]
 cases hso : Si x with
 | false =>
  have hop : ∃ q, B5 (x.1, ()) = some q := by
   unfold B5 Ny
   simp only [Ae, Ad]
   cases (x.1 == (4 : Int)) <;> cases (x.1 == (9 : Int)) <;> cases (x.1 == (5 : Int)) <;> cases (x.1 == (6 : Int)) <;> cases (x.1 == (7 : Int)) <;> cases (x.1 == (8 : Int)) <;> cases (x.1 == (10 : Int)) <;> exact ⟨_, rfl⟩
  obtain ⟨q, hq⟩ := hop
  rw [hq, Ag]
  exact nope
 | true =>
 simp only [Bool.not_true, Al]
 unfold Si at hso
 simp only [Bool.and_eq_true, Sc, decide_eq_true_eq] at hso
 obtain ⟨hk, hB, hI, hJ⟩ := hso
 have c1 : ((0 : Int) ≤ (st.length : Int)) = True := eq_true (by omega)
 have c3 : ((st.length : Int) ≤ (st.length : Int)) = True := eq_true (Int.le_refl _)
 have c5 : (st.length ≤ 4294967296) = True := eq_true (by omega)
 have c6 : (st.length + 1 ≤ 4294967296) = True := eq_true (by omega)
 have hks : x.1 = 1 ∨ x.1 = 2 ∨ x.1 = 3 ∨ x.1 = 4 ∨ x.1 = 5 ∨ x.1 = 6 ∨ x.1 = 7 ∨ x.1 = 8 ∨ x.1 = 9 ∨ x.1 = 10 := by omega
 clear hk
 rcases hks with hk | hk | hk | hk | hk | hk | hk | hk | hk | hk
 ·
  have hop : B5 (x.1, ()) = some ((0 : Int), ()) := by rw [hk]; rfl
  have hop2 : Cg (x.1, ()) = some ((0 : Int), ()) := by rw [hk]; rfl
  simp only [hop, hop2, Ag]
  have e1 : IntKind.i64.wrap ((st.length : Int) - 0) = (st.length : Int) := by rw [w64 (by omega)]; omega
  have e3 : (st.take ((st.length : Int)).toNat).drop (0 : Int).toNat = st := by simp
  have c2 : ((st.length : Int) < 0) = False := eq_false (by omega)
  simp only [e1, e3, e0, c2, decide_false, Al]
  have c7 : (x.2.2.2.1.length ≤ 4294967296) = True := eq_true (by omega)
  have hp : ∀ v, Bd x v (seen, ()) (known, ()) = some ((x.2.2.2.1, ()), (true, ())) := fun v => by unfold Bd B0; simp only [Ae, Af, Ad, hk, show ((1 : Int) == (1 : Int)) = true from rfl, show ((1 : Int) == (2 : Int)) = false from rfl, show ((1 : Int) == (3 : Int)) = false from rfl, show ((1 : Int) == (4 : Int)) = false from rfl, show ((1 : Int) == (5 : Int)) = false from rfl, show ((1 : Int) == (6 : Int)) = false from rfl, show ((1 : Int) == (7 : Int)) = false from rfl, show ((1 : Int) == (8 : Int)) = false from rfl, show ((1 : Int) == (9 : Int)) = false from rfl, show ((1 : Int) == (10 : Int)) = false from rfl, Ax, Al]
  simp only [hp, hk, show ((1 : Int) == (1 : Int)) = true from rfl, show ((1 : Int) == (2 : Int)) = false from rfl, show ((1 : Int) == (3 : Int)) = false from rfl, show ((1 : Int) == (4 : Int)) = false from rfl, show ((1 : Int) == (5 : Int)) = false from rfl, show ((1 : Int) == (6 : Int)) = false from rfl, show ((1 : Int) == (7 : Int)) = false from rfl, show ((1 : Int) == (8 : Int)) = false from rfl, show ((1 : Int) == (9 : Int)) = false from rfl, show ((1 : Int) == (10 : Int)) = false from rfl, Ax, Al, Ag, Bool.not_true, List.length_nil, Nat.zero_add, List.nil_append, List.length_cons, e1, e3, c1, c3, c5, c6, c7, decide_true, A0]
  exact fin st x.2.2.2.1 hst hb
 ·
  have hop : B5 (x.1, ()) = some ((0 : Int), ()) := by rw [hk]; rfl
  have hop2 : Cg (x.1, ()) = some ((0 : Int), ()) := by rw [hk]; rfl
  simp only [hop, hop2, Ag]
  have e1 : IntKind.i64.wrap ((st.length : Int) - 0) = (st.length : Int) := by rw [w64 (by omega)]; omega
  have e3 : (st.take ((st.length : Int)).toNat).drop (0 : Int).toNat = st := by simp
  have c2 : ((st.length : Int) < 0) = False := eq_false (by omega)
  simp only [e1, e3, e0, c2, decide_false, Al]
  by_cases hI : x.2.1 < (seen.length : Int)
  case neg =>
   have hp : ∀ v, Bd x v (seen, ()) (known, ()) = some (([], ()), (false, ())) := fun v => by unfold Bd B0; simp only [Ae, Af, Ad, hk, show ((2 : Int) == (1 : Int)) = false from rfl, show ((2 : Int) == (2 : Int)) = true from rfl, show ((2 : Int) == (3 : Int)) = false from rfl, show ((2 : Int) == (4 : Int)) = false from rfl, show ((2 : Int) == (5 : Int)) = false from rfl, show ((2 : Int) == (6 : Int)) = false from rfl, show ((2 : Int) == (7 : Int)) = false from rfl, show ((2 : Int) == (8 : Int)) = false from rfl, show ((2 : Int) == (9 : Int)) = false from rfl, show ((2 : Int) == (10 : Int)) = false from rfl, Ax, Al, eq_false hI, decide_false]
   have hI2 : (x.2.1 ≥ (seen.length : Int)) = True := eq_true (by omega)
   simp only [hp, hk, show ((2 : Int) == (1 : Int)) = false from rfl, show ((2 : Int) == (2 : Int)) = true from rfl, show ((2 : Int) == (3 : Int)) = false from rfl, show ((2 : Int) == (4 : Int)) = false from rfl, show ((2 : Int) == (5 : Int)) = false from rfl, show ((2 : Int) == (6 : Int)) = false from rfl, show ((2 : Int) == (7 : Int)) = false from rfl, show ((2 : Int) == (8 : Int)) = false from rfl, show ((2 : Int) == (9 : Int)) = false from rfl, show ((2 : Int) == (10 : Int)) = false from rfl, Ax, Al, Ag, Bool.not_false, hI2, e1, e3, c1, c3, c5, c6, decide_true, A0]
   exact nope
  have hIn : x.2.1 = ((x.2.1.toNat : Nat) : Int) := by omega
  have hw : ∃ w, seen[x.2.1.toNat]? = some w := ⟨_, List.getElem?_eq_getElem (by omega)⟩
  obtain ⟨w, hw⟩ := hw
  have hwi : idx seen x.2.1 = some w := by rw [hIn]; exact A5 hw
  have hp : ∀ v, Bd x v (seen, ()) (known, ()) = some ((w.2.2.2.2.1, ()), (true, ())) := fun v => by unfold Bd B0; simp only [Ae, Af, Ad, hk, show ((2 : Int) == (1 : Int)) = false from rfl, show ((2 : Int) == (2 : Int)) = true from rfl, show ((2 : Int) == (3 : Int)) = false from rfl, show ((2 : Int) == (4 : Int)) = false from rfl, show ((2 : Int) == (5 : Int)) = false from rfl, show ((2 : Int) == (6 : Int)) = false from rfl, show ((2 : Int) == (7 : Int)) = false from rfl, show ((2 : Int) == (8 : Int)) = false from rfl, show ((2 : Int) == (9 : Int)) = false from rfl, show ((2 : Int) == (10 : Int)) = false from rfl, Ax, Al, eq_true hI, decide_true, hwi, Ag]
  have hI2 : (x.2.1 ≥ (seen.length : Int)) = False := eq_false (by omega)
  have c7 : (w.2.2.2.2.1.length ≤ 4294967296) = True := eq_true (hseen w (List.mem_of_getElem? hw))
  simp only [hp, hk, show ((2 : Int) == (1 : Int)) = false from rfl, show ((2 : Int) == (2 : Int)) = true from rfl, show ((2 : Int) == (3 : Int)) = false from rfl, show ((2 : Int) == (4 : Int)) = false from rfl, show ((2 : Int) == (5 : Int)) = false from rfl, show ((2 : Int) == (6 : Int)) = false from rfl, show ((2 : Int) == (7 : Int)) = false from rfl, show ((2 : Int) == (8 : Int)) = false from rfl, show ((2 : Int) == (9 : Int)) = false from rfl, show ((2 : Int) == (10 : Int)) = false from rfl, Ax, Al, Ag, Bool.not_true, hI2, hwi, decide_false, List.length_nil, Nat.zero_add, List.nil_append, List.length_cons, e1, e3, c1, c3, c5, c6, c7, decide_true, A0]
  exact fin st w.2.2.2.2.1 hst hb
 ·
  have hop : B5 (x.1, ()) = some ((0 : Int), ()) := by rw [hk]; rfl
  have hop2 : Cg (x.1, ()) = some ((0 : Int), ()) := by rw [hk]; rfl
  simp only [hop, hop2, Ag]
  have e1 : IntKind.i64.wrap ((st.length : Int) - 0) = (st.length : Int) := by rw [w64 (by omega)]; omega
  have e3 : (st.take ((st.length : Int)).toNat).drop (0 : Int).toNat = st := by simp
  have c2 : ((st.length : Int) < 0) = False := eq_false (by omega)
  simp only [e1, e3, e0, c2, decide_false, Al]
  by_cases hI : x.2.1 < (known.length : Int)
  case neg =>
   have hp : ∀ v, Bd x v (seen, ()) (known, ()) = some (([], ()), (false, ())) := fun v => by unfold Bd B0; simp only [Ae, Af, Ad, hk, show ((3 : Int) == (1 : Int)) = false from rfl, show ((3 : Int) == (2 : Int)) = false from rfl, show ((3 : Int) == (3 : Int)) = true from rfl, show ((3 : Int) == (4 : Int)) = false from rfl, show ((3 : Int) == (5 : Int)) = false from rfl, show ((3 : Int) == (6 : Int)) = false from rfl, show ((3 : Int) == (7 : Int)) = false from rfl, show ((3 : Int) == (8 : Int)) = false from rfl, show ((3 : Int) == (9 : Int)) = false from rfl, show ((3 : Int) == (10 : Int)) = false from rfl, Ax, Al, eq_false hI, decide_false]
   have hI2 : (x.2.1 ≥ (known.length : Int)) = True := eq_true (by omega)
   simp only [hp, hk, show ((3 : Int) == (1 : Int)) = false from rfl, show ((3 : Int) == (2 : Int)) = false from rfl, show ((3 : Int) == (3 : Int)) = true from rfl, show ((3 : Int) == (4 : Int)) = false from rfl, show ((3 : Int) == (5 : Int)) = false from rfl, show ((3 : Int) == (6 : Int)) = false from rfl, show ((3 : Int) == (7 : Int)) = false from rfl, show ((3 : Int) == (8 : Int)) = false from rfl, show ((3 : Int) == (9 : Int)) = false from rfl, show ((3 : Int) == (10 : Int)) = false from rfl, Ax, Al, Ag, Bool.not_false, hI2, e1, e3, c1, c3, c5, c6, decide_true, A0]
   exact nope
  have hIn : x.2.1 = ((x.2.1.toNat : Nat) : Int) := by omega
  have hw : ∃ w, known[x.2.1.toNat]? = some w := ⟨_, List.getElem?_eq_getElem (by omega)⟩
  obtain ⟨w, hw⟩ := hw
  have hwi : idx known x.2.1 = some w := by rw [hIn]; exact A5 hw
  have hp : ∀ v, Bd x v (seen, ()) (known, ()) = some ((w.1, ()), (true, ())) := fun v => by unfold Bd B0; simp only [Ae, Af, Ad, hk, show ((3 : Int) == (1 : Int)) = false from rfl, show ((3 : Int) == (2 : Int)) = false from rfl, show ((3 : Int) == (3 : Int)) = true from rfl, show ((3 : Int) == (4 : Int)) = false from rfl, show ((3 : Int) == (5 : Int)) = false from rfl, show ((3 : Int) == (6 : Int)) = false from rfl, show ((3 : Int) == (7 : Int)) = false from rfl, show ((3 : Int) == (8 : Int)) = false from rfl, show ((3 : Int) == (9 : Int)) = false from rfl, show ((3 : Int) == (10 : Int)) = false from rfl, Ax, Al, eq_true hI, decide_true, hwi, Ag]
  have hI2 : (x.2.1 ≥ (known.length : Int)) = False := eq_false (by omega)
  have c7 : (w.1.length ≤ 4294967296) = True := eq_true (hknown w (List.mem_of_getElem? hw))
  simp only [hp, hk, show ((3 : Int) == (1 : Int)) = false from rfl, show ((3 : Int) == (2 : Int)) = false from rfl, show ((3 : Int) == (3 : Int)) = true from rfl, show ((3 : Int) == (4 : Int)) = false from rfl, show ((3 : Int) == (5 : Int)) = false from rfl, show ((3 : Int) == (6 : Int)) = false from rfl, show ((3 : Int) == (7 : Int)) = false from rfl, show ((3 : Int) == (8 : Int)) = false from rfl, show ((3 : Int) == (9 : Int)) = false from rfl, show ((3 : Int) == (10 : Int)) = false from rfl, Ax, Al, Ag, Bool.not_true, hI2, hwi, decide_false, List.length_nil, Nat.zero_add, List.nil_append, List.length_cons, e1, e3, c1, c3, c5, c6, c7, decide_true, A0]
  exact fin st w.1 hst hb
 ·
  have hop : B5 (x.1, ()) = some ((1 : Int), ()) := by rw [hk]; rfl
  have hop2 : Cg (x.1, ()) = some ((1 : Int), ()) := by rw [hk]; rfl
  simp only [hop, hop2, Ag]
  by_cases hn : (st.length : Int) < 1
  case pos =>
   have hn2 : (IntKind.i64.wrap ((st.length : Int) - 1) < 0) = True := eq_true (by rw [w64 (by omega)]; omega)
   simp only [hn2, eq_true hn, decide_true, Ax]
   exact nope
  obtain ⟨pre, a, hs⟩ := Xl st (by omega)
  subst hs
  have hpl : pre.length + 1 ≤ 8 := by simpa using hst
  have hpb : ∀ y ∈ pre, y.1.length ≤ 200 := fun y hy => hb y (List.mem_append.2 (.inl hy))
  have hla : a.length ≤ 200 := hb (a, ()) (by simp)
  have e1 : IntKind.i64.wrap (((pre ++ [(a, ())]).length : Int) - 1) = (pre.length : Int) := by rw [w64 (by simp; omega)]; simp only [List.length_append, List.length_cons, List.length_nil]; omega
  have e2 : ((pre ++ [(a, ())]).take (((pre ++ [(a, ())]).length : Int)).toNat).drop ((pre.length : Int)).toNat = [(a, ())] := by rw [Int.toNat_natCast, Int.toNat_natCast, List.take_length, List.drop_left]
  have e3 : ((pre ++ [(a, ())]).take ((pre.length : Int)).toNat).drop (0 : Int).toNat = pre := by simp
  have c1 : ((0 : Int) ≤ (pre.length : Int)) = True := eq_true (by omega)
  have c2 : ((pre.length : Int) < 0) = False := eq_false (by omega)
  have c3 : ((pre.length : Int) ≤ ((pre ++ [(a, ())]).length : Int)) = True := eq_true (by simp; omega)
  have c4 : (((pre ++ [(a, ())]).length : Int) ≤ ((pre ++ [(a, ())]).length : Int)) = True := eq_true (Int.le_refl _)
  have c5 : (pre.length ≤ 4294967296) = True := eq_true (by omega)
  have c6 : (pre.length + 1 ≤ 4294967296) = True := eq_true (by omega)
  have i0 : idx (pre ++ [(a, ())]) (pre.length : Int) = some (a, ()) := A5 (by simp)
  simp only [e1, e2, e3, c2, eq_false hn, decide_false, Al]
  have hc1 := Au4 a x.2.1 x.2.2.1 (by omega)
  have hc2 := Axc a x.2.1 x.2.2.1 (by omega)
  by_cases hc : 0 ≤ x.2.1 ∧ 0 ≤ x.2.2.1 ∧ x.2.1 + x.2.2.1 ≤ a.length
  ·rw [if_pos hc] at hc1 hc2
   have hp : Bd x ([(a, ())], ()) (seen, ()) (known, ()) = some (((a.drop x.2.1.toNat).take x.2.2.1.toNat, ()), (true, ())) := by
    unfold Bd B0
    simp only [Ae, Af, Ad, hk, show ((4 : Int) == (1 : Int)) = false from rfl, show ((4 : Int) == (2 : Int)) = false from rfl, show ((4 : Int) == (3 : Int)) = false from rfl, show ((4 : Int) == (4 : Int)) = true from rfl, show ((4 : Int) == (5 : Int)) = false from rfl, show ((4 : Int) == (6 : Int)) = false from rfl, show ((4 : Int) == (7 : Int)) = false from rfl, show ((4 : Int) == (8 : Int)) = false from rfl, show ((4 : Int) == (9 : Int)) = false from rfl, show ((4 : Int) == (10 : Int)) = false from rfl, Ax, Al, show idx [(a, ())] (0 : Int) = some (a, ()) from rfl, Ag, hc1]
   simp only [hp, hk, show ((4 : Int) == (1 : Int)) = false from rfl, show ((4 : Int) == (2 : Int)) = false from rfl, show ((4 : Int) == (3 : Int)) = false from rfl, show ((4 : Int) == (4 : Int)) = true from rfl, show ((4 : Int) == (5 : Int)) = false from rfl, show ((4 : Int) == (6 : Int)) = false from rfl, show ((4 : Int) == (7 : Int)) = false from rfl, show ((4 : Int) == (8 : Int)) = false from rfl, show ((4 : Int) == (9 : Int)) = false from rfl, show ((4 : Int) == (10 : Int)) = false from rfl, Ax, Al, Ag, Bool.not_true, List.length_nil, Nat.zero_add, List.nil_append, List.length_cons, e0, e1, e2, e3, c1, c3, c4, c5, c6, i0, decide_true, A0, hc2]
   exact fin pre ((a.drop x.2.1.toNat).take x.2.2.1.toNat) (by omega) hpb
  ·rw [if_neg hc] at hc1 hc2
   have hp : Bd x ([(a, ())], ()) (seen, ()) (known, ()) = some (([], ()), (false, ())) := by
    unfold Bd B0
    simp only [Ae, Af, Ad, hk, show ((4 : Int) == (1 : Int)) = false from rfl, show ((4 : Int) == (2 : Int)) = false from rfl, show ((4 : Int) == (3 : Int)) = false from rfl, show ((4 : Int) == (4 : Int)) = true from rfl, show ((4 : Int) == (5 : Int)) = false from rfl, show ((4 : Int) == (6 : Int)) = false from rfl, show ((4 : Int) == (7 : Int)) = false from rfl, show ((4 : Int) == (8 : Int)) = false from rfl, show ((4 : Int) == (9 : Int)) = false from rfl, show ((4 : Int) == (10 : Int)) = false from rfl, Ax, Al, show idx [(a, ())] (0 : Int) = some (a, ()) from rfl, Ag, hc1]
   simp only [hp, hk, show ((4 : Int) == (1 : Int)) = false from rfl, show ((4 : Int) == (2 : Int)) = false from rfl, show ((4 : Int) == (3 : Int)) = false from rfl, show ((4 : Int) == (4 : Int)) = true from rfl, show ((4 : Int) == (5 : Int)) = false from rfl, show ((4 : Int) == (6 : Int)) = false from rfl, show ((4 : Int) == (7 : Int)) = false from rfl, show ((4 : Int) == (8 : Int)) = false from rfl, show ((4 : Int) == (9 : Int)) = false from rfl, show ((4 : Int) == (10 : Int)) = false from rfl, Ax, Al, Ag, Bool.not_false, e0, e1, e2, e3, c1, c3, c4, c5, c6, i0, decide_true, A0, hc2]
   exact nope
 ·
  have hop : B5 (x.1, ()) = some ((2 : Int), ()) := by rw [hk]; rfl
  have hop2 : Cg (x.1, ()) = some ((2 : Int), ()) := by rw [hk]; rfl
  simp only [hop, hop2, Ag]
  by_cases hn : (st.length : Int) < 2
  case pos =>
   have hn2 : (IntKind.i64.wrap ((st.length : Int) - 2) < 0) = True := eq_true (by rw [w64 (by omega)]; omega)
   simp only [hn2, eq_true hn, decide_true, Ax]
   exact nope
  obtain ⟨pre, a, b, hs⟩ := Xm st (by omega)
  subst hs
  have hpl : pre.length + 2 ≤ 8 := by simpa using hst
  have hpb : ∀ y ∈ pre, y.1.length ≤ 200 := fun y hy => hb y (List.mem_append.2 (.inl hy))
  have hla : a.length ≤ 200 := hb (a, ()) (by simp)
  have hlb : b.length ≤ 200 := hb (b, ()) (by simp)
  have e1 : IntKind.i64.wrap (((pre ++ [(a, ()), (b, ())]).length : Int) - 2) = (pre.length : Int) := by rw [w64 (by simp; omega)]; simp only [List.length_append, List.length_cons, List.length_nil]; omega
  have e2 : ((pre ++ [(a, ()), (b, ())]).take (((pre ++ [(a, ()), (b, ())]).length : Int)).toNat).drop ((pre.length : Int)).toNat = [(a, ()), (b, ())] := by rw [Int.toNat_natCast, Int.toNat_natCast, List.take_length, List.drop_left]
  have e3 : ((pre ++ [(a, ()), (b, ())]).take ((pre.length : Int)).toNat).drop (0 : Int).toNat = pre := by simp
  have c1 : ((0 : Int) ≤ (pre.length : Int)) = True := eq_true (by omega)
  have c2 : ((pre.length : Int) < 0) = False := eq_false (by omega)
  have c3 : ((pre.length : Int) ≤ ((pre ++ [(a, ()), (b, ())]).length : Int)) = True := eq_true (by simp; omega)
  have c4 : (((pre ++ [(a, ()), (b, ())]).length : Int) ≤ ((pre ++ [(a, ()), (b, ())]).length : Int)) = True := eq_true (Int.le_refl _)
  have c5 : (pre.length ≤ 4294967296) = True := eq_true (by omega)
  have c6 : (pre.length + 1 ≤ 4294967296) = True := eq_true (by omega)
  have i0 : idx (pre ++ [(a, ()), (b, ())]) (pre.length : Int) = some (a, ()) := A5 (by simp)
  have i1 : idx (pre ++ [(a, ()), (b, ())]) (IntKind.i64.wrap ((pre.length : Int) + 1)) = some (b, ()) := by rw [w64 (by omega)]; exact A5 (i := pre.length + 1) (by simp)
  simp only [e1, e2, e3, c2, eq_false hn, decide_false, Al]
  have hcat : cat [(a, ()), (b, ())] = a ++ b := by simp [cat]
  have hj := Jm [(a, ()), (b, ())] (by rw [hcat]; simp; omega) (by simp)
  rw [hcat] at hj
  have hp : Bd x ([(a, ()), (b, ())], ()) (seen, ()) (known, ()) = some ((a ++ b, ()), (true, ())) := by
   unfold Bd B0
   simp only [Ae, Af, Ad, hk, show ((5 : Int) == (1 : Int)) = false from rfl, show ((5 : Int) == (2 : Int)) = false from rfl, show ((5 : Int) == (3 : Int)) = false from rfl, show ((5 : Int) == (4 : Int)) = false from rfl, show ((5 : Int) == (5 : Int)) = true from rfl, show ((5 : Int) == (6 : Int)) = false from rfl, show ((5 : Int) == (7 : Int)) = false from rfl, show ((5 : Int) == (8 : Int)) = false from rfl, show ((5 : Int) == (9 : Int)) = false from rfl, show ((5 : Int) == (10 : Int)) = false from rfl, Ax, Al, show idx [(a, ()), (b, ())] (0 : Int) = some (a, ()) from rfl, show idx [(a, ()), (b, ())] (1 : Int) = some (b, ()) from rfl, Ag, hj]
  have c7 : (a.length ≤ 4294967296) = True := eq_true (by omega)
  have c8 : (a.length + b.length ≤ 4294967296) = True := eq_true (by omega)
  simp only [hp, hk, show ((5 : Int) == (1 : Int)) = false from rfl, show ((5 : Int) == (2 : Int)) = false from rfl, show ((5 : Int) == (3 : Int)) = false from rfl, show ((5 : Int) == (4 : Int)) = false from rfl, show ((5 : Int) == (5 : Int)) = true from rfl, show ((5 : Int) == (6 : Int)) = false from rfl, show ((5 : Int) == (7 : Int)) = false from rfl, show ((5 : Int) == (8 : Int)) = false from rfl, show ((5 : Int) == (9 : Int)) = false from rfl, show ((5 : Int) == (10 : Int)) = false from rfl, Ax, Al, Ag, Bool.not_true, List.length_nil, Nat.zero_add, List.nil_append, List.length_cons, e0, e1, e2, e3, c1, c3, c4, c5, c6, i0, i1, decide_true, A0, c7, c8]
  exact fin pre (a ++ b) (by omega) hpb
 ·
  have hop : B5 (x.1, ()) = some ((2 : Int), ()) := by rw [hk]; rfl
  have hop2 : Cg (x.1, ()) = some ((2 : Int), ()) := by rw [hk]; rfl
  simp only [hop, hop2, Ag]
  by_cases hn : (st.length : Int) < 2
  case pos =>
   have hn2 : (IntKind.i64.wrap ((st.length : Int) - 2) < 0) = True := eq_true (by rw [w64 (by omega)]; omega)
   simp only [hn2, eq_true hn, decide_true, Ax]
   exact nope
  obtain ⟨pre, a, b, hs⟩ := Xm st (by omega)
  subst hs
  have hpl : pre.length + 2 ≤ 8 := by simpa using hst
  have hpb : ∀ y ∈ pre, y.1.length ≤ 200 := fun y hy => hb y (List.mem_append.2 (.inl hy))
  have hla : a.length ≤ 200 := hb (a, ()) (by simp)
  have hlb : b.length ≤ 200 := hb (b, ()) (by simp)
  have e1 : IntKind.i64.wrap (((pre ++ [(a, ()), (b, ())]).length : Int) - 2) = (pre.length : Int) := by rw [w64 (by simp; omega)]; simp only [List.length_append, List.length_cons, List.length_nil]; omega
  have e2 : ((pre ++ [(a, ()), (b, ())]).take (((pre ++ [(a, ()), (b, ())]).length : Int)).toNat).drop ((pre.length : Int)).toNat = [(a, ()), (b, ())] := by rw [Int.toNat_natCast, Int.toNat_natCast, List.take_length, List.drop_left]
  have e3 : ((pre ++ [(a, ()), (b, ())]).take ((pre.length : Int)).toNat).drop (0 : Int).toNat = pre := by simp
  have c1 : ((0 : Int) ≤ (pre.length : Int)) = True := eq_true (by omega)
  have c2 : ((pre.length : Int) < 0) = False := eq_false (by omega)
  have c3 : ((pre.length : Int) ≤ ((pre ++ [(a, ()), (b, ())]).length : Int)) = True := eq_true (by simp; omega)
  have c4 : (((pre ++ [(a, ()), (b, ())]).length : Int) ≤ ((pre ++ [(a, ()), (b, ())]).length : Int)) = True := eq_true (Int.le_refl _)
  have c5 : (pre.length ≤ 4294967296) = True := eq_true (by omega)
  have c6 : (pre.length + 1 ≤ 4294967296) = True := eq_true (by omega)
  have i0 : idx (pre ++ [(a, ()), (b, ())]) (pre.length : Int) = some (a, ()) := A5 (by simp)
  have i1 : idx (pre ++ [(a, ()), (b, ())]) (IntKind.i64.wrap ((pre.length : Int) + 1)) = some (b, ()) := by rw [w64 (by omega)]; exact A5 (i := pre.length + 1) (by simp)
  simp only [e1, e2, e3, c2, eq_false hn, decide_false, Al]
  by_cases hab : a.length = b.length
  ·have hab2 : ((a.length : Int) == (b.length : Int)) = true := by simp [hab]
   have hx := Avp a b hab (by omega)
   have hp : Bd x ([(a, ()), (b, ())], ()) (seen, ()) (known, ()) = some ((Kq a b, ()), (true, ())) := by
    unfold Bd B0
    simp only [Ae, Af, Ad, hk, show ((6 : Int) == (1 : Int)) = false from rfl, show ((6 : Int) == (2 : Int)) = false from rfl, show ((6 : Int) == (3 : Int)) = false from rfl, show ((6 : Int) == (4 : Int)) = false from rfl, show ((6 : Int) == (5 : Int)) = false from rfl, show ((6 : Int) == (6 : Int)) = true from rfl, show ((6 : Int) == (7 : Int)) = false from rfl, show ((6 : Int) == (8 : Int)) = false from rfl, show ((6 : Int) == (9 : Int)) = false from rfl, show ((6 : Int) == (10 : Int)) = false from rfl, Ax, Al, show idx [(a, ()), (b, ())] (0 : Int) = some (a, ()) from rfl, show idx [(a, ()), (b, ())] (1 : Int) = some (b, ()) from rfl, Ag, hab2, hx]
   have hl := Asm l seen known (pre ++ [(a, ()), (b, ())]) i (pre.length : Int) a b hab (by omega) i0 i1
   have hab3 : ((a.length : Int) != (b.length : Int)) = false := by unfold bne; rw [hab2]; rfl
   simp only [hp, hk, show ((6 : Int) == (1 : Int)) = false from rfl, show ((6 : Int) == (2 : Int)) = false from rfl, show ((6 : Int) == (3 : Int)) = false from rfl, show ((6 : Int) == (4 : Int)) = false from rfl, show ((6 : Int) == (5 : Int)) = false from rfl, show ((6 : Int) == (6 : Int)) = true from rfl, show ((6 : Int) == (7 : Int)) = false from rfl, show ((6 : Int) == (8 : Int)) = false from rfl, show ((6 : Int) == (9 : Int)) = false from rfl, show ((6 : Int) == (10 : Int)) = false from rfl, Ax, Al, Ag, Bool.not_true, List.length_nil, Nat.zero_add, List.nil_append, List.length_cons, e0, e1, e2, e3, c1, c3, c4, c5, c6, i0, i1, decide_true, A0, hab3, hl]
   exact fin pre (Kq a b) (by omega) hpb
  ·have hab2 : ((a.length : Int) == (b.length : Int)) = false := by simp; omega
   have hab3 : ((a.length : Int) != (b.length : Int)) = true := by unfold bne; rw [hab2]; rfl
   have hp : Bd x ([(a, ()), (b, ())], ()) (seen, ()) (known, ()) = some (([], ()), (false, ())) := by
    unfold Bd B0
    simp only [Ae, Af, Ad, hk, show ((6 : Int) == (1 : Int)) = false from rfl, show ((6 : Int) == (2 : Int)) = false from rfl, show ((6 : Int) == (3 : Int)) = false from rfl, show ((6 : Int) == (4 : Int)) = false from rfl, show ((6 : Int) == (5 : Int)) = false from rfl, show ((6 : Int) == (6 : Int)) = true from rfl, show ((6 : Int) == (7 : Int)) = false from rfl, show ((6 : Int) == (8 : Int)) = false from rfl, show ((6 : Int) == (9 : Int)) = false from rfl, show ((6 : Int) == (10 : Int)) = false from rfl, Ax, Al, show idx [(a, ()), (b, ())] (0 : Int) = some (a, ()) from rfl, show idx [(a, ()), (b, ())] (1 : Int) = some (b, ()) from rfl, Ag, hab2]
   simp only [hp, hk, show ((6 : Int) == (1 : Int)) = false from rfl, show ((6 : Int) == (2 : Int)) = false from rfl, show ((6 : Int) == (3 : Int)) = false from rfl, show ((6 : Int) == (4 : Int)) = false from rfl, show ((6 : Int) == (5 : Int)) = false from rfl, show ((6 : Int) == (6 : Int)) = true from rfl, show ((6 : Int) == (7 : Int)) = false from rfl, show ((6 : Int) == (8 : Int)) = false from rfl, show ((6 : Int) == (9 : Int)) = false from rfl, show ((6 : Int) == (10 : Int)) = false from rfl, Ax, Al, Ag, Bool.not_false, e0, e1, e2, e3, c1, c3, c4, c5, c6, i0, i1, decide_true, A0, hab3]
   exact nope
 ·
  have hop : B5 (x.1, ()) = some ((2 : Int), ()) := by rw [hk]; rfl
  have hop2 : Cg (x.1, ()) = some ((2 : Int), ()) := by rw [hk]; rfl
  simp only [hop, hop2, Ag]
  by_cases hn : (st.length : Int) < 2
  case pos =>
   have hn2 : (IntKind.i64.wrap ((st.length : Int) - 2) < 0) = True := eq_true (by rw [w64 (by omega)]; omega)
   simp only [hn2, eq_true hn, decide_true, Ax]
   exact nope
  obtain ⟨pre, a, b, hs⟩ := Xm st (by omega)
  subst hs
  have hpl : pre.length + 2 ≤ 8 := by simpa using hst
  have hpb : ∀ y ∈ pre, y.1.length ≤ 200 := fun y hy => hb y (List.mem_append.2 (.inl hy))
  have hla : a.length ≤ 200 := hb (a, ()) (by simp)
  have hlb : b.length ≤ 200 := hb (b, ()) (by simp)
  have e1 : IntKind.i64.wrap (((pre ++ [(a, ()), (b, ())]).length : Int) - 2) = (pre.length : Int) := by rw [w64 (by simp; omega)]; simp only [List.length_append, List.length_cons, List.length_nil]; omega
  have e2 : ((pre ++ [(a, ()), (b, ())]).take (((pre ++ [(a, ()), (b, ())]).length : Int)).toNat).drop ((pre.length : Int)).toNat = [(a, ()), (b, ())] := by rw [Int.toNat_natCast, Int.toNat_natCast, List.take_length, List.drop_left]
  have e3 : ((pre ++ [(a, ()), (b, ())]).take ((pre.length : Int)).toNat).drop (0 : Int).toNat = pre := by simp
  have c1 : ((0 : Int) ≤ (pre.length : Int)) = True := eq_true (by omega)
  have c2 : ((pre.length : Int) < 0) = False := eq_false (by omega)
  have c3 : ((pre.length : Int) ≤ ((pre ++ [(a, ()), (b, ())]).length : Int)) = True := eq_true (by simp; omega)
  have c4 : (((pre ++ [(a, ()), (b, ())]).length : Int) ≤ ((pre ++ [(a, ()), (b, ())]).length : Int)) = True := eq_true (Int.le_refl _)
  have c5 : (pre.length ≤ 4294967296) = True := eq_true (by omega)
  have c6 : (pre.length + 1 ≤ 4294967296) = True := eq_true (by omega)
  have i0 : idx (pre ++ [(a, ()), (b, ())]) (pre.length : Int) = some (a, ()) := A5 (by simp)
  have i1 : idx (pre ++ [(a, ()), (b, ())]) (IntKind.i64.wrap ((pre.length : Int) + 1)) = some (b, ()) := by rw [w64 (by omega)]; exact A5 (i := pre.length + 1) (by simp)
  simp only [e1, e2, e3, c2, eq_false hn, decide_false, Al]
  have hp : Bd x ([(a, ()), (b, ())], ()) (seen, ()) (known, ()) = some ((Do a b, ()), (true, ())) := by
   unfold Bd B0
   simp only [Ae, Af, Ad, hk, show ((7 : Int) == (1 : Int)) = false from rfl, show ((7 : Int) == (2 : Int)) = false from rfl, show ((7 : Int) == (3 : Int)) = false from rfl, show ((7 : Int) == (4 : Int)) = false from rfl, show ((7 : Int) == (5 : Int)) = false from rfl, show ((7 : Int) == (6 : Int)) = false from rfl, show ((7 : Int) == (7 : Int)) = true from rfl, show ((7 : Int) == (8 : Int)) = false from rfl, show ((7 : Int) == (9 : Int)) = false from rfl, show ((7 : Int) == (10 : Int)) = false from rfl, Ax, Al, show idx [(a, ()), (b, ())] (0 : Int) = some (a, ()) from rfl, show idx [(a, ()), (b, ())] (1 : Int) = some (b, ()) from rfl, Ag, Afe]
  simp only [hp, hk, show ((7 : Int) == (1 : Int)) = false from rfl, show ((7 : Int) == (2 : Int)) = false from rfl, show ((7 : Int) == (3 : Int)) = false from rfl, show ((7 : Int) == (4 : Int)) = false from rfl, show ((7 : Int) == (5 : Int)) = false from rfl, show ((7 : Int) == (6 : Int)) = false from rfl, show ((7 : Int) == (7 : Int)) = true from rfl, show ((7 : Int) == (8 : Int)) = false from rfl, show ((7 : Int) == (9 : Int)) = false from rfl, show ((7 : Int) == (10 : Int)) = false from rfl, Ax, Al, Ag, Bool.not_true, List.length_nil, Nat.zero_add, List.nil_append, List.length_cons, e0, e1, e2, e3, c1, c3, c4, c5, c6, i0, i1, decide_true, A0, Aff]
  exact fin pre (Do a b) (by omega) hpb
 ·
  have hop : B5 (x.1, ()) = some ((2 : Int), ()) := by rw [hk]; rfl
  have hop2 : Cg (x.1, ()) = some ((2 : Int), ()) := by rw [hk]; rfl
  simp only [hop, hop2, Ag]
  by_cases hn : (st.length : Int) < 2
  case pos =>
   have hn2 : (IntKind.i64.wrap ((st.length : Int) - 2) < 0) = True := eq_true (by rw [w64 (by omega)]; omega)
   simp only [hn2, eq_true hn, decide_true, Ax]
   exact nope
  obtain ⟨pre, a, b, hs⟩ := Xm st (by omega)
  subst hs
  have hpl : pre.length + 2 ≤ 8 := by simpa using hst
  have hpb : ∀ y ∈ pre, y.1.length ≤ 200 := fun y hy => hb y (List.mem_append.2 (.inl hy))
  have hla : a.length ≤ 200 := hb (a, ()) (by simp)
  have hlb : b.length ≤ 200 := hb (b, ()) (by simp)
  have e1 : IntKind.i64.wrap (((pre ++ [(a, ()), (b, ())]).length : Int) - 2) = (pre.length : Int) := by rw [w64 (by simp; omega)]; simp only [List.length_append, List.length_cons, List.length_nil]; omega
  have e2 : ((pre ++ [(a, ()), (b, ())]).take (((pre ++ [(a, ()), (b, ())]).length : Int)).toNat).drop ((pre.length : Int)).toNat = [(a, ()), (b, ())] := by rw [Int.toNat_natCast, Int.toNat_natCast, List.take_length, List.drop_left]
  have e3 : ((pre ++ [(a, ()), (b, ())]).take ((pre.length : Int)).toNat).drop (0 : Int).toNat = pre := by simp
  have c1 : ((0 : Int) ≤ (pre.length : Int)) = True := eq_true (by omega)
  have c2 : ((pre.length : Int) < 0) = False := eq_false (by omega)
  have c3 : ((pre.length : Int) ≤ ((pre ++ [(a, ()), (b, ())]).length : Int)) = True := eq_true (by simp; omega)
  have c4 : (((pre ++ [(a, ()), (b, ())]).length : Int) ≤ ((pre ++ [(a, ()), (b, ())]).length : Int)) = True := eq_true (Int.le_refl _)
  have c5 : (pre.length ≤ 4294967296) = True := eq_true (by omega)
  have c6 : (pre.length + 1 ≤ 4294967296) = True := eq_true (by omega)
  have i0 : idx (pre ++ [(a, ()), (b, ())]) (pre.length : Int) = some (a, ()) := A5 (by simp)
  have i1 : idx (pre ++ [(a, ()), (b, ())]) (IntKind.i64.wrap ((pre.length : Int) + 1)) = some (b, ()) := by rw [w64 (by omega)]; exact A5 (i := pre.length + 1) (by simp)
  simp only [e1, e2, e3, c2, eq_false hn, decide_false, Al]
  have hp : Bd x ([(a, ()), (b, ())], ()) (seen, ()) (known, ()) = some ((Ahl a b, ()), (true, ())) := by
   unfold Bd B0
   simp only [Ae, Af, Ad, hk, show ((8 : Int) == (1 : Int)) = false from rfl, show ((8 : Int) == (2 : Int)) = false from rfl, show ((8 : Int) == (3 : Int)) = false from rfl, show ((8 : Int) == (4 : Int)) = false from rfl, show ((8 : Int) == (5 : Int)) = false from rfl, show ((8 : Int) == (6 : Int)) = false from rfl, show ((8 : Int) == (7 : Int)) = false from rfl, show ((8 : Int) == (8 : Int)) = true from rfl, show ((8 : Int) == (9 : Int)) = false from rfl, show ((8 : Int) == (10 : Int)) = false from rfl, Ax, Al, show idx [(a, ()), (b, ())] (0 : Int) = some (a, ()) from rfl, show idx [(a, ()), (b, ())] (1 : Int) = some (b, ()) from rfl, Ag, Aw8]
  simp only [hp, hk, show ((8 : Int) == (1 : Int)) = false from rfl, show ((8 : Int) == (2 : Int)) = false from rfl, show ((8 : Int) == (3 : Int)) = false from rfl, show ((8 : Int) == (4 : Int)) = false from rfl, show ((8 : Int) == (5 : Int)) = false from rfl, show ((8 : Int) == (6 : Int)) = false from rfl, show ((8 : Int) == (7 : Int)) = false from rfl, show ((8 : Int) == (8 : Int)) = true from rfl, show ((8 : Int) == (9 : Int)) = false from rfl, show ((8 : Int) == (10 : Int)) = false from rfl, Ax, Al, Ag, Bool.not_true, List.length_nil, Nat.zero_add, List.nil_append, List.length_cons, e0, e1, e2, e3, c1, c3, c4, c5, c6, i0, i1, decide_true, A0, Aw9]
  exact fin pre (Ahl a b) (by omega) hpb
 ·
  have hop : B5 (x.1, ()) = some ((1 : Int), ()) := by rw [hk]; rfl
  have hop2 : Cg (x.1, ()) = some ((1 : Int), ()) := by rw [hk]; rfl
  simp only [hop, hop2, Ag]
  by_cases hn : (st.length : Int) < 1
  case pos =>
   have hn2 : (IntKind.i64.wrap ((st.length : Int) - 1) < 0) = True := eq_true (by rw [w64 (by omega)]; omega)
   simp only [hn2, eq_true hn, decide_true, Ax]
   exact nope
  obtain ⟨pre, a, hs⟩ := Xl st (by omega)
  subst hs
  have hpl : pre.length + 1 ≤ 8 := by simpa using hst
  have hpb : ∀ y ∈ pre, y.1.length ≤ 200 := fun y hy => hb y (List.mem_append.2 (.inl hy))
  have hla : a.length ≤ 200 := hb (a, ()) (by simp)
  have e1 : IntKind.i64.wrap (((pre ++ [(a, ())]).length : Int) - 1) = (pre.length : Int) := by rw [w64 (by simp; omega)]; simp only [List.length_append, List.length_cons, List.length_nil]; omega
  have e2 : ((pre ++ [(a, ())]).take (((pre ++ [(a, ())]).length : Int)).toNat).drop ((pre.length : Int)).toNat = [(a, ())] := by rw [Int.toNat_natCast, Int.toNat_natCast, List.take_length, List.drop_left]
  have e3 : ((pre ++ [(a, ())]).take ((pre.length : Int)).toNat).drop (0 : Int).toNat = pre := by simp
  have c1 : ((0 : Int) ≤ (pre.length : Int)) = True := eq_true (by omega)
  have c2 : ((pre.length : Int) < 0) = False := eq_false (by omega)
  have c3 : ((pre.length : Int) ≤ ((pre ++ [(a, ())]).length : Int)) = True := eq_true (by simp; omega)
  have c4 : (((pre ++ [(a, ())]).length : Int) ≤ ((pre ++ [(a, ())]).length : Int)) = True := eq_true (Int.le_refl _)
  have c5 : (pre.length ≤ 4294967296) = True := eq_true (by omega)
  have c6 : (pre.length + 1 ≤ 4294967296) = True := eq_true (by omega)
  have i0 : idx (pre ++ [(a, ())]) (pre.length : Int) = some (a, ()) := A5 (by simp)
  simp only [e1, e2, e3, c2, eq_false hn, decide_false, Al]
  have hp : Bd x ([(a, ())], ()) (seen, ()) (known, ()) = some ((Sf a Afh, ()), (true, ())) := by
   unfold Bd B0
   simp only [Ae, Af, Ad, hk, show ((9 : Int) == (1 : Int)) = false from rfl, show ((9 : Int) == (2 : Int)) = false from rfl, show ((9 : Int) == (3 : Int)) = false from rfl, show ((9 : Int) == (4 : Int)) = false from rfl, show ((9 : Int) == (5 : Int)) = false from rfl, show ((9 : Int) == (6 : Int)) = false from rfl, show ((9 : Int) == (7 : Int)) = false from rfl, show ((9 : Int) == (8 : Int)) = false from rfl, show ((9 : Int) == (9 : Int)) = true from rfl, show ((9 : Int) == (10 : Int)) = false from rfl, Ax, Al, show idx [(a, ())] (0 : Int) = some (a, ()) from rfl, Ag, Ask]
  simp only [hp, hk, show ((9 : Int) == (1 : Int)) = false from rfl, show ((9 : Int) == (2 : Int)) = false from rfl, show ((9 : Int) == (3 : Int)) = false from rfl, show ((9 : Int) == (4 : Int)) = false from rfl, show ((9 : Int) == (5 : Int)) = false from rfl, show ((9 : Int) == (6 : Int)) = false from rfl, show ((9 : Int) == (7 : Int)) = false from rfl, show ((9 : Int) == (8 : Int)) = false from rfl, show ((9 : Int) == (9 : Int)) = true from rfl, show ((9 : Int) == (10 : Int)) = false from rfl, Ax, Al, Ag, Bool.not_true, List.length_nil, Nat.zero_add, List.nil_append, List.length_cons, e0, e1, e2, e3, c1, c3, c4, c5, c6, i0, decide_true, A0, Asl]
  exact fin pre (Sf a Afh) (by omega) hpb
 ·
  have hop : B5 (x.1, ()) = some ((3 : Int), ()) := by rw [hk]; rfl
  have hop2 : Cg (x.1, ()) = some ((3 : Int), ()) := by rw [hk]; rfl
  simp only [hop, hop2, Ag]
  by_cases hn : (st.length : Int) < 3
  case pos =>
   have hn2 : (IntKind.i64.wrap ((st.length : Int) - 3) < 0) = True := eq_true (by rw [w64 (by omega)]; omega)
   simp only [hn2, eq_true hn, decide_true, Ax]
   exact nope
  obtain ⟨pre, a, b, c, hs⟩ := Awj st (by omega)
  subst hs
  have hpl : pre.length + 3 ≤ 8 := by simpa using hst
  have hpb : ∀ y ∈ pre, y.1.length ≤ 200 := fun y hy => hb y (List.mem_append.2 (.inl hy))
  have hla : a.length ≤ 200 := hb (a, ()) (by simp)
  have hlb : b.length ≤ 200 := hb (b, ()) (by simp)
  have hlc : c.length ≤ 200 := hb (c, ()) (by simp)
  have e1 : IntKind.i64.wrap (((pre ++ [(a, ()), (b, ()), (c, ())]).length : Int) - 3) = (pre.length : Int) := by rw [w64 (by simp; omega)]; simp only [List.length_append, List.length_cons, List.length_nil]; omega
  have e2 : ((pre ++ [(a, ()), (b, ()), (c, ())]).take (((pre ++ [(a, ()), (b, ()), (c, ())]).length : Int)).toNat).drop ((pre.length : Int)).toNat = [(a, ()), (b, ()), (c, ())] := by rw [Int.toNat_natCast, Int.toNat_natCast, List.take_length, List.drop_left]
  have e3 : ((pre ++ [(a, ()), (b, ()), (c, ())]).take ((pre.length : Int)).toNat).drop (0 : Int).toNat = pre := by simp
  have c1 : ((0 : Int) ≤ (pre.length : Int)) = True := eq_true (by omega)
  have c2 : ((pre.length : Int) < 0) = False := eq_false (by omega)
  have c3 : ((pre.length : Int) ≤ ((pre ++ [(a, ()), (b, ()), (c, ())]).length : Int)) = True := eq_true (by simp; omega)
  have c4 : (((pre ++ [(a, ()), (b, ()), (c, ())]).length : Int) ≤ ((pre ++ [(a, ()), (b, ()), (c, ())]).length : Int)) = True := eq_true (Int.le_refl _)
  have c5 : (pre.length ≤ 4294967296) = True := eq_true (by omega)
  have c6 : (pre.length + 1 ≤ 4294967296) = True := eq_true (by omega)
  have i0 : idx (pre ++ [(a, ()), (b, ()), (c, ())]) (pre.length : Int) = some (a, ()) := A5 (by simp)
  have i1 : idx (pre ++ [(a, ()), (b, ()), (c, ())]) (IntKind.i64.wrap ((pre.length : Int) + 1)) = some (b, ()) := by rw [w64 (by omega)]; exact A5 (i := pre.length + 1) (by simp)
  have i2 : idx (pre ++ [(a, ()), (b, ()), (c, ())]) (IntKind.i64.wrap ((pre.length : Int) + 2)) = some (c, ()) := by rw [w64 (by omega)]; exact A5 (i := pre.length + 2) (by simp)
  simp only [e1, e2, e3, c2, eq_false hn, decide_false, Al]
  have hp : Bd x ([(a, ()), (b, ()), (c, ())], ()) (seen, ()) (known, ()) = some ((mix a b c, ()), (true, ())) := by
   unfold Bd B0
   simp only [Ae, Af, Ad, hk, show ((10 : Int) == (1 : Int)) = false from rfl, show ((10 : Int) == (2 : Int)) = false from rfl, show ((10 : Int) == (3 : Int)) = false from rfl, show ((10 : Int) == (4 : Int)) = false from rfl, show ((10 : Int) == (5 : Int)) = false from rfl, show ((10 : Int) == (6 : Int)) = false from rfl, show ((10 : Int) == (7 : Int)) = false from rfl, show ((10 : Int) == (8 : Int)) = false from rfl, show ((10 : Int) == (9 : Int)) = false from rfl, show ((10 : Int) == (10 : Int)) = true from rfl, Ax, Al, show idx [(a, ()), (b, ()), (c, ())] (0 : Int) = some (a, ()) from rfl, show idx [(a, ()), (b, ()), (c, ())] (1 : Int) = some (b, ()) from rfl, show idx [(a, ()), (b, ()), (c, ())] (2 : Int) = some (c, ()) from rfl, Ag, Axa]
  simp only [hp, hk, show ((10 : Int) == (1 : Int)) = false from rfl, show ((10 : Int) == (2 : Int)) = false from rfl, show ((10 : Int) == (3 : Int)) = false from rfl, show ((10 : Int) == (4 : Int)) = false from rfl, show ((10 : Int) == (5 : Int)) = false from rfl, show ((10 : Int) == (6 : Int)) = false from rfl, show ((10 : Int) == (7 : Int)) = false from rfl, show ((10 : Int) == (8 : Int)) = false from rfl, show ((10 : Int) == (9 : Int)) = false from rfl, show ((10 : Int) == (10 : Int)) = true from rfl, Ax, Al, Ag, Bool.not_true, List.length_nil, Nat.zero_add, List.nil_append, List.length_cons, e0, e1, e2, e3, c1, c3, c4, c5, c6, i0, i1, i2, decide_true, A0, Axb]
  exact fin pre (mix a b c) (by omega) hpb
end
end Go.Proofs.Ytggdikabbngbaaa

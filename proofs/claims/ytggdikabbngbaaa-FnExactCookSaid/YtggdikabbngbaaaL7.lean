/-
  That the program and the reference answer alike, in plain terms, and that the laws answer true.
-/
import Derived.Test.YtggdikabbngbaaaL6
namespace Go.Proofs.Ytggdikabbngbaaa
open Go.RowKit
set_option linter.unusedVariables false
set_option linter.unusedSimpArgs false
set_option maxHeartbeats 4000000
noncomputable section
def m32 (x : Int) : Int := IntKind.i64.wrap ((BitVec.ofInt (IntKind.i64.bits) x &&& BitVec.ofInt (IntKind.i64.bits) (4294967295 : Int)).toNat : Nat)
theorem Xi (x : Int) : m32 x = x % 4294967296 := by
 have h : ((BitVec.ofInt (IntKind.i64.bits) x &&& BitVec.ofInt (IntKind.i64.bits) (4294967295 : Int)).toNat : Int) = x % 4294967296 := by
  show ((BitVec.ofInt 64 x &&& BitVec.ofInt 64 (4294967295 : Int)).toNat : Int) = x % 4294967296
  rw [BitVec.toNat_and, BitVec.toNat_ofInt, BitVec.toNat_ofInt]
  have e : ((4294967295 : Int) % ((2 ^ 64 : Nat) : Int)).toNat = 2 ^ 32 - 1 := by decide
  rw [e, Nat.and_two_pow_sub_one_eq_mod]
  have e2 : ((2 ^ 64 : Nat) : Int) = 18446744073709551616 := by decide
  rw [e2]
  omega
 unfold m32
 rw [h, w64 (by omega)]
theorem Aw2 (s : Int) : IntKind.i64.wrap s % 4294967296 = s % 4294967296 := by rw [IntKind.wrap_i64]; omega
theorem T4 (s : Int) : m32 (IntKind.i64.wrap s) = s % 4294967296 := by rw [Xi, Aw2]
theorem Aw3 (x : Int) : 0 ≤ m32 x ∧ m32 x ≤ 4294967295 := by rw [Xi]; omega
theorem Atu (d t : Int) : m32 (IntKind.i64.wrap (d + m32 t)) = m32 (IntKind.i64.wrap (d + t)) := by rw [T4, T4, Xi]; omega
theorem Atv (t u : Int) : m32 (IntKind.i64.wrap (m32 t + m32 u)) = m32 (IntKind.i64.wrap (t + u)) := by rw [T4, T4, Xi, Xi]; omega
def Aqh (x n : Int) : Int := m32 (IntKind.i64.wrap ((BitVec.ofInt (IntKind.i64.bits) (Int.fdiv (m32 x) (2 ^ (min n.toNat IntKind.i64.bits))) ||| BitVec.ofInt (IntKind.i64.bits) (IntKind.i64.wrap (m32 x * 2 ^ (min (IntKind.i64.wrap (32 - n)).toNat IntKind.i64.bits)))).toNat : Nat))
theorem Afc (x n : YI) (h1 : 1 ≤ n.1) (h2 : n.1 ≤ 31) : E7 x n = some (Aqh x.1 n.1, ()) := by
 unfold E7 Agg
 simp only [Ae, Ah, Ad]
 rw [A2 (by omega), A2 (by omega), Ak (by omega), w64 (n := 32 - n.1) (by omega), Ak (by omega)]
 simp only [Al, A0, Aqh]
 rw [w64 (n := 32 - n.1) (by omega)]
 rfl
theorem Afd (x n : YI) (h1 : 1 ≤ n.1) (h2 : n.1 ≤ 31) : E6 x n = some (Aqh x.1 n.1, ()) := by
 unfold E6 Agb
 simp only [Ae, Ah, Ad]
 rw [A2 (by omega), A2 (by omega), Ak (by omega), w64 (n := 32 - n.1) (by omega), Ak (by omega)]
 simp only [Al, A0, Aqh]
 rw [w64 (n := 32 - n.1) (by omega)]
 rfl
theorem Ao3 (a b : YI) : Pf a b = some (m32 (IntKind.i64.wrap (a.1 + b.1)), ()) := rfl
def L9 (l : List YB) : Int := l.foldl (fun n x => IntKind.i64.wrap (IntKind.i64.wrap (n * 256) + IntKind.i64.wrap x.1)) 0
theorem Aa1 (l : List YB) (x : YB) : L9 (l ++ [x]) = IntKind.i64.wrap (IntKind.i64.wrap (L9 l * 256) + IntKind.i64.wrap x.1) := by simp [L9]
def Alz (b : List YB) (p k : Int) : YI × YI × (Bool × Unit) :=
 if 1 ≤ k ∧ k ≤ 6 ∧ 0 ≤ p ∧ p + k ≤ b.length then ((L9 ((b.drop p.toNat).take k.toNat), ()), (p + k, ()), (true, ())) else ((0, ()), (0, ()), (false, ()))
theorem Awg (b : List YB) (p k : Int) (hl : b.length ≤ 4294967296) : Abf (b, ()) (p, ()) (k, ()) = some (Alz b p k) := by
 unfold Abf Ns Alz
 simp only [Ae, Af, Ad]
 by_cases h1 : k < 1
 ·rw [Ak h1, Ax, if_neg (by omega)]
 rw [A2 h1, Al]
 by_cases h2 : k > 6
 ·rw [Ak h2, Ax, if_neg (by omega)]
 rw [A2 h2, Al]
 by_cases h3 : p < 0
 ·rw [Ak h3, Ax, if_neg (by omega)]
 rw [A2 h3, Al, w64 (n := (b.length : Int) - k) (by omega)]
 by_cases h4 : p > (b.length : Int) - k
 ·rw [Ak h4, Ax, if_neg (by omega)]
 rw [A2 h4, Al, if_pos (by omega)]
 have hr := Ck (B := Gl) k.toNat (fun i => (b, p, k, L9 ((b.drop p.toNat).take i), (i : Int), ())) (p, k, L9 ((b.drop p.toNat).take k.toNat), ())
  (fun i hi => by
   have hlt : p.toNat + i < b.length := by omega
   have hx := List.getElem?_eq_getElem hlt
   have hx2 : (b.drop p.toNat)[i]? = some b[p.toNat + i] := by rw [List.getElem?_drop]; exact hx
   unfold Gl
   simp only [Ae, Af, Ad]
   rw [Ak (by omega), Ax, w64 (n := p + (i : Int)) (by omega), show p + (i : Int) = ((p.toNat + i : Nat) : Int) by omega, A5 hx, Ag, w64 (n := (i : Int) + 1) (by omega), ← Ge hx2, Aa1]
   rfl)
  (by
   unfold Gl
   simp only [Ae, Af, Ad]
   rw [A2 (by omega), Al])
 rw [show Ar Gl (b, p, k, (0 : Int), (0 : Int), ()) = _ from hr, Ag]
 simp only
 rw [w64 (by omega)]
theorem Au4 (b : List YB) (p n : Int) (hl : b.length ≤ 4294967296) : Za (b, ()) (p, ()) (n, ()) = some (if 0 ≤ p ∧ 0 ≤ n ∧ p + n ≤ b.length then (((b.drop p.toNat).take n.toNat, ()), (true, ())) else (([], ()), (false, ()))) := by
 unfold Za Agf
 simp only [Ae, Ah, Ad]
 by_cases h1 : p < 0
 ·rw [Ak h1, Ax, if_neg (by omega)]
 rw [A2 h1, Al]
 by_cases h2 : n < 0
 ·rw [Ak h2, Ax, if_neg (by omega)]
 rw [A2 h2, Al]
 by_cases h3 : p > (b.length : Int)
 ·rw [Ak h3, Ax, if_neg (by omega)]
 rw [A2 h3, Al, w64 (n := (b.length : Int) - p) (by omega)]
 by_cases h4 : n > (b.length : Int) - p
 ·rw [Ak h4, Ax, if_neg (by omega)]
 rw [A2 h4, Al, if_pos (by omega), w64 (n := p + n) (by omega), Ak (by omega), Ak (by omega), Ak (by omega), Ak (by simp; omega)]
 simp only [A0, List.nil_append]
 rw [show (p + n).toNat = p.toNat + n.toNat by omega, List.drop_take, Nat.add_sub_cancel_left]
theorem Awh (b : List YB) (p k : Int) (hl : b.length ≤ 4294967296) : Abh (b, ()) (p, ()) (k, ()) = some (Alz b p k) := by
 unfold Abh Nz Alz
 simp only [Ae, Af, Ad]
 by_cases h1 : k < 1
 ·rw [Ak h1, Ax, if_neg (by omega)]
 rw [A2 h1, Al]
 by_cases h2 : k > 6
 ·rw [Ak h2, Ax, if_neg (by omega)]
 rw [A2 h2, Al, Au4 _ _ _ hl, Ag]
 by_cases h3 : 0 ≤ p ∧ 0 ≤ k ∧ p + k ≤ b.length
 ·rw [if_pos h3, if_pos (by omega)]
  simp only [Bool.not_true, Al]
  have hlen : ((b.drop p.toNat).take k.toNat).length = k.toNat := by simp; omega
  have hr := Ck (B := Gn) k.toNat (fun i => (p, k, L9 (((b.drop p.toNat).take k.toNat).take i), (b.drop p.toNat).take k.toNat, (((b.drop p.toNat).take k.toNat).length : Int), (i : Int), ())) (p, k, L9 ((b.drop p.toNat).take k.toNat), ())
   (fun i hi => by
    have hx := List.getElem?_eq_getElem (show i < ((b.drop p.toNat).take k.toNat).length by omega)
    unfold Gn
    simp only [Ae, Af, Ad]
    rw [Ak (by omega), Ax, A5 hx, Ag, w64 (n := (i : Int) + 1) (by omega), ← Ge hx, Aa1, Int.mul_comm 256]
    rfl)
   (by
    unfold Gn
    simp only [Ae, Af, Ad]
    rw [A2 (by omega), Al, List.take_take, Nat.min_self])
  rw [show Ar Gn (p, k, (0 : Int), (b.drop p.toNat).take k.toNat, (((b.drop p.toNat).take k.toNat).length : Int), (0 : Int), ()) = _ from hr, Ag]
  simp only
  rw [w64 (by omega)]
 ·rw [if_neg h3, if_neg (by omega)]
  rfl
theorem T5 {E : Type} {l z : List E} {n : Int} (h0 : 0 ≤ n) (h1 : n < l.length) : idx (l ++ z) n = idx l n := by
 unfold idx
 rw [if_pos h0, if_pos h0, List.getElem?_append_left (by omega)]
theorem Ai6 {l : List YI} {i k : Nat} (h : l.length = i) (hk : i < k) (x : YI) : (l ++ List.replicate (k - i) ((0 : Int), ())).set i x = (l ++ [x]) ++ List.replicate (k - (i + 1)) ((0 : Int), ()) := by
 rw [List.set_append_right _ _ (by omega), h, Nat.sub_self, show k - i = (k - (i + 1)) + 1 by omega, List.replicate_succ, List.set_cons_zero]
 simp
theorem Al0 {l : List YI} {i k : Nat} (h : l.length = i) (hk : i < k) : idx (l ++ List.replicate (k - i) ((0 : Int), ())) (i : Int) = some ((0 : Int), ()) := by
 rw [Akj, List.getElem?_append_right (by omega), h, Nat.sub_self, List.getElem?_replicate, if_pos (by omega)]
theorem Aoc (b : List YB) (hl : b.length ≤ 4294967296) : ∃ r, N0 (b, ()) = some (r, ()) ∧ Nt (b, ()) = some (r, ()) ∧ (b.length = 64 → r.length = 64) := by
 unfold N0 Ht Nt Hn
 simp only [Ae, Af, Ad]
 by_cases h : b.length = 64
 ·rw [Ew (by simp [h]), Ew (by simp [h])]
  obtain ⟨o1, o2, h1, h2, hq⟩ := T6 (B1 := Ee) (B2 := Ec)
   (fun i d1 d2 => ∃ l : List YI, l.length = i ∧ d1 = (b, l ++ List.replicate (64 - i) ((0 : Int), ()), (i : Int), ()) ∧ d2 = (b, l, (i : Int), ()))
   (fun o1 o2 => o2.1.length = 16 ∧ o1 = (o2.1 ++ List.replicate 48 ((0 : Int), ()), ())) 16
   (by
    rintro i d1 d2 hi ⟨l, hll, rfl, rfl⟩
    left
    unfold Ee Ec
    simp only [Ae, Af, Ad, Ah]
    rw [Ak (by omega), Ax, Ax, w64 (n := 4 * (i : Int)) (by omega), Awh _ _ _ hl, Awg _ _ _ hl, Ag, Ag, Al0 hll (by omega), Ag, Ak (by simp; omega), A0, w64 (by omega), Int.toNat_natCast, Ai6 hll (by omega)]
    exact ⟨_, _, rfl, rfl, l ++ [(Alz b (4 * (i : Int)) 4).1], by simp [hll], rfl, rfl⟩)
   (by
    rintro d1 d2 ⟨l, hll, rfl, rfl⟩
    unfold Ee Ec
    simp only [Ae, Af, Ad, Ah]
    rw [A2 (by omega), Al, Al]
    exact ⟨_, _, rfl, rfl, hll, by simp only [Nat.reduceSub]⟩)
   (d1 := (b, List.replicate 64 ((0 : Int), ()), (0 : Int), ())) (d2 := (b, [], (0 : Int), ())) ⟨[], rfl, by simp only [Nat.sub_zero, List.nil_append, Int.natCast_zero], by simp only [Int.natCast_zero]⟩
  rw [show (64 : Int).toNat = 64 from rfl, h1, h2, Ag, Ag]
  obtain ⟨hq1, rfl⟩ := hq
  obtain ⟨o3, o4, h3, h4, hq⟩ := T6 (B1 := Eg) (B2 := Dq)
   (fun i d1 d2 => ∃ l : List YI, l.length = 16 + i ∧ d1 = (l ++ List.replicate (64 - (16 + i)) ((0 : Int), ()), ((16 + i : Nat) : Int), ()) ∧ d2 = (l, ((16 + i : Nat) : Int), ()))
   (fun o1 o2 => o1 = o2 ∧ o2.1.length = 64) 48
   (by
    rintro i d1 d2 hi ⟨l, hll, rfl, rfl⟩
    left
    obtain ⟨e1, g1, _⟩ := T7 (l := l) (n := ((16 + i : Nat) : Int) - 15) (by omega) (by omega)
    obtain ⟨e2, g2, _⟩ := T7 (l := l) (n := ((16 + i : Nat) : Int) - 2) (by omega) (by omega)
    obtain ⟨e3, g3, _⟩ := T7 (l := l) (n := ((16 + i : Nat) : Int) - 7) (by omega) (by omega)
    obtain ⟨e4, g4, _⟩ := T7 (l := l) (n := ((16 + i : Nat) : Int) - 16) (by omega) (by omega)
    unfold Eg Dq
    simp only [Ae, Af, Ad, Ah]
    rw [Ak (by omega), Ax, Ax, w64 (n := ((16 + i : Nat) : Int) - 15) (by omega), w64 (n := ((16 + i : Nat) : Int) - 2) (by omega), w64 (n := ((16 + i : Nat) : Int) - 7) (by omega), w64 (n := ((16 + i : Nat) : Int) - 16) (by omega),
     w64 (n := ((16 + i : Nat) : Int) + 1) (by omega)]
    rw [T5 (by omega) (by omega), g1, Ag, T5 (by omega) (by omega), g2, Ag, Afc _ _ (by decide) (by decide), Ag, Afc _ _ (by decide) (by decide), Ag, Afc _ _ (by decide) (by decide), Ag, Afc _ _ (by decide) (by decide), Ag, T5 (by omega) (by omega), g3, Ag, T5 (by omega) (by omega), g4, Ag, Al0 hll (by omega), Ag]
    rw [Ag, Ag, Afd _ _ (by decide) (by decide), Ag, Afd _ _ (by decide) (by decide), Ag, Afd _ _ (by decide) (by decide), Ag, Afd _ _ (by decide) (by decide), Ag, Ag, Ag, Int.toNat_natCast]
    generalize IntKind.i64.wrap (((BitVec.ofInt _ _ &&& BitVec.ofInt _ (4294967295 : Int)).toNat : Nat) : Int) = z
    rw [Ak (by rw [List.length_singleton]; omega), A0, Ai6 hll (by omega)]
    exact ⟨_, _, rfl, rfl, _, by simp [hll]; omega, rfl, rfl⟩)
   (by
    rintro d1 d2 ⟨l, hll, rfl, rfl⟩
    unfold Eg Dq
    simp only [Ae, Af, Ad, Ah]
    rw [A2 (by omega), Al, Al]
    exact ⟨_, _, rfl, rfl, by simp, by omega⟩)
   (d1 := (o2.1 ++ List.replicate 48 ((0 : Int), ()), (16 : Int), ())) (d2 := (o2.1, (16 : Int), ())) ⟨o2.1, hq1, by simp only [Nat.add_zero, Nat.reduceSub]; rfl, rfl⟩
  rw [h3, h4]
  obtain ⟨rfl, hq2⟩ := hq
  exact ⟨o3.1, rfl, rfl, fun _ => hq2⟩
 ·have h' : ¬ ((b.length : Int) = 64) := by omega
  rw [M7 (by simpa using h'), M7 (by simpa using h')]
  exact ⟨[], rfl, rfl, fun h2 => (h h2).elim⟩
end
end Go.Proofs.Ytggdikabbngbaaa

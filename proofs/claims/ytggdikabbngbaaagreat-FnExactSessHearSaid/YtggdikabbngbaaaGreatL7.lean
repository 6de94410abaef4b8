/-
  That the program and the reference answer alike, in plain terms, and that the laws answer true.
-/
import Derived.Test.YtggdikabbngbaaaGreatL6
namespace Go.Proofs.YtggdikabbngbaaaGreat
open Go.RowKit
set_option linter.unusedVariables false
set_option linter.unusedSimpArgs false
set_option maxHeartbeats 4000000
noncomputable section
def m32 (x : Int) : Int := IntKind.i64.wrap ((BitVec.ofInt (IntKind.i64.bits) x &&& BitVec.ofInt (IntKind.i64.bits) (4294967295 : Int)).toNat : Nat)
theorem Arl (x : Int) : m32 x = x % 4294967296 := by
 have h : ((BitVec.ofInt (IntKind.i64.bits) x &&& BitVec.ofInt (IntKind.i64.bits) (4294967295 : Int)).toNat : Int) = x % 4294967296 := by
  show ((BitVec.ofInt 64 x &&& BitVec.ofInt 64 (4294967295 : Int)).toNat : Int) = x % 4294967296
  rw [BitVec.toNat_and, BitVec.toNat_ofInt, BitVec.toNat_ofInt]
  have e : ((4294967295 : Int) % ((2 ^ 64 : Nat) : Int)).toNat = 2 ^ 32 - 1 := by decide
  rw [e, Nat.and_two_pow_sub_one_eq_mod]
  have e2 : ((2 ^ 64 : Nat) : Int) = 18446744073709551616 := by decide
  rw [e2]
  omega
 unfold m32
 rw [h, w64 (by omega)]
theorem Bp0 (s : Int) : IntKind.i64.wrap s % 4294967296 = s % 4294967296 := by rw [IntKind.wrap_i64]; omega
theorem Alr (s : Int) : m32 (IntKind.i64.wrap s) = s % 4294967296 := by rw [Arl, Bp0]
theorem Bp1 (x : Int) : 0 ≤ m32 x ∧ m32 x ≤ 4294967295 := by rw [Arl]; omega
theorem Bl4 (d t : Int) : m32 (IntKind.i64.wrap (d + m32 t)) = m32 (IntKind.i64.wrap (d + t)) := by rw [Alr, Alr, Arl]; omega
theorem Bl5 (t u : Int) : m32 (IntKind.i64.wrap (m32 t + m32 u)) = m32 (IntKind.i64.wrap (t + u)) := by rw [Alr, Alr, Arl, Arl]; omega
def Bhp (x n : Int) : Int := m32 (IntKind.i64.wrap ((BitVec.ofInt (IntKind.i64.bits) (Int.fdiv (m32 x) (2 ^ (min n.toNat IntKind.i64.bits))) ||| BitVec.ofInt (IntKind.i64.bits) (IntKind.i64.wrap (m32 x * 2 ^ (min (IntKind.i64.wrap (32 - n)).toNat IntKind.i64.bits)))).toNat : Nat))
theorem A1r (x n : YI) (h1 : 1 ≤ n.1) (h2 : n.1 ≤ 31) : Is x n = some (Bhp x.1 n.1, ()) := by
 unfold Is A2u
 simp only [Ae, Ai, Ab]
 rw [Bm (by omega), Bm (by omega), Ao (by omega), w64 (n := 32 - n.1) (by omega), Ao (by omega)]
 simp only [An, A8, Bhp]
 rw [w64 (n := 32 - n.1) (by omega)]
 rfl
theorem A1s (x n : YI) (h1 : 1 ≤ n.1) (h2 : n.1 ≤ 31) : Ip x n = some (Bhp x.1 n.1, ()) := by
 unfold Ip A2p
 simp only [Ae, Ai, Ab]
 rw [Bm (by omega), Bm (by omega), Ao (by omega), w64 (n := 32 - n.1) (by omega), Ao (by omega)]
 simp only [An, A8, Bhp]
 rw [w64 (n := 32 - n.1) (by omega)]
 rfl
theorem Bfs (a b : YI) : Ab8 a b = some (m32 (IntKind.i64.wrap (a.1 + b.1)), ()) := rfl
def V6 (l : List YB) : Int := l.foldl (fun n x => IntKind.i64.wrap (IntKind.i64.wrap (n * 256) + IntKind.i64.wrap x.1)) 0
theorem Au3 (l : List YB) (x : YB) : V6 (l ++ [x]) = IntKind.i64.wrap (IntKind.i64.wrap (V6 l * 256) + IntKind.i64.wrap x.1) := by simp [V6]
def Ba0 (b : List YB) (p k : Int) : YI × YI × (Bool × Unit) :=
 if 1 ≤ k ∧ k ≤ 6 ∧ 0 ≤ p ∧ p + k ≤ b.length then ((V6 ((b.drop p.toNat).take k.toNat), ()), (p + k, ()), (true, ())) else ((0, ()), (0, ()), (false, ()))
theorem Bo2 (b : List YB) (p k : Int) (hl : b.length ≤ 4294967296) : Avk (b, ()) (p, ()) (k, ()) = some (Ba0 b p k) := by
 unfold Avk Zv Ba0
 simp only [Ae, Ag, Ab]
 by_cases h1 : k < 1
 ·rw [Ao h1, A3, if_neg (by omega)]
 rw [Bm h1, An]
 by_cases h2 : k > 6
 ·rw [Ao h2, A3, if_neg (by omega)]
 rw [Bm h2, An]
 by_cases h3 : p < 0
 ·rw [Ao h3, A3, if_neg (by omega)]
 rw [Bm h3, An, w64 (n := (b.length : Int) - k) (by omega)]
 by_cases h4 : p > (b.length : Int) - k
 ·rw [Ao h4, A3, if_neg (by omega)]
 rw [Bm h4, An, if_pos (by omega)]
 have hr := Da (B := Lf) k.toNat (fun i => (b, p, k, V6 ((b.drop p.toNat).take i), (i : Int), ())) (p, k, V6 ((b.drop p.toNat).take k.toNat), ())
  (fun i hi => by
   have hlt : p.toNat + i < b.length := by omega
   have hx := List.getElem?_eq_getElem hlt
   have hx2 : (b.drop p.toNat)[i]? = some b[p.toNat + i] := by rw [List.getElem?_drop]; exact hx
   unfold Lf
   simp only [Ae, Ag, Ab]
   rw [Ao (by omega), A3, w64 (n := p + (i : Int)) (by omega), show p + (i : Int) = ((p.toNat + i : Nat) : Int) by omega, Bq hx, Ah, w64 (n := (i : Int) + 1) (by omega), ← Eu hx2, Au3]
   rfl)
  (by
   unfold Lf
   simp only [Ae, Ag, Ab]
   rw [Bm (by omega), An])
 rw [show Ay Lf (b, p, k, (0 : Int), (0 : Int), ()) = _ from hr, Ah]
 simp only
 rw [w64 (by omega)]
theorem Bp2 (b : List YB) (p n : Int) (hl : b.length ≤ 4294967296) : A2t (b, ()) (p, ()) (n, ()) = some (if 0 ≤ p ∧ 0 ≤ n ∧ p + n ≤ b.length then (((b.drop p.toNat).take n.toNat, ()), (true, ())) else (([], ()), (false, ()))) := by
 unfold A2t A2s
 simp only [Ae, Ai, Ab]
 by_cases h1 : p < 0
 ·rw [Ao h1, A3, if_neg (by omega)]
 rw [Bm h1, An]
 by_cases h2 : n < 0
 ·rw [Ao h2, A3, if_neg (by omega)]
 rw [Bm h2, An]
 by_cases h3 : p > (b.length : Int)
 ·rw [Ao h3, A3, if_neg (by omega)]
 rw [Bm h3, An, w64 (n := (b.length : Int) - p) (by omega)]
 by_cases h4 : n > (b.length : Int) - p
 ·rw [Ao h4, A3, if_neg (by omega)]
 rw [Bm h4, An, if_pos (by omega), w64 (n := p + n) (by omega), Ao (by omega), Ao (by omega), Ao (by omega), Ao (by simp; omega)]
 simp only [A8, List.nil_append]
 rw [show (p + n).toNat = p.toNat + n.toNat by omega, List.drop_take, Nat.add_sub_cancel_left]
theorem Bo3 (b : List YB) (p k : Int) (hl : b.length ≤ 4294967296) : Avt (b, ()) (p, ()) (k, ()) = some (Ba0 b p k) := by
 unfold Avt Aad Ba0
 simp only [Ae, Ag, Ab]
 by_cases h1 : k < 1
 ·rw [Ao h1, A3, if_neg (by omega)]
 rw [Bm h1, An]
 by_cases h2 : k > 6
 ·rw [Ao h2, A3, if_neg (by omega)]
 rw [Bm h2, An, Bp2 _ _ _ hl, Ah]
 by_cases h3 : 0 ≤ p ∧ 0 ≤ k ∧ p + k ≤ b.length
 ·rw [if_pos h3, if_pos (by omega)]
  simp only [Bool.not_true, An]
  have hlen : ((b.drop p.toNat).take k.toNat).length = k.toNat := by simp; omega
  have hr := Da (B := Li) k.toNat (fun i => (p, k, V6 (((b.drop p.toNat).take k.toNat).take i), (b.drop p.toNat).take k.toNat, (((b.drop p.toNat).take k.toNat).length : Int), (i : Int), ())) (p, k, V6 ((b.drop p.toNat).take k.toNat), ())
   (fun i hi => by
    have hx := List.getElem?_eq_getElem (show i < ((b.drop p.toNat).take k.toNat).length by omega)
    unfold Li
    simp only [Ae, Ag, Ab]
    rw [Ao (by omega), A3, Bq hx, Ah, w64 (n := (i : Int) + 1) (by omega), ← Eu hx, Au3, Int.mul_comm 256]
    rfl)
   (by
    unfold Li
    simp only [Ae, Ag, Ab]
    rw [Bm (by omega), An, List.take_take, Nat.min_self])
  rw [show Ay Li (p, k, (0 : Int), (b.drop p.toNat).take k.toNat, (((b.drop p.toNat).take k.toNat).length : Int), (0 : Int), ()) = _ from hr, Ah]
  simp only
  rw [w64 (by omega)]
 ·rw [if_neg h3, if_neg (by omega)]
  rfl
theorem Als {E : Type} {l z : List E} {n : Int} (h0 : 0 ≤ n) (h1 : n < l.length) : idx (l ++ z) n = idx l n := by
 unfold idx
 rw [if_pos h0, if_pos h0, List.getElem?_append_left (by omega)]
theorem A6b {l : List YI} {i k : Nat} (h : l.length = i) (hk : i < k) (x : YI) : (l ++ List.replicate (k - i) ((0 : Int), ())).set i x = (l ++ [x]) ++ List.replicate (k - (i + 1)) ((0 : Int), ()) := by
 rw [List.set_append_right _ _ (by omega), h, Nat.sub_self, show k - i = (k - (i + 1)) + 1 by omega, List.replicate_succ, List.set_cons_zero]
 simp
theorem Ba1 {l : List YI} {i k : Nat} (h : l.length = i) (hk : i < k) : idx (l ++ List.replicate (k - i) ((0 : Int), ())) (i : Int) = some ((0 : Int), ()) := by
 rw [A8r, List.getElem?_append_right (by omega), h, Nat.sub_self, List.getElem?_replicate, if_pos (by omega)]
theorem Ber (b : List YB) (hl : b.length ≤ 4294967296) : ∃ r, Aae (b, ()) = some (r, ()) ∧ Zw (b, ()) = some (r, ()) ∧ (b.length = 64 → r.length = 64) := by
 unfold Aae Nf Zw M4
 simp only [Ae, Ag, Ab]
 by_cases h : b.length = 64
 ·rw [Dw (by simp [h]), Dw (by simp [h])]
  obtain ⟨o1, o2, h1, h2, hq⟩ := Abr (B1 := Hk) (B2 := Hi)
   (fun i d1 d2 => ∃ l : List YI, l.length = i ∧ d1 = (b, l ++ List.replicate (64 - i) ((0 : Int), ()), (i : Int), ()) ∧ d2 = (b, l, (i : Int), ()))
   (fun o1 o2 => o2.1.length = 16 ∧ o1 = (o2.1 ++ List.replicate 48 ((0 : Int), ()), ())) 16
   (by
    rintro i d1 d2 hi ⟨l, hll, rfl, rfl⟩
    left
    unfold Hk Hi
    simp only [Ae, Ag, Ab, Ai]
    rw [Ao (by omega), A3, A3, w64 (n := 4 * (i : Int)) (by omega), Bo3 _ _ _ hl, Bo2 _ _ _ hl, Ah, Ah, Ba1 hll (by omega), Ah, Ao (by simp; omega), A8, w64 (by omega), Int.toNat_natCast, A6b hll (by omega)]
    exact ⟨_, _, rfl, rfl, l ++ [(Ba0 b (4 * (i : Int)) 4).1], by simp [hll], rfl, rfl⟩)
   (by
    rintro d1 d2 ⟨l, hll, rfl, rfl⟩
    unfold Hk Hi
    simp only [Ae, Ag, Ab, Ai]
    rw [Bm (by omega), An, An]
    exact ⟨_, _, rfl, rfl, hll, by simp only [Nat.reduceSub]⟩)
   (d1 := (b, List.replicate 64 ((0 : Int), ()), (0 : Int), ())) (d2 := (b, [], (0 : Int), ())) ⟨[], rfl, by simp only [Nat.sub_zero, List.nil_append, Int.natCast_zero], by simp only [Int.natCast_zero]⟩
  rw [show (64 : Int).toNat = 64 from rfl, h1, h2, Ah, Ah]
  obtain ⟨hq1, rfl⟩ := hq
  obtain ⟨o3, o4, h3, h4, hq⟩ := Abr (B1 := Hl) (B2 := Gc)
   (fun i d1 d2 => ∃ l : List YI, l.length = 16 + i ∧ d1 = (l ++ List.replicate (64 - (16 + i)) ((0 : Int), ()), ((16 + i : Nat) : Int), ()) ∧ d2 = (l, ((16 + i : Nat) : Int), ()))
   (fun o1 o2 => o1 = o2 ∧ o2.1.length = 64) 48
   (by
    rintro i d1 d2 hi ⟨l, hll, rfl, rfl⟩
    left
    obtain ⟨e1, g1, _⟩ := U0 (l := l) (n := ((16 + i : Nat) : Int) - 15) (by omega) (by omega)
    obtain ⟨e2, g2, _⟩ := U0 (l := l) (n := ((16 + i : Nat) : Int) - 2) (by omega) (by omega)
    obtain ⟨e3, g3, _⟩ := U0 (l := l) (n := ((16 + i : Nat) : Int) - 7) (by omega) (by omega)
    obtain ⟨e4, g4, _⟩ := U0 (l := l) (n := ((16 + i : Nat) : Int) - 16) (by omega) (by omega)
    unfold Hl Gc
    simp only [Ae, Ag, Ab, Ai]
    rw [Ao (by omega), A3, A3, w64 (n := ((16 + i : Nat) : Int) - 15) (by omega), w64 (n := ((16 + i : Nat) : Int) - 2) (by omega), w64 (n := ((16 + i : Nat) : Int) - 7) (by omega), w64 (n := ((16 + i : Nat) : Int) - 16) (by omega),
     w64 (n := ((16 + i : Nat) : Int) + 1) (by omega)]
    rw [Als (by omega) (by omega), g1, Ah, Als (by omega) (by omega), g2, Ah, A1r _ _ (by decide) (by decide), Ah, A1r _ _ (by decide) (by decide), Ah, A1r _ _ (by decide) (by decide), Ah, A1r _ _ (by decide) (by decide), Ah, Als (by omega) (by omega), g3, Ah, Als (by omega) (by omega), g4, Ah, Ba1 hll (by omega), Ah]
    rw [Ah, Ah, A1s _ _ (by decide) (by decide), Ah, A1s _ _ (by decide) (by decide), Ah, A1s _ _ (by decide) (by decide), Ah, A1s _ _ (by decide) (by decide), Ah, Ah, Ah, Int.toNat_natCast]
    generalize IntKind.i64.wrap (((BitVec.ofInt _ _ &&& BitVec.ofInt _ (4294967295 : Int)).toNat : Nat) : Int) = z
    rw [Ao (by rw [List.length_singleton]; omega), A8, A6b hll (by omega)]
    exact ⟨_, _, rfl, rfl, _, by simp [hll]; omega, rfl, rfl⟩)
   (by
    rintro d1 d2 ⟨l, hll, rfl, rfl⟩
    unfold Hl Gc
    simp only [Ae, Ag, Ab, Ai]
    rw [Bm (by omega), An, An]
    exact ⟨_, _, rfl, rfl, by simp, by omega⟩)
   (d1 := (o2.1 ++ List.replicate 48 ((0 : Int), ()), (16 : Int), ())) (d2 := (o2.1, (16 : Int), ())) ⟨o2.1, hq1, by simp only [Nat.add_zero, Nat.reduceSub]; rfl, rfl⟩
  rw [h3, h4]
  obtain ⟨rfl, hq2⟩ := hq
  exact ⟨o3.1, rfl, rfl, fun _ => hq2⟩
 ·have h' : ¬ ((b.length : Int) = 64) := by omega
  rw [J3 (by simpa using h'), J3 (by simpa using h')]
  exact ⟨[], rfl, rfl, fun h2 => (h h2).elim⟩
end
end Go.Proofs.YtggdikabbngbaaaGreat

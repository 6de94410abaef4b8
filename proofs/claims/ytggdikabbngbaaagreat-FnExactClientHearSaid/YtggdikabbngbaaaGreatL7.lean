/-
  That the program and the reference answer alike, in plain terms, and that the laws answer true.
-/
import Derived.Test.YtggdikabbngbaaaGreatL6
namespace Go.Proofs.YtggdikabbngbaaaGreat
open Go.RowKit
set_option linter.unusedVariables false
set_option linter.unusedSimpArgs false
set_option maxHeartbeats 4000000
noncomputable section
def m32 (x : Int) : Int := IntKind.i64.wrap ((BitVec.ofInt (IntKind.i64.bits) x &&& BitVec.ofInt (IntKind.i64.bits) (4294967295 : Int)).toNat : Nat)
theorem Ar6 (x : Int) : m32 x = x % 4294967296 := by
 have h : ((BitVec.ofInt (IntKind.i64.bits) x &&& BitVec.ofInt (IntKind.i64.bits) (4294967295 : Int)).toNat : Int) = x % 4294967296 := by
  show ((BitVec.ofInt 64 x &&& BitVec.ofInt 64 (4294967295 : Int)).toNat : Int) = x % 4294967296
  rw [BitVec.toNat_and, BitVec.toNat_ofInt, BitVec.toNat_ofInt]
  have e : ((4294967295 : Int) % ((2 ^ 64 : Nat) : Int)).toNat = 2 ^ 32 - 1 := by decide
  rw [e, Nat.and_two_pow_sub_one_eq_mod]
  have e2 : ((2 ^ 64 : Nat) : Int) = 18446744073709551616 := by decide
  rw [e2]
  omega
 unfold m32
 rw [h, w64 (by omega)]
theorem Bos (s : Int) : IntKind.i64.wrap s % 4294967296 = s % 4294967296 := by rw [IntKind.wrap_i64]; omega
theorem Amy (s : Int) : m32 (IntKind.i64.wrap s) = s % 4294967296 := by rw [Ar6, Bos]
theorem Bou (x : Int) : 0 ≤ m32 x ∧ m32 x ≤ 4294967295 := by rw [Ar6]; omega
theorem Bkx (d t : Int) : m32 (IntKind.i64.wrap (d + m32 t)) = m32 (IntKind.i64.wrap (d + t)) := by rw [Amy, Amy, Ar6]; omega
theorem Bky (t u : Int) : m32 (IntKind.i64.wrap (m32 t + m32 u)) = m32 (IntKind.i64.wrap (t + u)) := by rw [Amy, Amy, Ar6, Ar6]; omega
def Bf9 (x n : Int) : Int := m32 (IntKind.i64.wrap ((BitVec.ofInt (IntKind.i64.bits) (Int.fdiv (m32 x) (2 ^ (min n.toNat IntKind.i64.bits))) ||| BitVec.ofInt (IntKind.i64.bits) (IntKind.i64.wrap (m32 x * 2 ^ (min (IntKind.i64.wrap (32 - n)).toNat IntKind.i64.bits)))).toNat : Nat))
theorem A1c (x n : YI) (h1 : 1 ≤ n.1) (h2 : n.1 ≤ 31) : H5 x n = some (Bf9 x.1 n.1, ()) := by
 unfold H5 A2c
 simp only [Ah, Am, Ae]
 rw [Bg (by omega), Bg (by omega), Ao (by omega), w64 (n := 32 - n.1) (by omega), Ao (by omega)]
 simp only [Ap, A8, Bf9]
 rw [w64 (n := 32 - n.1) (by omega)]
 rfl
theorem A1d (x n : YI) (h1 : 1 ≤ n.1) (h2 : n.1 ≤ 31) : H4 x n = some (Bf9 x.1 n.1, ()) := by
 unfold H4 A18
 simp only [Ah, Am, Ae]
 rw [Bg (by omega), Bg (by omega), Ao (by omega), w64 (n := 32 - n.1) (by omega), Ao (by omega)]
 simp only [Ap, A8, Bf9]
 rw [w64 (n := 32 - n.1) (by omega)]
 rfl
theorem Bd9 (a b : YI) : Adz a b = some (m32 (IntKind.i64.wrap (a.1 + b.1)), ()) := rfl
def Uy (l : List YB) : Int := l.foldl (fun n x => IntKind.i64.wrap (IntKind.i64.wrap (n * 256) + IntKind.i64.wrap x.1)) 0
theorem Avc (l : List YB) (x : YB) : Uy (l ++ [x]) = IntKind.i64.wrap (IntKind.i64.wrap (Uy l * 256) + IntKind.i64.wrap x.1) := by simp [Uy]
def A9w (b : List YB) (p k : Int) : YI × YI × (Bool × Unit) :=
 if 1 ≤ k ∧ k ≤ 6 ∧ 0 ≤ p ∧ p + k ≤ b.length then ((Uy ((b.drop p.toNat).take k.toNat), ()), (p + k, ()), (true, ())) else ((0, ()), (0, ()), (false, ()))
theorem Bnw (b : List YB) (p k : Int) (hl : b.length ≤ 4294967296) : Avv (b, ()) (p, ()) (k, ()) = some (A9w b p k) := by
 unfold Avv Aaw A9w
 simp only [Ah, Ak, Ae]
 by_cases h1 : k < 1
 ·rw [Ao h1, Ay, if_neg (by omega)]
 rw [Bg h1, Ap]
 by_cases h2 : k > 6
 ·rw [Ao h2, Ay, if_neg (by omega)]
 rw [Bg h2, Ap]
 by_cases h3 : p < 0
 ·rw [Ao h3, Ay, if_neg (by omega)]
 rw [Bg h3, Ap, w64 (n := (b.length : Int) - k) (by omega)]
 by_cases h4 : p > (b.length : Int) - k
 ·rw [Ao h4, Ay, if_neg (by omega)]
 rw [Bg h4, Ap, if_pos (by omega)]
 have hr := C9 (B := Kr) k.toNat (fun i => (b, p, k, Uy ((b.drop p.toNat).take i), (i : Int), ())) (p, k, Uy ((b.drop p.toNat).take k.toNat), ())
  (fun i hi => by
   have hlt : p.toNat + i < b.length := by omega
   have hx := List.getElem?_eq_getElem hlt
   have hx2 : (b.drop p.toNat)[i]? = some b[p.toNat + i] := by rw [List.getElem?_drop]; exact hx
   unfold Kr
   simp only [Ah, Ak, Ae]
   rw [Ao (by omega), Ay, w64 (n := p + (i : Int)) (by omega), show p + (i : Int) = ((p.toNat + i : Nat) : Int) by omega, Ch hx, Al, w64 (n := (i : Int) + 1) (by omega), ← Gu hx2, Avc]
   rfl)
  (by
   unfold Kr
   simp only [Ah, Ak, Ae]
   rw [Bg (by omega), Ap])
 rw [show A0 Kr (b, p, k, (0 : Int), (0 : Int), ()) = _ from hr, Al]
 simp only
 rw [w64 (by omega)]
theorem Bov (b : List YB) (p n : Int) (hl : b.length ≤ 4294967296) : A2b (b, ()) (p, ()) (n, ()) = some (if 0 ≤ p ∧ 0 ≤ n ∧ p + n ≤ b.length then (((b.drop p.toNat).take n.toNat, ()), (true, ())) else (([], ()), (false, ()))) := by
 unfold A2b A2a
 simp only [Ah, Am, Ae]
 by_cases h1 : p < 0
 ·rw [Ao h1, Ay, if_neg (by omega)]
 rw [Bg h1, Ap]
 by_cases h2 : n < 0
 ·rw [Ao h2, Ay, if_neg (by omega)]
 rw [Bg h2, Ap]
 by_cases h3 : p > (b.length : Int)
 ·rw [Ao h3, Ay, if_neg (by omega)]
 rw [Bg h3, Ap, w64 (n := (b.length : Int) - p) (by omega)]
 by_cases h4 : n > (b.length : Int) - p
 ·rw [Ao h4, Ay, if_neg (by omega)]
 rw [Bg h4, Ap, if_pos (by omega), w64 (n := p + n) (by omega), Ao (by omega), Ao (by omega), Ao (by omega), Ao (by simp; omega)]
 simp only [A8, List.nil_append]
 rw [show (p + n).toNat = p.toNat + n.toNat by omega, List.drop_take, Nat.add_sub_cancel_left]
theorem Bnx (b : List YB) (p k : Int) (hl : b.length ≤ 4294967296) : Av1 (b, ()) (p, ()) (k, ()) = some (A9w b p k) := by
 unfold Av1 Abp A9w
 simp only [Ah, Ak, Ae]
 by_cases h1 : k < 1
 ·rw [Ao h1, Ay, if_neg (by omega)]
 rw [Bg h1, Ap]
 by_cases h2 : k > 6
 ·rw [Ao h2, Ay, if_neg (by omega)]
 rw [Bg h2, Ap, Bov _ _ _ hl, Al]
 by_cases h3 : 0 ≤ p ∧ 0 ≤ k ∧ p + k ≤ b.length
 ·rw [if_pos h3, if_pos (by omega)]
  simp only [Bool.not_true, Ap]
  have hlen : ((b.drop p.toNat).take k.toNat).length = k.toNat := by simp; omega
  have hr := C9 (B := Kx) k.toNat (fun i => (p, k, Uy (((b.drop p.toNat).take k.toNat).take i), (b.drop p.toNat).take k.toNat, (((b.drop p.toNat).take k.toNat).length : Int), (i : Int), ())) (p, k, Uy ((b.drop p.toNat).take k.toNat), ())
   (fun i hi => by
    have hx := List.getElem?_eq_getElem (show i < ((b.drop p.toNat).take k.toNat).length by omega)
    unfold Kx
    simp only [Ah, Ak, Ae]
    rw [Ao (by omega), Ay, Ch hx, Al, w64 (n := (i : Int) + 1) (by omega), ← Gu hx, Avc, Int.mul_comm 256]
    rfl)
   (by
    unfold Kx
    simp only [Ah, Ak, Ae]
    rw [Bg (by omega), Ap, List.take_take, Nat.min_self])
  rw [show A0 Kx (p, k, (0 : Int), (b.drop p.toNat).take k.toNat, (((b.drop p.toNat).take k.toNat).length : Int), (0 : Int), ()) = _ from hr, Al]
  simp only
  rw [w64 (by omega)]
 ·rw [if_neg h3, if_neg (by omega)]
  rfl
theorem Amz {E : Type} {l z : List E} {n : Int} (h0 : 0 ≤ n) (h1 : n < l.length) : idx (l ++ z) n = idx l n := by
 unfold idx
 rw [if_pos h0, if_pos h0, List.getElem?_append_left (by omega)]
theorem A5b {l : List YI} {i k : Nat} (h : l.length = i) (hk : i < k) (x : YI) : (l ++ List.replicate (k - i) ((0 : Int), ())).set i x = (l ++ [x]) ++ List.replicate (k - (i + 1)) ((0 : Int), ()) := by
 rw [List.set_append_right _ _ (by omega), h, Nat.sub_self, show k - i = (k - (i + 1)) + 1 by omega, List.replicate_succ, List.set_cons_zero]
 simp
theorem A9x {l : List YI} {i k : Nat} (h : l.length = i) (hk : i < k) : idx (l ++ List.replicate (k - i) ((0 : Int), ())) (i : Int) = some ((0 : Int), ()) := by
 rw [A7s, List.getElem?_append_right (by omega), h, Nat.sub_self, List.getElem?_replicate, if_pos (by omega)]
theorem Bdb (b : List YB) (hl : b.length ≤ 4294967296) : ∃ r, Abq (b, ()) = some (r, ()) ∧ Aax (b, ()) = some (r, ()) ∧ (b.length = 64 → r.length = 64) := by
 unfold Abq Mb Aax L0
 simp only [Ah, Ak, Ae]
 by_cases h : b.length = 64
 ·rw [Cg (by simp [h]), Cg (by simp [h])]
  obtain ⟨o1, o2, h1, h2, hq⟩ := Adf (B1 := Gx) (B2 := Gv)
   (fun i d1 d2 => ∃ l : List YI, l.length = i ∧ d1 = (b, l ++ List.replicate (64 - i) ((0 : Int), ()), (i : Int), ()) ∧ d2 = (b, l, (i : Int), ()))
   (fun o1 o2 => o2.1.length = 16 ∧ o1 = (o2.1 ++ List.replicate 48 ((0 : Int), ()), ())) 16
   (by
    rintro i d1 d2 hi ⟨l, hll, rfl, rfl⟩
    left
    unfold Gx Gv
    simp only [Ah, Ak, Ae, Am]
    rw [Ao (by omega), Ay, Ay, w64 (n := 4 * (i : Int)) (by omega), Bnx _ _ _ hl, Bnw _ _ _ hl, Al, Al, A9x hll (by omega), Al, Ao (by simp; omega), A8, w64 (by omega), Int.toNat_natCast, A5b hll (by omega)]
    exact ⟨_, _, rfl, rfl, l ++ [(A9w b (4 * (i : Int)) 4).1], by simp [hll], rfl, rfl⟩)
   (by
    rintro d1 d2 ⟨l, hll, rfl, rfl⟩
    unfold Gx Gv
    simp only [Ah, Ak, Ae, Am]
    rw [Bg (by omega), Ap, Ap]
    exact ⟨_, _, rfl, rfl, hll, by simp only [Nat.reduceSub]⟩)
   (d1 := (b, List.replicate 64 ((0 : Int), ()), (0 : Int), ())) (d2 := (b, [], (0 : Int), ())) ⟨[], rfl, by simp only [Nat.sub_zero, List.nil_append, Int.natCast_zero], by simp only [Int.natCast_zero]⟩
  rw [show (64 : Int).toNat = 64 from rfl, h1, h2, Al, Al]
  obtain ⟨hq1, rfl⟩ := hq
  obtain ⟨o3, o4, h3, h4, hq⟩ := Adf (B1 := Gy) (B2 := F3)
   (fun i d1 d2 => ∃ l : List YI, l.length = 16 + i ∧ d1 = (l ++ List.replicate (64 - (16 + i)) ((0 : Int), ()), ((16 + i : Nat) : Int), ()) ∧ d2 = (l, ((16 + i : Nat) : Int), ()))
   (fun o1 o2 => o1 = o2 ∧ o2.1.length = 64) 48
   (by
    rintro i d1 d2 hi ⟨l, hll, rfl, rfl⟩
    left
    obtain ⟨e1, g1, _⟩ := Tb (l := l) (n := ((16 + i : Nat) : Int) - 15) (by omega) (by omega)
    obtain ⟨e2, g2, _⟩ := Tb (l := l) (n := ((16 + i : Nat) : Int) - 2) (by omega) (by omega)
    obtain ⟨e3, g3, _⟩ := Tb (l := l) (n := ((16 + i : Nat) : Int) - 7) (by omega) (by omega)
    obtain ⟨e4, g4, _⟩ := Tb (l := l) (n := ((16 + i : Nat) : Int) - 16) (by omega) (by omega)
    unfold Gy F3
    simp only [Ah, Ak, Ae, Am]
    rw [Ao (by omega), Ay, Ay, w64 (n := ((16 + i : Nat) : Int) - 15) (by omega), w64 (n := ((16 + i : Nat) : Int) - 2) (by omega), w64 (n := ((16 + i : Nat) : Int) - 7) (by omega), w64 (n := ((16 + i : Nat) : Int) - 16) (by omega),
     w64 (n := ((16 + i : Nat) : Int) + 1) (by omega)]
    rw [Amz (by omega) (by omega), g1, Al, Amz (by omega) (by omega), g2, Al, A1c _ _ (by decide) (by decide), Al, A1c _ _ (by decide) (by decide), Al, A1c _ _ (by decide) (by decide), Al, A1c _ _ (by decide) (by decide), Al, Amz (by omega) (by omega), g3, Al, Amz (by omega) (by omega), g4, Al, A9x hll (by omega), Al]
    rw [Al, Al, A1d _ _ (by decide) (by decide), Al, A1d _ _ (by decide) (by decide), Al, A1d _ _ (by decide) (by decide), Al, A1d _ _ (by decide) (by decide), Al, Al, Al, Int.toNat_natCast]
    generalize IntKind.i64.wrap (((BitVec.ofInt _ _ &&& BitVec.ofInt _ (4294967295 : Int)).toNat : Nat) : Int) = z
    rw [Ao (by rw [List.length_singleton]; omega), A8, A5b hll (by omega)]
    exact ⟨_, _, rfl, rfl, _, by simp [hll]; omega, rfl, rfl⟩)
   (by
    rintro d1 d2 ⟨l, hll, rfl, rfl⟩
    unfold Gy F3
    simp only [Ah, Ak, Ae, Am]
    rw [Bg (by omega), Ap, Ap]
    exact ⟨_, _, rfl, rfl, by simp, by omega⟩)
   (d1 := (o2.1 ++ List.replicate 48 ((0 : Int), ()), (16 : Int), ())) (d2 := (o2.1, (16 : Int), ())) ⟨o2.1, hq1, by simp only [Nat.add_zero, Nat.reduceSub]; rfl, rfl⟩
  rw [h3, h4]
  obtain ⟨rfl, hq2⟩ := hq
  exact ⟨o3.1, rfl, rfl, fun _ => hq2⟩
 ·have h' : ¬ ((b.length : Int) = 64) := by omega
  rw [Dq (by simpa using h'), Dq (by simpa using h')]
  exact ⟨[], rfl, rfl, fun h2 => (h h2).elim⟩
end
end Go.Proofs.YtggdikabbngbaaaGreat

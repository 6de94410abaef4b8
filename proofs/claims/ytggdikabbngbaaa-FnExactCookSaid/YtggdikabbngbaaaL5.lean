/-
  That the program and the reference answer alike, in plain terms, and that the laws answer true.
-/
import Derived.Test.YtggdikabbngbaaaL4
namespace Go.Proofs.Ytggdikabbngbaaa
open Go.RowKit
set_option linter.unusedVariables false
set_option linter.unusedSimpArgs false
set_option maxHeartbeats 4000000
noncomputable section
theorem Ge {E : Type} {l : List E} {i : Nat} {x : E} (h : l[i]? = some x) : l.take i ++ [x] = l.take (i + 1) := by
 rw [List.take_add_one, h]; rfl
theorem Nl (b : YBs) (h : b.1.length ≤ 4294967296) : D9 b = some b := by
 unfold D9 Vz
 simp only [Ah, Ad, List.length_nil, Nat.zero_add, List.nil_append]
 rw [Ak h]; rfl
def byt (n : Int) (j : Nat) : YB := (IntKind.u8.wrap (IntKind.i64.wrap ((BitVec.ofInt (IntKind.i64.bits) (Int.fdiv n (2 ^ (min (8 * j) IntKind.i64.bits))) &&& BitVec.ofInt (IntKind.i64.bits) (255 : Int)).toNat : Nat)), ())
def Es (n : Int) (k i : Nat) : List YB := (List.range i).map fun j => byt n (k - 1 - j)
theorem O0 (n : Int) (k i : Nat) : (Es n k i).length = i := by simp [Es]
theorem Avj : Jk = Hm := rfl
theorem Asa (b : List YB) (n : Int) (k : Nat) (h1 : 1 ≤ k) (h6 : k ≤ 6) (hl : b.length ≤ 1073741824) : Hm (b, ()) (n, ()) ((k : Int), ()) = some (b ++ Es n k k, ()) := by
 have hr := Ck (B := Ie) k (fun i => (n, b ++ Es n k i, (k : Int) - 1 - (i : Int), ())) (b ++ Es n k k, ())
  (fun i hi => by
   unfold Ie
   simp only [Ae, Ah, Ad]
   have e : (8 : Int) * ((k : Int) - 1 - (i : Int)) = ((8 * (k - 1 - i) : Nat) : Int) := by omega
   rw [Ak (by omega), Ax, w64 (n := 8 * ((k : Int) - 1 - (i : Int))) (by omega), Ak (by omega), A0, Ak (by simp [O0]; omega), A0, w64 (n := (k : Int) - 1 - (i : Int) - 1) (by omega), e, Int.toNat_natCast]
   have e2 : (b ++ Es n k i) ++ [byt n (k - 1 - i)] = b ++ Es n k (i + 1) := by
    unfold Es; rw [List.range_succ, List.map_append, List.append_assoc]; rfl
   rw [← e2, show (k : Int) - 1 - ((i + 1 : Nat) : Int) = (k : Int) - 1 - (i : Int) - 1 by omega]
   rfl)
  (by unfold Ie; simp only [Ae, Ad, Ah]; rw [A2 (by omega), Al])
 unfold Hm Nr
 simp only [Ae, Ah, Af, Ad, List.nil_append, List.length_nil, Nat.zero_add]
 rw [Ak (by omega), A0, A2 (by omega), Al, A2 (by omega), Al, w64 (by omega)]
 have e0 : (n, b, (k : Int) - 1, ()) = (n, b ++ Es n k 0, (k : Int) - 1 - ((0 : Nat) : Int), ()) := by simp [Es]
 rw [e0, hr]
 rfl
theorem Asb (b : List YB) (n : Int) (k : Nat) (h1 : 1 ≤ k) (h6 : k ≤ 6) (hl : b.length ≤ 1073741824) : Jk (b, ()) (n, ()) ((k : Int), ()) = some (b ++ Es n k k, ()) := by
 rw [Avj]; exact Asa b n k h1 h6 hl
theorem Ze (b : List YB) (n : Int) (hl : b.length ≤ 1073741824) : Hm (b, ()) (n, ()) ((4 : Int), ()) = some (b ++ Es n 4 4, ()) := Asa b n 4 (by omega) (by omega) hl
theorem Ao2 (b : List YB) (n : Int) (hl : b.length ≤ 1073741824) : Jk (b, ()) (n, ()) ((4 : Int), ()) = some (b ++ Es n 4 4, ()) := Asb b n 4 (by omega) (by omega) hl
theorem Avk (b : List YB) (n : Int) (hl : b.length ≤ 1073741824) : Jk (b, ()) (n, ()) ((6 : Int), ()) = some (b ++ Es n 6 6, ()) := Asb b n 6 (by omega) (by omega) hl
def cat : List YBs → List YB
 | [] => []
 | x :: r => x.1 ++ cat r
theorem Aly (l : List YBs) (x : YBs) : cat (l ++ [x]) = cat l ++ x.1 := by
 induction l with
 | nil => simp [cat]
 | cons y r ih => simp [cat, ih]
theorem Aob (l : List YBs) (i : Nat) : (cat (l.take i)).length ≤ (cat l).length := by
 induction l generalizing i with
 | nil => simp
 | cons y r ih => cases i with
  | zero => simp [cat]
  | succ i => simp [cat]; exact ih i
theorem Jm (l : List YBs) (h : (cat l).length ≤ 4294967296) (h2 : l.length ≤ 4294967296) : D5 (l, ()) = some (cat l, ()) := by
 have hr := Ck (B := En) l.length (fun i => (cat (l.take i), l, (l.length : Int), (i : Int), ())) (cat l, ())
  (fun i hi => by
   have hx := List.getElem?_eq_getElem hi
   have h3 := Aob l (i + 1)
   rw [← Ge hx, Aly] at h3
   simp only [List.length_append] at h3
   unfold En
   simp only [Ae, Af, Ad, Ah, Cd hi, Ax, A5 hx, Ag]
   rw [Ak (by omega), A0, w64 (by omega), ← Aly, Ge hx]
   rfl)
  (by unfold En; simp only [Ae, Ad, Cp, Al, List.take_length])
 unfold D5 Kd
 simp only [Af, Ad]
 rw [show Ar En ([], l, (l.length : Int), (0 : Int), ()) = some (cat l, ()) from hr]
 rfl
end
end Go.Proofs.Ytggdikabbngbaaa

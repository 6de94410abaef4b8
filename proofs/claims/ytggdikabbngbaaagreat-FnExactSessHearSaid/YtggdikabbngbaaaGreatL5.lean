/-
  That the program and the reference answer alike, in plain terms, and that the laws answer true.
-/
import Derived.Test.YtggdikabbngbaaaGreatL4
namespace Go.Proofs.YtggdikabbngbaaaGreat
open Go.RowKit
set_option linter.unusedVariables false
set_option linter.unusedSimpArgs false
set_option maxHeartbeats 4000000
noncomputable section
theorem Eu {E : Type} {l : List E} {i : Nat} {x : E} (h : l[i]? = some x) : l.take i ++ [x] = l.take (i + 1) := by
 rw [List.take_add_one, h]; rfl
theorem Dn (b : YBs) (h : b.1.length ≤ 4294967296) : Bz b = some b := by
 unfold Bz Aoo
 simp only [Ai, Ab, List.length_nil, Nat.zero_add, List.nil_append]
 rw [Ao h]; rfl
def byt (n : Int) (j : Nat) : YB := (IntKind.u8.wrap (IntKind.i64.wrap ((BitVec.ofInt (IntKind.i64.bits) (Int.fdiv n (2 ^ (min (8 * j) IntKind.i64.bits))) &&& BitVec.ofInt (IntKind.i64.bits) (255 : Int)).toNat : Nat)), ())
def Ft (n : Int) (k i : Nat) : List YB := (List.range i).map fun j => byt n (k - 1 - j)
theorem Lk (n : Int) (k i : Nat) : (Ft n k i).length = i := by simp [Ft]
theorem Bnw : Jv = Gs := rfl
theorem Bay (b : List YB) (n : Int) (k : Nat) (h1 : 1 ≤ k) (h6 : k ≤ 6) (hl : b.length ≤ 1073741824) : Gs (b, ()) (n, ()) ((k : Int), ()) = some (b ++ Ft n k k, ()) := by
 have hr := Da (B := Oo) k (fun i => (n, b ++ Ft n k i, (k : Int) - 1 - (i : Int), ())) (b ++ Ft n k k, ())
  (fun i hi => by
   unfold Oo
   simp only [Ae, Ai, Ab]
   have e : (8 : Int) * ((k : Int) - 1 - (i : Int)) = ((8 * (k - 1 - i) : Nat) : Int) := by omega
   rw [Ao (by omega), A3, w64 (n := 8 * ((k : Int) - 1 - (i : Int))) (by omega), Ao (by omega), A8, Ao (by simp [Lk]; omega), A8, w64 (n := (k : Int) - 1 - (i : Int) - 1) (by omega), e, Int.toNat_natCast]
   have e2 : (b ++ Ft n k i) ++ [byt n (k - 1 - i)] = b ++ Ft n k (i + 1) := by
    unfold Ft; rw [List.range_succ, List.map_append, List.append_assoc]; rfl
   rw [← e2, show (k : Int) - 1 - ((i + 1 : Nat) : Int) = (k : Int) - 1 - (i : Int) - 1 by omega]
   rfl)
  (by unfold Oo; simp only [Ae, Ab, Ai]; rw [Bm (by omega), An])
 unfold Gs Zt
 simp only [Ae, Ai, Ag, Ab, List.nil_append, List.length_nil, Nat.zero_add]
 rw [Ao (by omega), A8, Bm (by omega), An, Bm (by omega), An, w64 (by omega)]
 have e0 : (n, b, (k : Int) - 1, ()) = (n, b ++ Ft n k 0, (k : Int) - 1 - ((0 : Nat) : Int), ()) := by simp [Ft]
 rw [e0, hr]
 rfl
theorem Bjw (b : List YB) (n : Int) (k : Nat) (h1 : 1 ≤ k) (h6 : k ≤ 6) (hl : b.length ≤ 1073741824) : Jv (b, ()) (n, ()) ((k : Int), ()) = some (b ++ Ft n k k, ()) := by
 rw [Bnw]; exact Bay b n k h1 h6 hl
theorem Zm (b : List YB) (n : Int) (hl : b.length ≤ 1073741824) : Gs (b, ()) (n, ()) ((4 : Int), ()) = some (b ++ Ft n 4 4, ()) := Bay b n 4 (by omega) (by omega) hl
theorem Bnx (b : List YB) (n : Int) (hl : b.length ≤ 1073741824) : Gs (b, ()) (n, ()) ((6 : Int), ()) = some (b ++ Ft n 6 6, ()) := Bay b n 6 (by omega) (by omega) hl
theorem Asz (b : List YB) (n : Int) (hl : b.length ≤ 1073741824) : Jv (b, ()) (n, ()) ((4 : Int), ()) = some (b ++ Ft n 4 4, ()) := Bjw b n 4 (by omega) (by omega) hl
theorem Bfr (b : List YB) (n : Int) (hl : b.length ≤ 1073741824) : Jv (b, ()) (n, ()) ((6 : Int), ()) = some (b ++ Ft n 6 6, ()) := Bjw b n 6 (by omega) (by omega) hl
def cat : List YBs → List YB
 | [] => []
 | x :: r => x.1 ++ cat r
theorem Baz (l : List YBs) (x : YBs) : cat (l ++ [x]) = cat l ++ x.1 := by
 induction l with
 | nil => simp [cat]
 | cons y r ih => simp [cat, ih]
theorem Bep (l : List YBs) (i : Nat) : (cat (l.take i)).length ≤ (cat l).length := by
 induction l generalizing i with
 | nil => simp
 | cons y r ih => cases i with
  | zero => simp [cat]
  | succ i => simp [cat]; exact ih i
theorem N8 (l : List YBs) (h : (cat l).length ≤ 4294967296) (h2 : l.length ≤ 4294967296) : Fw (l, ()) = some (cat l, ()) := by
 have hr := Da (B := H1) l.length (fun i => (cat (l.take i), l, (l.length : Int), (i : Int), ())) (cat l, ())
  (fun i hi => by
   have hx := List.getElem?_eq_getElem hi
   have h3 := Bep l (i + 1)
   rw [← Eu hx, Baz] at h3
   simp only [List.length_append] at h3
   unfold H1
   simp only [Ae, Ag, Ab, Ai, Ci hi, A3, Bq hx, Ah]
   rw [Ao (by omega), A8, w64 (by omega), ← Baz, Eu hx]
   rfl)
  (by unfold H1; simp only [Ae, Ab, C0, An, List.take_length])
 unfold Fw Sd
 simp only [Ag, Ab]
 rw [show Ay H1 ([], l, (l.length : Int), (0 : Int), ()) = some (cat l, ()) from hr]
 rfl
end
end Go.Proofs.YtggdikabbngbaaaGreat

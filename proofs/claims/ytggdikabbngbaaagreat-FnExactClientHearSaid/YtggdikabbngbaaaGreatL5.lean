/-
  That the program and the reference answer alike, in plain terms, and that the laws answer true.
-/
import Derived.Test.YtggdikabbngbaaaGreatL4
namespace Go.Proofs.YtggdikabbngbaaaGreat
open Go.RowKit
set_option linter.unusedVariables false
set_option linter.unusedSimpArgs false
set_option maxHeartbeats 4000000
noncomputable section
theorem Gu {E : Type} {l : List E} {i : Nat} {x : E} (h : l[i]? = some x) : l.take i ++ [x] = l.take (i + 1) := by
 rw [List.take_add_one, h]; rfl
theorem Cz (b : YBs) (h : b.1.length ≤ 4294967296) : A7 b = some b := by
 unfold A7 Apb
 simp only [Am, Ae, List.length_nil, Nat.zero_add, List.nil_append]
 rw [Ao h]; rfl
def byt (n : Int) (j : Nat) : YB := (IntKind.u8.wrap (IntKind.i64.wrap ((BitVec.ofInt (IntKind.i64.bits) (Int.fdiv n (2 ^ (min (8 * j) IntKind.i64.bits))) &&& BitVec.ofInt (IntKind.i64.bits) (255 : Int)).toNat : Nat)), ())
def Fl (n : Int) (k i : Nat) : List YB := (List.range i).map fun j => byt n (k - 1 - j)
theorem Hq (n : Int) (k i : Nat) : (Fl n k i).length = i := by simp [Fl]
theorem Bmt : Jb = Gc := rfl
theorem A9u (b : List YB) (n : Int) (k : Nat) (h1 : 1 ≤ k) (h6 : k ≤ 6) (hl : b.length ≤ 1073741824) : Gc (b, ()) (n, ()) ((k : Int), ()) = some (b ++ Fl n k k, ()) := by
 have hr := C9 (B := M7) k (fun i => (n, b ++ Fl n k i, (k : Int) - 1 - (i : Int), ())) (b ++ Fl n k k, ())
  (fun i hi => by
   unfold M7
   simp only [Ah, Am, Ae]
   have e : (8 : Int) * ((k : Int) - 1 - (i : Int)) = ((8 * (k - 1 - i) : Nat) : Int) := by omega
   rw [Ao (by omega), Ay, w64 (n := 8 * ((k : Int) - 1 - (i : Int))) (by omega), Ao (by omega), A8, Ao (by simp [Hq]; omega), A8, w64 (n := (k : Int) - 1 - (i : Int) - 1) (by omega), e, Int.toNat_natCast]
   have e2 : (b ++ Fl n k i) ++ [byt n (k - 1 - i)] = b ++ Fl n k (i + 1) := by
    unfold Fl; rw [List.range_succ, List.map_append, List.append_assoc]; rfl
   rw [← e2, show (k : Int) - 1 - ((i + 1 : Nat) : Int) = (k : Int) - 1 - (i : Int) - 1 by omega]
   rfl)
  (by unfold M7; simp only [Ah, Ae, Am]; rw [Bg (by omega), Ap])
 unfold Gc Aav
 simp only [Ah, Am, Ak, Ae, List.nil_append, List.length_nil, Nat.zero_add]
 rw [Ao (by omega), A8, Bg (by omega), Ap, Bg (by omega), Ap, w64 (by omega)]
 have e0 : (n, b, (k : Int) - 1, ()) = (n, b ++ Fl n k 0, (k : Int) - 1 - ((0 : Nat) : Int), ()) := by simp [Fl]
 rw [e0, hr]
 rfl
theorem Bil (b : List YB) (n : Int) (k : Nat) (h1 : 1 ≤ k) (h6 : k ≤ 6) (hl : b.length ≤ 1073741824) : Jb (b, ()) (n, ()) ((k : Int), ()) = some (b ++ Fl n k k, ()) := by
 rw [Bmt]; exact A9u b n k h1 h6 hl
theorem Aak (b : List YB) (n : Int) (hl : b.length ≤ 1073741824) : Gc (b, ()) (n, ()) ((4 : Int), ()) = some (b ++ Fl n 4 4, ()) := A9u b n 4 (by omega) (by omega) hl
theorem Bmu (b : List YB) (n : Int) (hl : b.length ≤ 1073741824) : Gc (b, ()) (n, ()) ((6 : Int), ()) = some (b ++ Fl n 6 6, ()) := A9u b n 6 (by omega) (by omega) hl
theorem Atd (b : List YB) (n : Int) (hl : b.length ≤ 1073741824) : Jb (b, ()) (n, ()) ((4 : Int), ()) = some (b ++ Fl n 4 4, ()) := Bil b n 4 (by omega) (by omega) hl
theorem Bd8 (b : List YB) (n : Int) (hl : b.length ≤ 1073741824) : Jb (b, ()) (n, ()) ((6 : Int), ()) = some (b ++ Fl n 6 6, ()) := Bil b n 6 (by omega) (by omega) hl
def cat : List YBs → List YB
 | [] => []
 | x :: r => x.1 ++ cat r
theorem A9v (l : List YBs) (x : YBs) : cat (l ++ [x]) = cat l ++ x.1 := by
 induction l with
 | nil => simp [cat]
 | cons y r ih => simp [cat, ih]
theorem Bda (l : List YBs) (i : Nat) : (cat (l.take i)).length ≤ (cat l).length := by
 induction l generalizing i with
 | nil => simp
 | cons y r ih => cases i with
  | zero => simp [cat]
  | succ i => simp [cat]; exact ih i
theorem Jh (l : List YBs) (h : (cat l).length ≤ 4294967296) (h2 : l.length ≤ 4294967296) : Eg (l, ()) = some (cat l, ()) := by
 have hr := C9 (B := Hk) l.length (fun i => (cat (l.take i), l, (l.length : Int), (i : Int), ())) (cat l, ())
  (fun i hi => by
   have hx := List.getElem?_eq_getElem hi
   have h3 := Bda l (i + 1)
   rw [← Gu hx, A9v] at h3
   simp only [List.length_append] at h3
   unfold Hk
   simp only [Ah, Ak, Ae, Am, El hi, Ay, Ch hx, Al]
   rw [Ao (by omega), A8, w64 (by omega), ← A9v, Gu hx]
   rfl)
  (by unfold Hk; simp only [Ah, Ae, Gk, Ap, List.take_length])
 unfold Eg Qx
 simp only [Ak, Ae]
 rw [show A0 Hk ([], l, (l.length : Int), (0 : Int), ()) = some (cat l, ()) from hr]
 rfl
end
end Go.Proofs.YtggdikabbngbaaaGreat

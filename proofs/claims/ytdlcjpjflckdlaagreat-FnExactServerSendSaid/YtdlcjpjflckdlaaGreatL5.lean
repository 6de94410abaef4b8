/-
  That the program and the reference answer alike, in plain terms, and that the laws answer true.
-/
import Derived.Test.YtdlcjpjflckdlaaGreatL4
namespace Go.Proofs.YtdlcjpjflckdlaaGreat
open Go.RowKit
set_option linter.unusedVariables false
set_option linter.unusedSimpArgs false
set_option maxHeartbeats 4000000
noncomputable section
/-! ## Copies -/
theorem snoc_take {E : Type} {l : List E} {i : Nat} {x : E} (h : l[i]? = some x) : l.take i ++ [x] = l.take (i + 1) := by
  rw [List.take_add_one, h]; rfl
theorem i_clone (b : YBs) (h : b.1.length ≤ 4294967296) : V_i_clone b = some b := by
  unfold V_i_clone T_i_clone
  simp only [val_chk, val_leaf, List.length_nil, Nat.zero_add, List.nil_append]
  rw [dec_t h]; rfl
def byt (n : Int) (j : Nat) : YB := (IntKind.u8.wrap (IntKind.i64.wrap ((BitVec.ofInt (IntKind.i64.bits) (Int.fdiv n (2 ^ (min (8 * j) IntKind.i64.bits))) &&& BitVec.ofInt (IntKind.i64.bits) (255 : Int)).toNat : Nat)), ())
def bytN (n : Int) (k i : Nat) : List YB := (List.range i).map fun j => byt n (k - 1 - j)
theorem bytN_len (n : Int) (k i : Nat) : (bytN n k i).length = i := by simp [bytN]
theorem PutN_eq : V_i_PutN = V_s_PutN := rfl
theorem s_PutN (b : List YB) (n : Int) (k : Nat) (h1 : 1 ≤ k) (h6 : k ≤ 6) (hl : b.length ≤ 1073741824) : V_s_PutN (b, ()) (n, ()) ((k : Int), ()) = some (b ++ bytN n k k, ()) := by
  have hr := loop_run (B := B_s_PutN_5) k (fun i => (n, b ++ bytN n k i, (k : Int) - 1 - (i : Int), ())) (b ++ bytN n k k, ())
    (fun i hi => by
      unfold B_s_PutN_5
      simp only [val_br, val_chk, val_leaf]
      have e : (8 : Int) * ((k : Int) - 1 - (i : Int)) = ((8 * (k - 1 - i) : Nat) : Int) := by omega
      rw [dec_t (by omega), br_t, w64 (n := 8 * ((k : Int) - 1 - (i : Int))) (by omega), dec_t (by omega), chk_t, dec_t (by simp [bytN_len]; omega), chk_t, w64 (n := (k : Int) - 1 - (i : Int) - 1) (by omega), e, Int.toNat_natCast]
      have e2 : (b ++ bytN n k i) ++ [byt n (k - 1 - i)] = b ++ bytN n k (i + 1) := by
        unfold bytN; rw [List.range_succ, List.map_append, List.append_assoc]; rfl
      rw [← e2, show (k : Int) - 1 - ((i + 1 : Nat) : Int) = (k : Int) - 1 - (i : Int) - 1 by omega]
      rfl)
    (by unfold B_s_PutN_5; simp only [val_br, val_leaf, val_chk]; rw [dec_f (by omega), br_f])
  unfold V_s_PutN T_s_PutN
  simp only [val_br, val_chk, val_ob, val_leaf, List.nil_append, List.length_nil, Nat.zero_add]
  rw [dec_t (by omega), chk_t, dec_f (by omega), br_f, dec_f (by omega), br_f, w64 (by omega)]
  have e0 : (n, b, (k : Int) - 1, ()) = (n, b ++ bytN n k 0, (k : Int) - 1 - ((0 : Nat) : Int), ()) := by simp [bytN]
  rw [e0, hr]
  rfl
theorem i_PutN (b : List YB) (n : Int) (k : Nat) (h1 : 1 ≤ k) (h6 : k ≤ 6) (hl : b.length ≤ 1073741824) : V_i_PutN (b, ()) (n, ()) ((k : Int), ()) = some (b ++ bytN n k k, ()) := by
  rw [PutN_eq]; exact s_PutN b n k h1 h6 hl
theorem s_PutN4 (b : List YB) (n : Int) (hl : b.length ≤ 1073741824) : V_s_PutN (b, ()) (n, ()) ((4 : Int), ()) = some (b ++ bytN n 4 4, ()) := s_PutN b n 4 (by omega) (by omega) hl
theorem s_PutN6 (b : List YB) (n : Int) (hl : b.length ≤ 1073741824) : V_s_PutN (b, ()) (n, ()) ((6 : Int), ()) = some (b ++ bytN n 6 6, ()) := s_PutN b n 6 (by omega) (by omega) hl
theorem i_PutN4 (b : List YB) (n : Int) (hl : b.length ≤ 1073741824) : V_i_PutN (b, ()) (n, ()) ((4 : Int), ()) = some (b ++ bytN n 4 4, ()) := i_PutN b n 4 (by omega) (by omega) hl
theorem i_PutN6 (b : List YB) (n : Int) (hl : b.length ≤ 1073741824) : V_i_PutN (b, ()) (n, ()) ((6 : Int), ()) = some (b ++ bytN n 6 6, ()) := i_PutN b n 6 (by omega) (by omega) hl
def cat : List YBs → List YB
  | [] => []
  | x :: r => x.1 ++ cat r
theorem cat_snoc (l : List YBs) (x : YBs) : cat (l ++ [x]) = cat l ++ x.1 := by
  induction l with
  | nil => simp [cat]
  | cons y r ih => simp [cat, ih]
theorem cat_take_le (l : List YBs) (i : Nat) : (cat (l.take i)).length ≤ (cat l).length := by
  induction l generalizing i with
  | nil => simp
  | cons y r ih => cases i with
    | zero => simp [cat]
    | succ i => simp [cat]; exact ih i
theorem i_joined (l : List YBs) (h : (cat l).length ≤ 4294967296) (h2 : l.length ≤ 4294967296) : V_i_joined (l, ()) = some (cat l, ()) := by
  have hr := loop_run (B := B_i_joined_3) l.length (fun i => (cat (l.take i), l, (l.length : Int), (i : Int), ())) (cat l, ())
    (fun i hi => by
      have hx := List.getElem?_eq_getElem hi
      have h3 := cat_take_le l (i + 1)
      rw [← snoc_take hx, cat_snoc] at h3
      simp only [List.length_append] at h3
      unfold B_i_joined_3
      simp only [val_br, val_ob, val_leaf, val_chk, lt_dec hi, br_t, idx_at hx, ob_s]
      rw [dec_t (by omega), chk_t, w64 (by omega), ← cat_snoc, snoc_take hx]
      rfl)
    (by unfold B_i_joined_3; simp only [val_br, val_leaf, ge_dec, br_f, List.take_length])
  unfold V_i_joined T_i_joined
  simp only [val_ob, val_leaf]
  rw [show iterO B_i_joined_3 ([], l, (l.length : Int), (0 : Int), ()) = some (cat l, ()) from hr]
  rfl
end
end Go.Proofs.YtdlcjpjflckdlaaGreat

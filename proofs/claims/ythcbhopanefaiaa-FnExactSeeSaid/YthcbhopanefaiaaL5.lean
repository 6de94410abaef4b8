/-
  That the program and the reference answer alike, in plain terms, and that the laws answer true.
-/
import Derived.Test.YthcbhopanefaiaaL4
namespace Go.Proofs.Ythcbhopanefaiaa
open Go.RowKit
set_option linter.unusedVariables false
set_option linter.unusedSimpArgs false
set_option maxHeartbeats 4000000
noncomputable section
/-! ## Copies -/
theorem snoc_take {E : Type} {l : List E} {i : Nat} {x : E} (h : l[i]? = some x) : l.take i ++ [x] = l.take (i + 1) := by
  rw [List.take_add_one, h]; rfl
theorem i_clone (b : YBs) (h : b.1.length ≤ 4294967296) : V_i_clone b = some b := by
  unfold V_i_clone T_i_clone
  simp only [val_chk, val_leaf, List.length_nil, Nat.zero_add, List.nil_append]
  rw [dec_t h]; rfl
theorem i_copyWires (l : List YWire) (h : l.length + sumN need_Wire l ≤ 4294967296) : V_i_copyWires (l, ()) = some (l, ()) := by
  have hl := loop_run (B := B_i_copyWires_3) l.length (fun i => (l.take i, l, (l.length : Int), (i : Int), ())) (l, ())
    (fun i hi => by
      have hx := List.getElem?_eq_getElem hi
      have h2 := sumN_at (f := need_Wire) hx
      simp only [need_Wire] at h2
      unfold B_i_copyWires_3
      simp only [val_br, val_ob, val_leaf, val_chk, lt_dec hi, br_t, idx_at hx, ob_s]
      rw [i_clone _ (by dsimp only; omega), ob_s, dec_t (by simp; omega), chk_t, w64 (by omega)]
      exact congrArg (fun t => some (Sum.inl (t, l, (l.length : Int), (i : Int) + 1, ()))) (snoc_take hx))
    (by unfold B_i_copyWires_3; simp only [val_br, val_leaf, ge_dec, br_f, List.take_length])
  unfold V_i_copyWires T_i_copyWires
  simp only [val_ob, val_leaf]
  rw [show iterO B_i_copyWires_3 ([], l, (l.length : Int), (0 : Int), ()) = some (l, ()) from hl]
  rfl
theorem s_l23Copy (l : List YWire) (h : l.length + sumN need_Wire l ≤ 4294967296) : V_s_l23Copy (l, ()) = some (l, ()) := by
  have hl := loop_run (B := B_s_l23Copy_3) l.length (fun i => (l, l.take i, (i : Int), ())) (l, ())
    (fun i hi => by
      have hx := List.getElem?_eq_getElem hi
      have h2 := sumN_at (f := need_Wire) hx
      simp only [need_Wire] at h2
      unfold B_s_l23Copy_3
      simp only [val_br, val_ob, val_leaf, val_chk, lt_dec hi, br_t, idx_at hx, ob_s]
      rw [dec_t (by simp; omega), dec_t (by simp; omega), chk_t, chk_t, w64 (by omega)]
      exact congrArg (fun t => some (Sum.inl (l, t, (i : Int) + 1, ()))) (snoc_take hx))
    (by unfold B_s_l23Copy_3; simp only [val_br, val_leaf, ge_dec, br_f, List.take_length])
  unfold V_s_l23Copy T_s_l23Copy
  simp only [val_ob, val_leaf]
  rw [show iterO B_s_l23Copy_3 (l, [], (0 : Int), ()) = some (l, ()) from hl]
  rfl
def wireOk (w : YWire) : Bool := addrOk (w.1, w.2.1, ()) && (addrOk (w.2.2.1, w.2.2.2.1, ()) && decide ((w.2.2.2.2.1.length : Int) ≤ 200))
theorem i_WireOk (w : YWire) : V_i_WireOk w = some (wireOk w, ()) := by
  unfold V_i_WireOk T_i_WireOk wireOk
  simp only [val_br, val_ob, val_leaf, i_AddrOk, ob_s, br_and]
theorem s_WireOk (w : YWire) : V_s_WireOk w = some (wireOk w, ()) := by
  unfold V_s_WireOk T_s_WireOk wireOk
  simp only [val_br, val_ob, val_leaf, s_AddrOk, ob_s, br_and]
def wiresOk (l : List YWire) : Bool := noneB (fun _ x => !wireOk x) l && decide ((l.length : Int) ≤ 90)
theorem i_WiresOk (l : List YWire) (h : l.length ≤ 4294967296) : V_i_WiresOk (l, ()) = some (wiresOk l, ()) := by
  have hl := loop_none (B := B_i_WiresOk_2) l (fun i => (l, l, (l.length : Int), (i : Int), ())) (fun _ x => !wireOk x) (false, ()) (l, ())
    (fun i x hi hx => by
      unfold B_i_WiresOk_2
      simp (disch := omega) only [val_br, val_ob, val_leaf, lt_dec hi, br_t, idx_at hx, ob_s, w64, i_WireOk]
      rfl)
    (by unfold B_i_WiresOk_2; simp only [val_br, val_leaf, ge_dec, br_f])
  unfold V_i_WiresOk T_i_WiresOk wiresOk
  simp only [val_ob, val_leaf, val_sm]
  rw [show ((0 : Int)) = ((0 : Nat) : Int) from rfl, hl]
  simp only [ob_s]
  cases noneB (fun _ (x : YWire) => !wireOk x) l <;> rfl
theorem s_WiresOk (l : List YWire) (h : l.length ≤ 4294967296) : V_s_WiresOk (l, ()) = some (wiresOk l, ()) := by
  have hl := loop_none (B := B_s_WiresOk_2) l (fun i => (l, (i : Int), ())) (fun _ x => !wireOk x) (false, ()) (l, ())
    (fun i x hi hx => by
      unfold B_s_WiresOk_2
      simp (disch := omega) only [val_br, val_ob, val_leaf, lt_dec hi, br_t, idx_at hx, ob_s, w64, s_WireOk]
      rfl)
    (by unfold B_s_WiresOk_2; simp only [val_br, val_leaf, ge_dec, br_f])
  unfold V_s_WiresOk T_s_WiresOk wiresOk
  simp only [val_ob, val_leaf, val_sm]
  rw [show ((0 : Int)) = ((0 : Nat) : Int) from rfl, hl]
  simp only [ob_s]
  cases noneB (fun _ (x : YWire) => !wireOk x) l <;> rfl
theorem noneB_snoc {E : Type} {q : E → Bool} {l : List E} {x : E} : noneB (fun _ y => q y) (l ++ [x]) = (noneB (fun _ y => q y) l && !q x) := by
  apply beq_of_iff
  rw [Bool.and_eq_true, noneB_t, noneB_t, Bool.not_eq_true']
  constructor
  · intro h
    refine ⟨fun j y hj => h j y ?_, h l.length x (by simp)⟩
    rw [List.getElem?_append_left (List.getElem?_eq_some_iff.1 hj).1]; exact hj
  · rintro ⟨h1, h2⟩ j y hj
    rcases Nat.lt_or_ge j l.length with hlt | hge
    · rw [List.getElem?_append_left hlt] at hj; exact h1 j y hj
    · rw [List.getElem?_append_right hge] at hj
      have : j - l.length = 0 := by
        have := (List.getElem?_eq_some_iff.1 hj).1; simp at this; omega
      rw [this] at hj; simp at hj; subst hj; exact h2
def see (l : List YWire) (w : YWire) : List YWire := bif wiresOk (l ++ [w]) then l ++ [w] else l
theorem i_See (l : List YWire) (w : YWire) (h : l.length + sumN need_Wire l + need_Wire w ≤ 1073741824) : V_i_See (l, ()) w = some (see l w, ()) := by
  have h1 : (l ++ [w]).length + sumN need_Wire (l ++ [w]) ≤ 4294967296 := by rw [sumN_app]; simp [sumN]; omega
  have h2 : (l ++ [w]).length ≤ 4294967296 := by omega
  unfold V_i_See T_i_See see
  simp only [val_br, val_ob, val_leaf, val_chk, List.nil_append, List.length_nil, Nat.zero_add]
  rw [dec_t (by omega), chk_t, dec_t (by simp; omega), chk_t, i_copyWires _ h1, ob_s, i_WiresOk _ h2, ob_s, i_copyWires l (by omega), ob_s]
  cases wiresOk (l ++ [w]) <;> rfl
theorem s_See (l : List YWire) (w : YWire) (h : l.length + sumN need_Wire l + need_Wire w ≤ 1073741824) : V_s_See (l, ()) w = some (see l w, ()) := by
  have hw : need_Wire w = w.2.2.2.2.1.length := rfl
  unfold V_s_See T_s_See see
  simp only [val_br, val_ob, val_leaf, val_chk, List.nil_append, List.length_nil, Nat.zero_add]
  rw [s_l23Copy l (by omega), s_WiresOk _ (by omega), s_WireOk]
  simp only [ob_s]
  rw [dec_t (by omega), dec_t (by simp; omega), chk_t, chk_t]
  have e : wiresOk (l ++ [w]) = (wiresOk l && (wireOk w && !((l.length : Int) == 90))) := by
    unfold wiresOk
    rw [noneB_snoc, Bool.not_not]
    apply beq_of_iff
    simp
    constructor
    · rintro ⟨⟨a, b⟩, c⟩; exact ⟨⟨a, by omega⟩, b, by omega⟩
    · rintro ⟨⟨a, b⟩, c, d⟩; exact ⟨⟨a, c⟩, by omega⟩
  rw [e]
  cases wiresOk l <;> cases wireOk w <;> cases ((l.length : Int) == 90) <;> rfl
theorem need_see (l : List YWire) (w : YWire) : (see l w).length + sumN need_Wire (see l w) ≤ l.length + sumN need_Wire l + need_Wire w + 1 := by
  unfold see
  cases wiresOk (l ++ [w])
  · simp; omega
  · simp [sumN_app, sumN]; omega
def byt (n : Int) (j : Nat) : YB := (IntKind.u8.wrap (IntKind.i64.wrap ((BitVec.ofInt (IntKind.i64.bits) (Int.fdiv n (2 ^ (min (8 * j) IntKind.i64.bits))) &&& BitVec.ofInt (IntKind.i64.bits) (255 : Int)).toNat : Nat)), ())
def bytN (n : Int) (k i : Nat) : List YB := (List.range i).map fun j => byt n (k - 1 - j)
theorem bytN_len (n : Int) (k i : Nat) : (bytN n k i).length = i := by simp [bytN]
theorem PutN_eq : V_i_PutN = V_s_PutN := rfl
theorem s_PutN (b : List YB) (n : Int) (k : Nat) (h1 : 1 ≤ k) (h6 : k ≤ 6) (hl : b.length ≤ 1073741824) : V_s_PutN (b, ()) (n, ()) ((k : Int), ()) = some (b ++ bytN n k k, ()) := by
  have hr := loop_run (B := B_s_PutN_5) k (fun i => (n, b ++ bytN n k i, (k : Int) - 1 - (i : Int), ())) (b ++ bytN n k k, ())
    (fun i hi => by
      unfold B_s_PutN_5
      simp only [val_br, val_chk, val_leaf]
      have e : (8 : Int) * ((k : Int) - 1 - (i : Int)) = ((8 * (k - 1 - i) : Nat) : Int) := by omega
      rw [dec_t (by omega), br_t, w64 (n := 8 * ((k : Int) - 1 - (i : Int))) (by omega), dec_t (by omega), chk_t, dec_t (by simp [bytN_len]; omega), chk_t, w64 (n := (k : Int) - 1 - (i : Int) - 1) (by omega), e, Int.toNat_natCast]
      have e2 : (b ++ bytN n k i) ++ [byt n (k - 1 - i)] = b ++ bytN n k (i + 1) := by
        unfold bytN; rw [List.range_succ, List.map_append, List.append_assoc]; rfl
      rw [← e2, show (k : Int) - 1 - ((i + 1 : Nat) : Int) = (k : Int) - 1 - (i : Int) - 1 by omega]
      rfl)
    (by unfold B_s_PutN_5; simp only [val_br, val_leaf, val_chk]; rw [dec_f (by omega), br_f])
  unfold V_s_PutN T_s_PutN
  simp only [val_br, val_chk, val_ob, val_leaf, List.nil_append, List.length_nil, Nat.zero_add]
  rw [dec_t (by omega), chk_t, dec_f (by omega), br_f, dec_f (by omega), br_f, w64 (by omega)]
  have e0 : (n, b, (k : Int) - 1, ()) = (n, b ++ bytN n k 0, (k : Int) - 1 - ((0 : Nat) : Int), ()) := by simp [bytN]
  rw [e0, hr]
  rfl
theorem i_PutN (b : List YB) (n : Int) (k : Nat) (h1 : 1 ≤ k) (h6 : k ≤ 6) (hl : b.length ≤ 1073741824) : V_i_PutN (b, ()) (n, ()) ((k : Int), ()) = some (b ++ bytN n k k, ()) := by
  rw [PutN_eq]; exact s_PutN b n k h1 h6 hl
theorem s_PutN4 (b : List YB) (n : Int) (hl : b.length ≤ 1073741824) : V_s_PutN (b, ()) (n, ()) ((4 : Int), ()) = some (b ++ bytN n 4 4, ()) := s_PutN b n 4 (by omega) (by omega) hl
theorem s_PutN6 (b : List YB) (n : Int) (hl : b.length ≤ 1073741824) : V_s_PutN (b, ()) (n, ()) ((6 : Int), ()) = some (b ++ bytN n 6 6, ()) := s_PutN b n 6 (by omega) (by omega) hl
theorem i_PutN4 (b : List YB) (n : Int) (hl : b.length ≤ 1073741824) : V_i_PutN (b, ()) (n, ()) ((4 : Int), ()) = some (b ++ bytN n 4 4, ()) := i_PutN b n 4 (by omega) (by omega) hl
theorem i_PutN6 (b : List YB) (n : Int) (hl : b.length ≤ 1073741824) : V_i_PutN (b, ()) (n, ()) ((6 : Int), ()) = some (b ++ bytN n 6 6, ()) := i_PutN b n 6 (by omega) (by omega) hl
def cat : List YBs → List YB
  | [] => []
  | x :: r => x.1 ++ cat r
theorem cat_snoc (l : List YBs) (x : YBs) : cat (l ++ [x]) = cat l ++ x.1 := by
  induction l with
  | nil => simp [cat]
  | cons y r ih => simp [cat, ih]
theorem cat_take_le (l : List YBs) (i : Nat) : (cat (l.take i)).length ≤ (cat l).length := by
  induction l generalizing i with
  | nil => simp
  | cons y r ih => cases i with
    | zero => simp [cat]
    | succ i => simp [cat]; exact ih i
theorem i_joined (l : List YBs) (h : (cat l).length ≤ 4294967296) (h2 : l.length ≤ 4294967296) : V_i_joined (l, ()) = some (cat l, ()) := by
  have hr := loop_run (B := B_i_joined_3) l.length (fun i => (cat (l.take i), l, (l.length : Int), (i : Int), ())) (cat l, ())
    (fun i hi => by
      have hx := List.getElem?_eq_getElem hi
      have h3 := cat_take_le l (i + 1)
      rw [← snoc_take hx, cat_snoc] at h3
      simp only [List.length_append] at h3
      unfold B_i_joined_3
      simp only [val_br, val_ob, val_leaf, val_chk, lt_dec hi, br_t, idx_at hx, ob_s]
      rw [dec_t (by omega), chk_t, w64 (by omega), ← cat_snoc, snoc_take hx]
      rfl)
    (by unfold B_i_joined_3; simp only [val_br, val_leaf, ge_dec, br_f, List.take_length])
  unfold V_i_joined T_i_joined
  simp only [val_ob, val_leaf]
  rw [show iterO B_i_joined_3 ([], l, (l.length : Int), (0 : Int), ()) = some (cat l, ()) from hr]
  rfl
end
end Go.Proofs.Ythcbhopanefaiaa

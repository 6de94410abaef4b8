/-
  That the program and the reference answer alike, in plain terms, and that the laws answer true.
-/
import Derived.Test.YtdlcjpjflckdlaaGreatL6
namespace Go.Proofs.YtdlcjpjflckdlaaGreat
open Go.RowKit
set_option linter.unusedVariables false
set_option linter.unusedSimpArgs false
set_option maxHeartbeats 4000000
noncomputable section
/-! ## Words of 32 bits -/
def m32 (x : Int) : Int := IntKind.i64.wrap ((BitVec.ofInt (IntKind.i64.bits) x &&& BitVec.ofInt (IntKind.i64.bits) (4294967295 : Int)).toNat : Nat)
theorem m32_eq (x : Int) : m32 x = x % 4294967296 := by
  have h : ((BitVec.ofInt (IntKind.i64.bits) x &&& BitVec.ofInt (IntKind.i64.bits) (4294967295 : Int)).toNat : Int) = x % 4294967296 := by
    show ((BitVec.ofInt 64 x &&& BitVec.ofInt 64 (4294967295 : Int)).toNat : Int) = x % 4294967296
    rw [BitVec.toNat_and, BitVec.toNat_ofInt, BitVec.toNat_ofInt]
    have e : ((4294967295 : Int) % ((2 ^ 64 : Nat) : Int)).toNat = 2 ^ 32 - 1 := by decide
    rw [e, Nat.and_two_pow_sub_one_eq_mod]
    have e2 : ((2 ^ 64 : Nat) : Int) = 18446744073709551616 := by decide
    rw [e2]
    omega
  unfold m32
  rw [h, w64 (by omega)]
theorem wrapM (s : Int) : IntKind.i64.wrap s % 4294967296 = s % 4294967296 := by rw [IntKind.wrap_i64]; omega
theorem m32_wrap (s : Int) : m32 (IntKind.i64.wrap s) = s % 4294967296 := by rw [m32_eq, wrapM]
theorem m32_w (x : Int) : 0 ≤ m32 x ∧ m32 x ≤ 4294967295 := by rw [m32_eq]; omega
theorem m32_addr (d t : Int) : m32 (IntKind.i64.wrap (d + m32 t)) = m32 (IntKind.i64.wrap (d + t)) := by rw [m32_wrap, m32_wrap, m32_eq]; omega
theorem m32_add2 (t u : Int) : m32 (IntKind.i64.wrap (m32 t + m32 u)) = m32 (IntKind.i64.wrap (t + u)) := by rw [m32_wrap, m32_wrap, m32_eq, m32_eq]; omega
def rotE (x n : Int) : Int := m32 (IntKind.i64.wrap ((BitVec.ofInt (IntKind.i64.bits) (Int.fdiv (m32 x) (2 ^ (min n.toNat IntKind.i64.bits))) ||| BitVec.ofInt (IntKind.i64.bits) (IntKind.i64.wrap (m32 x * 2 ^ (min (IntKind.i64.wrap (32 - n)).toNat IntKind.i64.bits)))).toNat : Nat))
theorem i_Rot (x n : YI) (h1 : 1 ≤ n.1) (h2 : n.1 ≤ 31) : V_i_Rot x n = some (rotE x.1 n.1, ()) := by
  unfold V_i_Rot T_i_Rot
  simp only [val_br, val_chk, val_leaf]
  rw [dec_f (by omega), dec_f (by omega), dec_t (by omega), w64 (n := 32 - n.1) (by omega), dec_t (by omega)]
  simp only [br_f, chk_t, rotE]
  rw [w64 (n := 32 - n.1) (by omega)]
  rfl
theorem s_Rot (x n : YI) (h1 : 1 ≤ n.1) (h2 : n.1 ≤ 31) : V_s_Rot x n = some (rotE x.1 n.1, ()) := by
  unfold V_s_Rot T_s_Rot
  simp only [val_br, val_chk, val_leaf]
  rw [dec_f (by omega), dec_f (by omega), dec_t (by omega), w64 (n := 32 - n.1) (by omega), dec_t (by omega)]
  simp only [br_f, chk_t, rotE]
  rw [w64 (n := 32 - n.1) (by omega)]
  rfl
theorem i_Add32 (a b : YI) : V_i_Add32 a b = some (m32 (IntKind.i64.wrap (a.1 + b.1)), ()) := rfl
def getNum (l : List YB) : Int := l.foldl (fun n x => IntKind.i64.wrap (IntKind.i64.wrap (n * 256) + IntKind.i64.wrap x.1)) 0
theorem getNum_snoc (l : List YB) (x : YB) : getNum (l ++ [x]) = IntKind.i64.wrap (IntKind.i64.wrap (getNum l * 256) + IntKind.i64.wrap x.1) := by simp [getNum]
def getN (b : List YB) (p k : Int) : YI × YI × (Bool × Unit) :=
  if 1 ≤ k ∧ k ≤ 6 ∧ 0 ≤ p ∧ p + k ≤ b.length then ((getNum ((b.drop p.toNat).take k.toNat), ()), (p + k, ()), (true, ())) else ((0, ()), (0, ()), (false, ()))
theorem s_GetN (b : List YB) (p k : Int) (hl : b.length ≤ 4294967296) : V_s_GetN (b, ()) (p, ()) (k, ()) = some (getN b p k) := by
  unfold V_s_GetN T_s_GetN getN
  simp only [val_br, val_ob, val_leaf]
  by_cases h1 : k < 1
  · rw [dec_t h1, br_t, if_neg (by omega)]
  rw [dec_f h1, br_f]
  by_cases h2 : k > 6
  · rw [dec_t h2, br_t, if_neg (by omega)]
  rw [dec_f h2, br_f]
  by_cases h3 : p < 0
  · rw [dec_t h3, br_t, if_neg (by omega)]
  rw [dec_f h3, br_f, w64 (n := (b.length : Int) - k) (by omega)]
  by_cases h4 : p > (b.length : Int) - k
  · rw [dec_t h4, br_t, if_neg (by omega)]
  rw [dec_f h4, br_f, if_pos (by omega)]
  have hr := loop_run (B := B_s_GetN_5) k.toNat (fun i => (b, p, k, getNum ((b.drop p.toNat).take i), (i : Int), ())) (p, k, getNum ((b.drop p.toNat).take k.toNat), ())
    (fun i hi => by
      have hlt : p.toNat + i < b.length := by omega
      have hx := List.getElem?_eq_getElem hlt
      have hx2 : (b.drop p.toNat)[i]? = some b[p.toNat + i] := by rw [List.getElem?_drop]; exact hx
      unfold B_s_GetN_5
      simp only [val_br, val_ob, val_leaf]
      rw [dec_t (by omega), br_t, w64 (n := p + (i : Int)) (by omega), show p + (i : Int) = ((p.toNat + i : Nat) : Int) by omega, idx_at hx, ob_s, w64 (n := (i : Int) + 1) (by omega), ← snoc_take hx2, getNum_snoc]
      rfl)
    (by
      unfold B_s_GetN_5
      simp only [val_br, val_ob, val_leaf]
      rw [dec_f (by omega), br_f])
  rw [show iterO B_s_GetN_5 (b, p, k, (0 : Int), (0 : Int), ()) = _ from hr, ob_s]
  simp only
  rw [w64 (by omega)]
theorem i_Cut (b : List YB) (p n : Int) (hl : b.length ≤ 4294967296) : V_i_Cut (b, ()) (p, ()) (n, ()) = some (if 0 ≤ p ∧ 0 ≤ n ∧ p + n ≤ b.length then (((b.drop p.toNat).take n.toNat, ()), (true, ())) else (([], ()), (false, ()))) := by
  unfold V_i_Cut T_i_Cut
  simp only [val_br, val_chk, val_leaf]
  by_cases h1 : p < 0
  · rw [dec_t h1, br_t, if_neg (by omega)]
  rw [dec_f h1, br_f]
  by_cases h2 : n < 0
  · rw [dec_t h2, br_t, if_neg (by omega)]
  rw [dec_f h2, br_f]
  by_cases h3 : p > (b.length : Int)
  · rw [dec_t h3, br_t, if_neg (by omega)]
  rw [dec_f h3, br_f, w64 (n := (b.length : Int) - p) (by omega)]
  by_cases h4 : n > (b.length : Int) - p
  · rw [dec_t h4, br_t, if_neg (by omega)]
  rw [dec_f h4, br_f, if_pos (by omega), w64 (n := p + n) (by omega), dec_t (by omega), dec_t (by omega), dec_t (by omega), dec_t (by simp; omega)]
  simp only [chk_t, List.nil_append]
  rw [show (p + n).toNat = p.toNat + n.toNat by omega, List.drop_take, Nat.add_sub_cancel_left]
theorem i_GetN (b : List YB) (p k : Int) (hl : b.length ≤ 4294967296) : V_i_GetN (b, ()) (p, ()) (k, ()) = some (getN b p k) := by
  unfold V_i_GetN T_i_GetN getN
  simp only [val_br, val_ob, val_leaf]
  by_cases h1 : k < 1
  · rw [dec_t h1, br_t, if_neg (by omega)]
  rw [dec_f h1, br_f]
  by_cases h2 : k > 6
  · rw [dec_t h2, br_t, if_neg (by omega)]
  rw [dec_f h2, br_f, i_Cut _ _ _ hl, ob_s]
  by_cases h3 : 0 ≤ p ∧ 0 ≤ k ∧ p + k ≤ b.length
  · rw [if_pos h3, if_pos (by omega)]
    simp only [Bool.not_true, br_f]
    have hlen : ((b.drop p.toNat).take k.toNat).length = k.toNat := by simp; omega
    have hr := loop_run (B := B_i_GetN_8) k.toNat (fun i => (p, k, getNum (((b.drop p.toNat).take k.toNat).take i), (b.drop p.toNat).take k.toNat, (((b.drop p.toNat).take k.toNat).length : Int), (i : Int), ())) (p, k, getNum ((b.drop p.toNat).take k.toNat), ())
      (fun i hi => by
        have hx := List.getElem?_eq_getElem (show i < ((b.drop p.toNat).take k.toNat).length by omega)
        unfold B_i_GetN_8
        simp only [val_br, val_ob, val_leaf]
        rw [dec_t (by omega), br_t, idx_at hx, ob_s, w64 (n := (i : Int) + 1) (by omega), ← snoc_take hx, getNum_snoc, Int.mul_comm 256]
        rfl)
      (by
        unfold B_i_GetN_8
        simp only [val_br, val_ob, val_leaf]
        rw [dec_f (by omega), br_f, List.take_take, Nat.min_self])
    rw [show iterO B_i_GetN_8 (p, k, (0 : Int), (b.drop p.toNat).take k.toNat, (((b.drop p.toNat).take k.toNat).length : Int), (0 : Int), ()) = _ from hr, ob_s]
    simp only
    rw [w64 (by omega)]
  · rw [if_neg h3, if_neg (by omega)]
    rfl
theorem idx_appl {E : Type} {l z : List E} {n : Int} (h0 : 0 ≤ n) (h1 : n < l.length) : idx (l ++ z) n = idx l n := by
  unfold idx
  rw [if_pos h0, if_pos h0, List.getElem?_append_left (by omega)]
theorem set_zeros {l : List YI} {i k : Nat} (h : l.length = i) (hk : i < k) (x : YI) : (l ++ List.replicate (k - i) ((0 : Int), ())).set i x = (l ++ [x]) ++ List.replicate (k - (i + 1)) ((0 : Int), ()) := by
  rw [List.set_append_right _ _ (by omega), h, Nat.sub_self, show k - i = (k - (i + 1)) + 1 by omega, List.replicate_succ, List.set_cons_zero]
  simp
theorem idx_zero {l : List YI} {i k : Nat} (h : l.length = i) (hk : i < k) : idx (l ++ List.replicate (k - i) ((0 : Int), ())) (i : Int) = some ((0 : Int), ()) := by
  rw [idx_n, List.getElem?_append_right (by omega), h, Nat.sub_self, List.getElem?_replicate, if_pos (by omega)]
theorem ok_Schedule (b : List YB) (hl : b.length ≤ 4294967296) : ∃ r, V_i_Schedule (b, ()) = some (r, ()) ∧ V_s_Schedule (b, ()) = some (r, ()) ∧ (b.length = 64 → r.length = 64) := by
  unfold V_i_Schedule T_i_Schedule V_s_Schedule T_s_Schedule
  simp only [val_br, val_ob, val_leaf]
  by_cases h : b.length = 64
  · rw [br_ff (by simp [h]), br_ff (by simp [h])]
    obtain ⟨o1, o2, h1, h2, hq⟩ := lockstep (B1 := B_i_Schedule_5) (B2 := B_s_Schedule_5)
      (fun i d1 d2 => ∃ l : List YI, l.length = i ∧ d1 = (b, l ++ List.replicate (64 - i) ((0 : Int), ()), (i : Int), ()) ∧ d2 = (b, l, (i : Int), ()))
      (fun o1 o2 => o2.1.length = 16 ∧ o1 = (o2.1 ++ List.replicate 48 ((0 : Int), ()), ())) 16
      (by
        rintro i d1 d2 hi ⟨l, hll, rfl, rfl⟩
        left
        unfold B_i_Schedule_5 B_s_Schedule_5
        simp only [val_br, val_ob, val_leaf, val_chk]
        rw [dec_t (by omega), br_t, br_t, w64 (n := 4 * (i : Int)) (by omega), i_GetN _ _ _ hl, s_GetN _ _ _ hl, ob_s, ob_s, idx_zero hll (by omega), ob_s, dec_t (by simp; omega), chk_t, w64 (by omega), Int.toNat_natCast, set_zeros hll (by omega)]
        exact ⟨_, _, rfl, rfl, l ++ [(getN b (4 * (i : Int)) 4).1], by simp [hll], rfl, rfl⟩)
      (by
        rintro d1 d2 ⟨l, hll, rfl, rfl⟩
        unfold B_i_Schedule_5 B_s_Schedule_5
        simp only [val_br, val_ob, val_leaf, val_chk]
        rw [dec_f (by omega), br_f, br_f]
        exact ⟨_, _, rfl, rfl, hll, by simp only [Nat.reduceSub]⟩)
      (d1 := (b, List.replicate 64 ((0 : Int), ()), (0 : Int), ())) (d2 := (b, [], (0 : Int), ())) ⟨[], rfl, by simp only [Nat.sub_zero, List.nil_append, Int.natCast_zero], by simp only [Int.natCast_zero]⟩
    rw [show (64 : Int).toNat = 64 from rfl, h1, h2, ob_s, ob_s]
    obtain ⟨hq1, rfl⟩ := hq
    obtain ⟨o3, o4, h3, h4, hq⟩ := lockstep (B1 := B_i_Schedule_9) (B2 := B_s_Schedule_10)
      (fun i d1 d2 => ∃ l : List YI, l.length = 16 + i ∧ d1 = (l ++ List.replicate (64 - (16 + i)) ((0 : Int), ()), ((16 + i : Nat) : Int), ()) ∧ d2 = (l, ((16 + i : Nat) : Int), ()))
      (fun o1 o2 => o1 = o2 ∧ o2.1.length = 64) 48
      (by
        rintro i d1 d2 hi ⟨l, hll, rfl, rfl⟩
        left
        obtain ⟨e1, g1, _⟩ := idx_some (l := l) (n := ((16 + i : Nat) : Int) - 15) (by omega) (by omega)
        obtain ⟨e2, g2, _⟩ := idx_some (l := l) (n := ((16 + i : Nat) : Int) - 2) (by omega) (by omega)
        obtain ⟨e3, g3, _⟩ := idx_some (l := l) (n := ((16 + i : Nat) : Int) - 7) (by omega) (by omega)
        obtain ⟨e4, g4, _⟩ := idx_some (l := l) (n := ((16 + i : Nat) : Int) - 16) (by omega) (by omega)
        unfold B_i_Schedule_9 B_s_Schedule_10
        simp only [val_br, val_ob, val_leaf, val_chk]
        rw [dec_t (by omega), br_t, br_t, w64 (n := ((16 + i : Nat) : Int) - 15) (by omega), w64 (n := ((16 + i : Nat) : Int) - 2) (by omega), w64 (n := ((16 + i : Nat) : Int) - 7) (by omega), w64 (n := ((16 + i : Nat) : Int) - 16) (by omega),
          w64 (n := ((16 + i : Nat) : Int) + 1) (by omega)]
        rw [idx_appl (by omega) (by omega), g1, ob_s, idx_appl (by omega) (by omega), g2, ob_s, i_Rot _ _ (by decide) (by decide), ob_s, i_Rot _ _ (by decide) (by decide), ob_s, i_Rot _ _ (by decide) (by decide), ob_s, i_Rot _ _ (by decide) (by decide), ob_s, idx_appl (by omega) (by omega), g3, ob_s, idx_appl (by omega) (by omega), g4, ob_s, idx_zero hll (by omega), ob_s]
        rw [ob_s, ob_s, s_Rot _ _ (by decide) (by decide), ob_s, s_Rot _ _ (by decide) (by decide), ob_s, s_Rot _ _ (by decide) (by decide), ob_s, s_Rot _ _ (by decide) (by decide), ob_s, ob_s, ob_s, Int.toNat_natCast]
        generalize IntKind.i64.wrap (((BitVec.ofInt _ _ &&& BitVec.ofInt _ (4294967295 : Int)).toNat : Nat) : Int) = z
        rw [dec_t (by rw [List.length_singleton]; omega), chk_t, set_zeros hll (by omega)]
        exact ⟨_, _, rfl, rfl, _, by simp [hll]; omega, rfl, rfl⟩)
      (by
        rintro d1 d2 ⟨l, hll, rfl, rfl⟩
        unfold B_i_Schedule_9 B_s_Schedule_10
        simp only [val_br, val_ob, val_leaf, val_chk]
        rw [dec_f (by omega), br_f, br_f]
        exact ⟨_, _, rfl, rfl, by simp, by omega⟩)
      (d1 := (o2.1 ++ List.replicate 48 ((0 : Int), ()), (16 : Int), ())) (d2 := (o2.1, (16 : Int), ())) ⟨o2.1, hq1, by simp only [Nat.add_zero, Nat.reduceSub]; rfl, rfl⟩
    rw [h3, h4]
    obtain ⟨rfl, hq2⟩ := hq
    exact ⟨o3.1, rfl, rfl, fun _ => hq2⟩
  · have h' : ¬ ((b.length : Int) = 64) := by omega
    rw [br_tt (by simpa using h'), br_tt (by simpa using h')]
    exact ⟨[], rfl, rfl, fun h2 => (h h2).elim⟩
end
end Go.Proofs.YtdlcjpjflckdlaaGreat

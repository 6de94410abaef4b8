/-
  That the program and the reference answer alike, in plain terms, and that the laws answer true.
-/
import Derived.Test.YtggdikabbngbaaaGreatL28
namespace Go.Proofs.YtggdikabbngbaaaGreat
open Go.RowKit
set_option linter.unusedVariables false
set_option linter.unusedSimpArgs false
set_option maxRecDepth 100000
set_option maxHeartbeats 4000000
noncomputable section
theorem Bfy {l : List YB} : wfB l ↔ ∀ x ∈ l, 0 ≤ x.1 ∧ x.1 ≤ 255 := by
 constructor
 ·intro h x hx
  obtain ⟨i, hi⟩ := List.getElem?_of_mem hx
  exact h i x hi
 ·intro h i x hx
  exact h x (List.mem_of_getElem? hx)
theorem Bn6 : wfB [] := Bfy.2 (by simp)
theorem u8_in (n : Int) : 0 ≤ IntKind.u8.wrap n ∧ IntKind.u8.wrap n ≤ 255 := by rw [IntKind.wrap_u8]; omega
theorem Bn7 (k n p : List YB) : wfB (mix k n p) := by
 unfold mix
 split
 ·refine Bfy.2 fun x hx => ?_
  unfold Abu at hx
  obtain ⟨j, _, rfl⟩ := List.mem_map.1 hx
  exact u8_in _
 ·exact Bn6
theorem Bn8 {k n : Int} (h : Ji k n = true) : n ≤ 40 := by
 unfold Ji at h
 cases h4 : (k == 4) <;> cases h5 : (k == 5) <;> cases h6 : (k == 6) <;> simp [h4, h5, h6] at h <;> omega
theorem Bn9 {k n p : List YB} (h1 : p.length ≤ 200) (h2 : n.length ≤ 100) (h3 : k.length ≤ 1048576) : (mix k n p).length = p.length := by
 unfold mix
 rw [if_pos ⟨h1, h2, h3⟩, Alv]
theorem Zn {w : Bo} (h : Fu w.2.1) {n : Int} (h0 : 0 ≤ n) : Xi w n = U5 w.2.1 (n % 1024).toNat := by
 obtain ⟨m, rfl⟩ := Int.eq_ofNat_of_zero_le h0
 have hlt : m % 1024 / 32 < w.2.1.length := by rw [h.1]; omega
 have hx := List.getElem?_eq_getElem hlt
 have hw := h.2 _ _ hx
 obtain ⟨k, hk⟩ := Int.eq_ofNat_of_zero_le hw.1
 have hid : idx w.2.1 ((m : Int) % 1024 / 32) = some w.2.1[m % 1024 / 32] := by
  rw [show (m : Int) % 1024 / 32 = ((m % 1024 / 32 : Nat) : Int) by omega]; exact Bq hx
 unfold Xi U5
 rw [hid, show ((m : Int) % 1024).toNat = m % 1024 by omega, hx]
 show (IntKind.i64.wrap _ == 1) = Nat.testBit (Int.toNat (w.2.1[m % 1024 / 32]).1) _
 rw [hk, show ((k : Int)).toNat = k by omega, show ((m : Int) % 32).toNat = m % 32 by omega, show min (m % 32) IntKind.i64.bits = m % 32 from Nat.min_eq_left (by show m % 32 ≤ 64; omega), show m % 1024 % 32 = m % 32 by omega]
 have e1 : Int.fdiv (k : Int) ((2 : Int) ^ (m % 32)) = ((k / 2 ^ (m % 32) : Nat) : Int) := by
  rw [show ((2 : Int) ^ (m % 32)) = ((2 ^ (m % 32) : Nat) : Int) by push_cast; rfl, Int.fdiv_eq_ediv_of_nonneg _ (Int.natCast_nonneg _)]; rfl
 have hk32 : k < 4294967296 := by omega
 have hd : k / 2 ^ (m % 32) ≤ k := Nat.div_le_self _ _
 rw [e1, K9]
 have e2 : BitVec.ofInt IntKind.i64.bits (1 : Int) = BitVec.ofNat 64 1 := K9 1
 rw [e2]
 have e3 : (BitVec.ofNat 64 (k / 2 ^ (m % 32)) &&& BitVec.ofNat 64 1).toNat = k / 2 ^ (m % 32) % 2 := by
  rw [BitVec.toNat_and, BitVec.toNat_ofNat, BitVec.toNat_ofNat, Nat.mod_eq_of_lt (a := k / 2 ^ (m % 32)) (b := 2 ^ 64) (Nat.lt_of_le_of_lt hd (by omega)), show (1 : Nat) % 2 ^ 64 = 1 from rfl, Nat.and_one_is_mod]
 have e4 : IntKind.i64.wrap (((BitVec.ofNat 64 (k / 2 ^ (m % 32)) &&& BitVec.ofNat 64 1).toNat : Nat) : Int) = ((k / 2 ^ (m % 32) % 2 : Nat) : Int) := by
  rw [e3]; exact w64 (by omega)
 show (IntKind.i64.wrap (((BitVec.ofNat 64 (k / 2 ^ (m % 32)) &&& BitVec.ofNat 64 1).toNat : Nat) : Int) == 1) = _
 rw [e4, Nat.testBit_eq_decide_div_mod_eq]
 by_cases hb : k / 2 ^ (m % 32) % 2 = 1
 ·simp [hb]
 ·have : k / 2 ^ (m % 32) % 2 = 0 := by omega
  simp [this]
theorem Bkh {w : Bo} {n : Int} (h : Ic w n = true) : J5 (Jk w n) = true := by
 unfold Ic at h
 simp only [Bool.and_eq_true] at h
 obtain ⟨h1, h2, h3⟩ := V9 h.1
 have hn := C6.1 h.2.1
 obtain ⟨c1, c2⟩ := Rn h1 (s := w.1 + 1) (by omega) (Afu w.1 n)
 obtain ⟨t1, t2⟩ := As3 (f := Abv) (g := fun x y => x || y) (fun hw hb => A4m hw hb) (fun x => by simp) c1 hn.1
 have ho := h.1
 unfold J5 at ho
 simp only [Bool.and_eq_true] at ho
 have htop : (Jk w n).1 = if w.1 < n then n else w.1 := rfl
 have hbits : (Jk w n).2.1 = Lm Abv (J2 w.2.1 (w.1 + 1) (Afu w.1 n)) n := rfl
 have hwin : Fu (Jk w n).2.1 := t1
 have htail := Afv.1 ho.2.2.1
 unfold J5
 simp only [Bool.and_eq_true]
 refine ⟨C6.2 (by rw [htop]; split <;> omega), ⟨Zc.2 fun q x hx => by have := hwin.2 q x hx; omega, by rw [hwin.1]; rfl⟩, ?_, ?_⟩
 ·refine Afv.2 fun i hi => ?_
  rw [htop] at hi ⊢
  have hp : (0 : Int) ≤ (if w.1 < n then n else w.1) + 1 + (i : Nat) := by split <;> omega
  rw [Zn hwin hp, hbits]
  generalize hq : ((if w.1 < n then n else w.1) + 1 + (i : Nat)) = p at hp
  have hp2 : p ≤ 1023 := by rw [← hq]; split at hi <;> (split <;> omega)
  have hp3 : w.1 < p ∧ n < p := by rw [← hq]; split <;> omega
  rw [t2 _ (by omega), c2 _ (by omega)]
  have hne : decide ((((p % 1024).toNat : Nat) : Int) = n % 1024) = false := decide_eq_false (by omega)
  have hold := htail (p - w.1 - 1).toNat (by omega)
  rw [show w.1 + 1 + (((p - w.1 - 1).toNat : Nat) : Int) = p by omega, Zn h1 hp] at hold
  rw [hne, hold]; rfl
 ·rw [htop]
  by_cases hlt : w.1 < n
  ·rw [if_pos hlt, Zn hwin hn.1, hbits, t2 _ (by omega)]
   rw [show decide ((((n % 1024).toNat : Nat) : Int) = n % 1024) = true from decide_eq_true (by omega)]
   simp
  ·rw [if_neg hlt, Zn hwin (by omega), hbits, t2 _ (by omega), c2 _ (by omega)]
   have hm : Afu w.1 n = 0 := by unfold Afu; rw [if_pos (by omega)]
   have hold := ho.2.2.2
   rw [show (w.1 == -1) = false by simp; omega, Bool.false_or, Zn h1 (by omega)] at hold
   rw [hold, hm]
   simp
end
end Go.Proofs.YtggdikabbngbaaaGreat

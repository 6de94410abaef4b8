/-
  That the program and the reference answer alike, in plain terms, and that the laws answer true.
-/
import Derived.Test.YtggdikabbngbaaaGreatL26
namespace Go.Proofs.YtggdikabbngbaaaGreat
open Go.RowKit
set_option linter.unusedVariables false
set_option linter.unusedSimpArgs false
set_option maxRecDepth 100000
set_option maxHeartbeats 4000000
noncomputable section
theorem V9 {w : Bo} (h : J5 w = true) : Fu w.2.1 ∧ -1 ≤ w.1 ∧ w.1 ≤ 281474976710655 := by
 unfold J5 at h
 simp only [Bool.and_eq_true] at h
 have h1 := C6.1 h.1
 refine ⟨⟨by have := h.2.1.2; simp at this; omega, fun q x hx => ?_⟩, h1.1, h1.2⟩
 have := Zc.1 h.2.1.1 q x hx
 omega
def Ic (w : Bo) (n : Int) : Bool := J5 w && (inR n 0 281474976710655 && (decide (n > w.1) || (decide (n ≥ w.1 - 1023) && !Xi w n)))
theorem Bmc (w : Bo) (n : YI) (hl : w.2.1.length ≤ 4294967296) : Ajn w n = some (Ic w n.1, ()) := by
 unfold Ajn Ajm Ic
 simp only [Ae, Ag, Ab]
 rw [Bfp w hl, C9]
 simp only [Ah]
 cases ho : J5 w with
 | false => rfl
 | true =>
  obtain ⟨h1, h2, h3⟩ := V9 ho
  cases hn : inR n.1 0 281474976710655 with
  | false => rfl
  | true =>
   have hn' := C6.1 hn
   simp only [Bool.not_true, An]
   rw [w64 (n := w.1 - 1024) (by omega), w64 (by omega), Axe w n h1.1 hn'.1, show w.1 - 1024 + 1 = w.1 - 1023 by omega]
   cases decide (n.1 > w.1) <;> cases decide (n.1 ≥ w.1 - 1023) <;> rfl
theorem Bbf (w : Bo) (n : YI) (hl : w.2.1.length ≤ 4294967296) : Xo w n = some (Ic w n.1, ()) := by
 unfold Xo Ait Ic Atj Ad7
 simp only [Ae, Ag, Ab]
 rw [Bfq w, Dm]
 simp only [Ah]
 cases ho : J5 w with
 | false => rfl
 | true =>
  obtain ⟨h1, h2, h3⟩ := V9 ho
  cases hn : inR n.1 0 281474976710655 with
  | false => rfl
  | true =>
   have hn' := C6.1 hn
   simp only [Bool.not_true, An]
   rw [w64 (n := w.1 - 1024) (by omega), w64 (by omega), A4i w n h1.1 hn'.1, show w.1 - 1024 + 1 = w.1 - 1023 by omega]
   simp only [Ah]
   by_cases hg : n.1 > w.1
   ·rw [Ao hg]; rfl
   ·rw [Bm hg]
    by_cases ht : w.1 < 1024
    ·rw [Ao ht, A3, Ah]
     simp only
     rw [Ao (p := n.1 ≥ 0) (by omega), Ao (p := n.1 ≥ w.1 - 1023) (by omega)]; rfl
    ·rw [Bm ht]
     simp only [An, Ah]
     cases decide (n.1 ≥ w.1 - 1023) <;> rfl
theorem Bke {l : List YI} (h : Fu l) (n s t : Int) (l0 : List YI) (t' : Int) (m : Nat) (h0 : 0 ≤ s) (hm : s + m = n ∨ (m = 0 ∧ n ≤ s)) (hn : n ≤ 281474976710656) (hs : s ≤ 281474976710656) :
  Ay H3 (n, s, t, l0, (0 : Int), ([] : List YI), t', l, ()) = some (n, t, l0, (0 : Int), ([] : List YI), t', J2 l s m, ()) := by
 have hl := Da (B := H3) m (fun i => (n, s + (i : Int), t, l0, (0 : Int), ([] : List YI), t', J2 l s i, ())) (n, t, l0, (0 : Int), ([] : List YI), t', J2 l s m, ())
  (fun i hi => by
   have hw := (Rn h h0 i).1
   have hx := Alz hw (n := s + (i : Int)) (by omega)
   unfold H3
   simp only [Ae, Ag, Ab, Ai]
   rw [Ao (p := s + (i : Int) < n) (by omega), A3, Ao (p := (0 : Int) ≤ s + (i : Int)) (by omega), Ao (p := (0 : Int) ≤ (s + (i : Int)) % 1024) (by omega), Ao (p := (0 : Int) ≤ (s + (i : Int)) % 32) (by omega), hx, w64 (n := s + (i : Int) + 1) (by omega)]
   simp only [Ah, A8]
   rw [show s + ((i + 1 : Nat) : Int) = s + (i : Int) + 1 by push_cast; omega]
   rfl)
  (by
   unfold H3
   simp only [Ae, Ag, Ab, Ai]
   rw [Bm (by omega), An])
 rw [show s = s + ((0 : Nat) : Int) by simp] at hl
 simpa [J2] using hl
theorem Bkf {l : List YI} (h : Fu l) (n s t : Int) (l0 : List YI) (t' : Int) (m : Nat) (h0 : 0 ≤ s) (hm : (s + m = n + 1 ∧ m ≤ 1024) ∨ (m = 1024 ∧ s + 1024 ≤ n + 1) ∨ (m = 0 ∧ n < s)) (hn : n ≤ 281474976710656) (hs : s ≤ 281474976710656) :
  Ay Hv (n, (0 : Int), s, t, l0, (0 : Int), ([] : List YI), t', l, ()) = some (n, t, l0, (0 : Int), ([] : List YI), t', J2 l s m, ()) := by
 have hl := Da (B := Hv) m (fun i => (n, (i : Int), s + (i : Int), t, l0, (0 : Int), ([] : List YI), t', J2 l s i, ())) (n, t, l0, (0 : Int), ([] : List YI), t', J2 l s m, ())
  (fun i hi => by
   have hw := (Rn h h0 i).1
   have hx := Alz hw (n := s + (i : Int)) (by omega)
   unfold Hv
   simp only [Ae, Ag, Ab, Ai]
   rw [Ao (p := s + (i : Int) ≤ n) (by omega), A3, Ao (p := (i : Int) < 1024) (by omega), A3, Ao (p := (0 : Int) ≤ s + (i : Int)) (by omega), Ao (p := (0 : Int) ≤ (s + (i : Int)) % 1024) (by omega), show (s + (i : Int)) % 1024 % 32 = (s + (i : Int)) % 32 by omega, Ao (p := (0 : Int) ≤ (s + (i : Int)) % 32) (by omega), hx, w64 (n := s + (i : Int) + 1) (by omega), w64 (n := (i : Int) + 1) (by omega)]
   simp only [Ah, A8]
   rw [show s + ((i + 1 : Nat) : Int) = s + (i : Int) + 1 by push_cast; omega]
   rfl)
  (by
   unfold Hv
   simp only [Ae, Ag, Ab, Ai]
   by_cases hle : s + (m : Int) ≤ n
   ·rw [Ao hle, A3, Bm (p := (m : Int) < 1024) (by omega), An]
   ·rw [Bm hle, An])
 rw [show s = s + ((0 : Nat) : Int) by simp] at hl
 simpa [J2] using hl
def Bbg (t n : Int) : Nat := if n ≤ t then 0 else if n ≤ t + 1024 then (n - t - 1).toNat else 1023
def Aft (t n : Int) : Int := if t + 1 < n - 1023 then n - 1023 else t + 1
def Afu (t n : Int) : Nat := if n ≤ t then 0 else if n ≤ t + 1024 then (n - t).toNat else 1024
def Jk (w : Bo) (n : Int) : Bo := (if w.1 < n then n else w.1, Lm Abv (J2 w.2.1 (w.1 + 1) (Afu w.1 n)) n, ())
theorem Bmd {l : List YI} (h : Fu l) {t n : Int} (ht : -1 ≤ t) (hn : 0 ≤ n) : Lm Abv (J2 l (Aft t n) (Bbg t n)) n = Lm Abv (J2 l (t + 1) (Afu t n)) n := by
 refine Bpc h (by unfold Aft; split <;> omega) (by omega) hn fun r hr hne => ?_
 unfold Bbg Afu Aft
 by_cases h1 : n ≤ t
 ·rw [if_pos h1, if_pos h1]
  exact ⟨fun _ k hk => by omega, fun _ k hk => by omega⟩
 ·rw [if_neg h1, if_neg h1]
  by_cases h2 : n ≤ t + 1024
  ·rw [if_pos h2, if_pos h2, if_neg (by omega)]
   constructor
   ·intro hk k hk2
    rcases Nat.lt_or_ge k (n - t - 1).toNat with hh | hh
    ·exact hk k hh
    ·have : t + 1 + (k : Int) = n := by omega
     rw [this]; exact hne
   ·intro hk k hk2
    exact hk k (by omega)
  ·rw [if_neg h2, if_neg h2, if_pos (by omega)]
   constructor
   ·intro hk
    exact (hk (((r : Int) - (n - 1023)) % 1024).toNat (by omega) (by omega)).elim
   ·intro hk
    exact (hk (((r : Int) - (t + 1)) % 1024).toNat (by omega) (by omega)).elim
theorem Bbh {f : Int → Int → Int} {l : List YI} {n : Int} : (Lm f l n).length = l.length := by unfold Lm; simp
theorem Bbi {l : List YI} {s : Int} : ∀ m, (J2 l s m).length = l.length
 | 0 => rfl
 | m + 1 => by show (Lm A4l (J2 l s m) (s + m)).length = _; rw [Bbh, Bbi m]
theorem Bex (w : Bo) (n : Int) : Bj (Jk w n) = Bj w := by
 simp only [Bj, Jk, Bbh, Bbi]
theorem Bme (w : Bo) (n : YI) (hl : w.2.1.length ≤ 4294967296) : Ajo w n = some (bif Ic w n.1 then (Jk w n.1, (true, ())) else (w, (false, ()))) := by
 unfold Ajo Sf
 simp only [Ae, Ag, Ab, Ai]
 rw [Arp w (by simp only [Bj]; omega), Bmc w n hl]
 simp only [Ah]
 cases hm : Ic w n.1 with
 | false => rfl
 | true =>
  have hm' := hm
  unfold Ic at hm'
  simp only [Bool.and_eq_true] at hm'
  obtain ⟨h1, h2, h3⟩ := V9 hm'.1
  have hn := C6.1 hm'.2.1
  simp only [Bool.not_true, An, cond_true]
  rw [w64 (n := w.1 + 1) (by omega), w64 (n := n.1 - 1024) (by omega), w64 (n := n.1 - 1024 + 1) (by omega), show n.1 - 1024 + 1 = n.1 - 1023 by omega]
  rw [show (if w.1 + 1 < n.1 - 1023 then n.1 - 1023 else w.1 + 1) = Aft w.1 n.1 from rfl]
  rw [Bke h1 n.1 (Aft w.1 n.1) w.1 w.2.1 w.1 (Bbg w.1 n.1) (by unfold Aft; split <;> omega) (by unfold Aft Bbg; split <;> (try split) <;> (try split) <;> omega) (by omega) (by unfold Aft; split <;> omega)]
  have hw := (Rn h1 (s := Aft w.1 n.1) (by unfold Aft; split <;> omega) (Bbg w.1 n.1)).1
  simp only [Ah]
  rw [Ao (p := (0 : Int) ≤ n.1) (by omega), Ao (p := (0 : Int) ≤ n.1 % 1024) (by omega), Ao (p := (0 : Int) ≤ n.1 % 32) (by omega), Alz hw hn.1]
  simp only [Ah, A8]
  unfold Jk
  rw [← Bmd h1 h2 hn.1]
  rfl
theorem Bmf (w : Bo) (n : YI) (hl : w.2.1.length ≤ 4294967296) : Aix w n = some (bif Ic w n.1 then (Jk w n.1, (true, ())) else (w, (false, ()))) := by
 unfold Aix R5
 simp only [Ae, Ag, Ab, Ai]
 rw [Ba9 w (by simp only [Bj]; omega), Bbf w n hl]
 simp only [Ah]
 cases hm : Ic w n.1 with
 | false => rfl
 | true =>
  have hm' := hm
  unfold Ic at hm'
  simp only [Bool.and_eq_true] at hm'
  obtain ⟨h1, h2, h3⟩ := V9 hm'.1
  have hn := C6.1 hm'.2.1
  simp only [Bool.not_true, An, cond_true]
  rw [w64 (n := w.1 + 1) (by omega)]
  rw [Bkf h1 n.1 (w.1 + 1) w.1 w.2.1 w.1 (Afu w.1 n.1) (by omega) (by unfold Afu; split <;> (try split) <;> omega) (by omega) (by omega)]
  have hw := (Rn h1 (s := w.1 + 1) (by omega) (Afu w.1 n.1)).1
  simp only [Ah]
  rw [Ao (p := (0 : Int) ≤ n.1) (by omega), Ao (p := (0 : Int) ≤ n.1 % 1024) (by omega), show n.1 % 1024 % 32 = n.1 % 32 by omega, Ao (p := (0 : Int) ≤ n.1 % 32) (by omega), Alz hw hn.1]
  simp only [Ah, A8]
  unfold Jk
  by_cases hg : n.1 > w.1
  ·rw [Ao hg, A3, if_pos hg]; rfl
  ·rw [Bm hg, An, if_neg hg]; rfl
end
end Go.Proofs.YtggdikabbngbaaaGreat

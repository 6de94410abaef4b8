/-
  That the program and the reference answer alike, in plain terms, and that the laws answer true.
-/
import Derived.Test.YtggdikabbngbaaaGreatL26
namespace Go.Proofs.YtggdikabbngbaaaGreat
open Go.RowKit
set_option linter.unusedVariables false
set_option linter.unusedSimpArgs false
set_option maxRecDepth 100000
set_option maxHeartbeats 4000000
noncomputable section
theorem U0 {w : Bi} (h : Jl w = true) : Fp w.2.1 ∧ -1 ≤ w.1 ∧ w.1 ≤ 281474976710655 := by
 unfold Jl at h
 simp only [Bool.and_eq_true] at h
 have h1 := Bv.1 h.1
 refine ⟨⟨by have := h.2.1.2; simp at this; omega, fun q x hx => ?_⟩, h1.1, h1.2⟩
 have := Aaa.1 h.2.1.1 q x hx
 omega
def Hu (w : Bi) (n : Int) : Bool := Jl w && (inR n 0 281474976710655 && (decide (n > w.1) || (decide (n ≥ w.1 - 1023) && !V2 w n)))
theorem Bk4 (w : Bi) (n : YI) (hl : w.2.1.length ≤ 4294967296) : Ald w n = some (Hu w n.1, ()) := by
 unfold Ald Alc Hu
 simp only [Ah, Ak, Ae]
 rw [Bd6 w hl, Cq]
 simp only [Al]
 cases ho : Jl w with
 | false => rfl
 | true =>
  obtain ⟨h1, h2, h3⟩ := U0 ho
  cases hn : inR n.1 0 281474976710655 with
  | false => rfl
  | true =>
   have hn' := Bv.1 hn
   simp only [Bool.not_true, Ap]
   rw [w64 (n := w.1 - 1024) (by omega), w64 (by omega), Axb w n h1.1 hn'.1, show w.1 - 1024 + 1 = w.1 - 1023 by omega]
   cases decide (n.1 > w.1) <;> cases decide (n.1 ≥ w.1 - 1023) <;> rfl
theorem Bac (w : Bi) (n : YI) (hl : w.2.1.length ≤ 4294967296) : Zu w n = some (Hu w n.1, ()) := by
 unfold Zu Akj Hu Aty Afr
 simp only [Ah, Ak, Ae]
 rw [Bd7 w, C6]
 simp only [Al]
 cases ho : Jl w with
 | false => rfl
 | true =>
  obtain ⟨h1, h2, h3⟩ := U0 ho
  cases hn : inR n.1 0 281474976710655 with
  | false => rfl
  | true =>
   have hn' := Bv.1 hn
   simp only [Bool.not_true, Ap]
   rw [w64 (n := w.1 - 1024) (by omega), w64 (by omega), A3c w n h1.1 hn'.1, show w.1 - 1024 + 1 = w.1 - 1023 by omega]
   simp only [Al]
   by_cases hg : n.1 > w.1
   ·rw [Ao hg]; rfl
   ·rw [Bg hg]
    by_cases ht : w.1 < 1024
    ·rw [Ao ht, Ay, Al]
     simp only
     rw [Ao (p := n.1 ≥ 0) (by omega), Ao (p := n.1 ≥ w.1 - 1023) (by omega)]; rfl
    ·rw [Bg ht]
     simp only [Ap, Al]
     cases decide (n.1 ≥ w.1 - 1023) <;> rfl
theorem Bjd {l : List YI} (h : Fp l) (n s t : Int) (l0 : List YI) (t' : Int) (m : Nat) (h0 : 0 ≤ s) (hm : s + m = n ∨ (m = 0 ∧ n ≤ s)) (hn : n ≤ 281474976710656) (hs : s ≤ 281474976710656) :
  A0 Ho (n, s, t, l0, (0 : Int), ([] : List YI), t', l, ()) = some (n, t, l0, (0 : Int), ([] : List YI), t', Ji l s m, ()) := by
 have hl := C9 (B := Ho) m (fun i => (n, s + (i : Int), t, l0, (0 : Int), ([] : List YI), t', Ji l s i, ())) (n, t, l0, (0 : Int), ([] : List YI), t', Ji l s m, ())
  (fun i hi => by
   have hw := (Qa h h0 i).1
   have hx := Am7 hw (n := s + (i : Int)) (by omega)
   unfold Ho
   simp only [Ah, Ak, Ae, Am]
   rw [Ao (p := s + (i : Int) < n) (by omega), Ay, Ao (p := (0 : Int) ≤ s + (i : Int)) (by omega), Ao (p := (0 : Int) ≤ (s + (i : Int)) % 1024) (by omega), Ao (p := (0 : Int) ≤ (s + (i : Int)) % 32) (by omega), hx, w64 (n := s + (i : Int) + 1) (by omega)]
   simp only [Al, A8]
   rw [show s + ((i + 1 : Nat) : Int) = s + (i : Int) + 1 by push_cast; omega]
   rfl)
  (by
   unfold Ho
   simp only [Ah, Ak, Ae, Am]
   rw [Bg (by omega), Ap])
 rw [show s = s + ((0 : Nat) : Int) by simp] at hl
 simpa [Ji] using hl
theorem Bje {l : List YI} (h : Fp l) (n s t : Int) (l0 : List YI) (t' : Int) (m : Nat) (h0 : 0 ≤ s) (hm : (s + m = n + 1 ∧ m ≤ 1024) ∨ (m = 1024 ∧ s + 1024 ≤ n + 1) ∨ (m = 0 ∧ n < s)) (hn : n ≤ 281474976710656) (hs : s ≤ 281474976710656) :
  A0 Hi (n, (0 : Int), s, t, l0, (0 : Int), ([] : List YI), t', l, ()) = some (n, t, l0, (0 : Int), ([] : List YI), t', Ji l s m, ()) := by
 have hl := C9 (B := Hi) m (fun i => (n, (i : Int), s + (i : Int), t, l0, (0 : Int), ([] : List YI), t', Ji l s i, ())) (n, t, l0, (0 : Int), ([] : List YI), t', Ji l s m, ())
  (fun i hi => by
   have hw := (Qa h h0 i).1
   have hx := Am7 hw (n := s + (i : Int)) (by omega)
   unfold Hi
   simp only [Ah, Ak, Ae, Am]
   rw [Ao (p := s + (i : Int) ≤ n) (by omega), Ay, Ao (p := (i : Int) < 1024) (by omega), Ay, Ao (p := (0 : Int) ≤ s + (i : Int)) (by omega), Ao (p := (0 : Int) ≤ (s + (i : Int)) % 1024) (by omega), show (s + (i : Int)) % 1024 % 32 = (s + (i : Int)) % 32 by omega, Ao (p := (0 : Int) ≤ (s + (i : Int)) % 32) (by omega), hx, w64 (n := s + (i : Int) + 1) (by omega), w64 (n := (i : Int) + 1) (by omega)]
   simp only [Al, A8]
   rw [show s + ((i + 1 : Nat) : Int) = s + (i : Int) + 1 by push_cast; omega]
   rfl)
  (by
   unfold Hi
   simp only [Ah, Ak, Ae, Am]
   by_cases hle : s + (m : Int) ≤ n
   ·rw [Ao hle, Ay, Bg (p := (m : Int) < 1024) (by omega), Ap]
   ·rw [Bg hle, Ap])
 rw [show s = s + ((0 : Nat) : Int) by simp] at hl
 simpa [Ji] using hl
def Bad (t n : Int) : Nat := if n ≤ t then 0 else if n ≤ t + 1024 then (n - t - 1).toNat else 1023
def Aha (t n : Int) : Int := if t + 1 < n - 1023 then n - 1023 else t + 1
def Ahb (t n : Int) : Nat := if n ≤ t then 0 else if n ≤ t + 1024 then (n - t).toNat else 1024
def Iy (w : Bi) (n : Int) : Bi := (if w.1 < n then n else w.1, K2 Adl (Ji w.2.1 (w.1 + 1) (Ahb w.1 n)) n, ())
theorem Bk5 {l : List YI} (h : Fp l) {t n : Int} (ht : -1 ≤ t) (hn : 0 ≤ n) : K2 Adl (Ji l (Aha t n) (Bad t n)) n = K2 Adl (Ji l (t + 1) (Ahb t n)) n := by
 refine Bn2 h (by unfold Aha; split <;> omega) (by omega) hn fun r hr hne => ?_
 unfold Bad Ahb Aha
 by_cases h1 : n ≤ t
 ·rw [if_pos h1, if_pos h1]
  exact ⟨fun _ k hk => by omega, fun _ k hk => by omega⟩
 ·rw [if_neg h1, if_neg h1]
  by_cases h2 : n ≤ t + 1024
  ·rw [if_pos h2, if_pos h2, if_neg (by omega)]
   constructor
   ·intro hk k hk2
    rcases Nat.lt_or_ge k (n - t - 1).toNat with hh | hh
    ·exact hk k hh
    ·have : t + 1 + (k : Int) = n := by omega
     rw [this]; exact hne
   ·intro hk k hk2
    exact hk k (by omega)
  ·rw [if_neg h2, if_neg h2, if_pos (by omega)]
   constructor
   ·intro hk
    exact (hk (((r : Int) - (n - 1023)) % 1024).toNat (by omega) (by omega)).elim
   ·intro hk
    exact (hk (((r : Int) - (t + 1)) % 1024).toNat (by omega) (by omega)).elim
theorem Bae {f : Int → Int → Int} {l : List YI} {n : Int} : (K2 f l n).length = l.length := by unfold K2; simp
theorem Baf {l : List YI} {s : Int} : ∀ m, (Ji l s m).length = l.length
 | 0 => rfl
 | m + 1 => by show (K2 A3g (Ji l s m) (s + m)).length = _; rw [Bae, Baf m]
theorem Bdh (w : Bi) (n : Int) : Bk (Iy w n) = Bk w := by
 simp only [Bk, Iy, Bae, Baf]
theorem Bk6 (w : Bi) (n : YI) (hl : w.2.1.length ≤ 4294967296) : Ale w n = some (bif Hu w n.1 then (Iy w n.1, (true, ())) else (w, (false, ()))) := by
 unfold Ale Q1
 simp only [Ah, Ak, Ae, Am]
 rw [Asb w (by simp only [Bk]; omega), Bk4 w n hl]
 simp only [Al]
 cases hm : Hu w n.1 with
 | false => rfl
 | true =>
  have hm' := hm
  unfold Hu at hm'
  simp only [Bool.and_eq_true] at hm'
  obtain ⟨h1, h2, h3⟩ := U0 hm'.1
  have hn := Bv.1 hm'.2.1
  simp only [Bool.not_true, Ap, cond_true]
  rw [w64 (n := w.1 + 1) (by omega), w64 (n := n.1 - 1024) (by omega), w64 (n := n.1 - 1024 + 1) (by omega), show n.1 - 1024 + 1 = n.1 - 1023 by omega]
  rw [show (if w.1 + 1 < n.1 - 1023 then n.1 - 1023 else w.1 + 1) = Aha w.1 n.1 from rfl]
  rw [Bjd h1 n.1 (Aha w.1 n.1) w.1 w.2.1 w.1 (Bad w.1 n.1) (by unfold Aha; split <;> omega) (by unfold Aha Bad; split <;> (try split) <;> (try split) <;> omega) (by omega) (by unfold Aha; split <;> omega)]
  have hw := (Qa h1 (s := Aha w.1 n.1) (by unfold Aha; split <;> omega) (Bad w.1 n.1)).1
  simp only [Al]
  rw [Ao (p := (0 : Int) ≤ n.1) (by omega), Ao (p := (0 : Int) ≤ n.1 % 1024) (by omega), Ao (p := (0 : Int) ≤ n.1 % 32) (by omega), Am7 hw hn.1]
  simp only [Al, A8]
  unfold Iy
  rw [← Bk5 h1 h2 hn.1]
  rfl
theorem Bk7 (w : Bi) (n : YI) (hl : w.2.1.length ≤ 4294967296) : Akn w n = some (bif Hu w n.1 then (Iy w n.1, (true, ())) else (w, (false, ()))) := by
 unfold Akn Qt
 simp only [Ah, Ak, Ae, Am]
 rw [A92 w (by simp only [Bk]; omega), Bac w n hl]
 simp only [Al]
 cases hm : Hu w n.1 with
 | false => rfl
 | true =>
  have hm' := hm
  unfold Hu at hm'
  simp only [Bool.and_eq_true] at hm'
  obtain ⟨h1, h2, h3⟩ := U0 hm'.1
  have hn := Bv.1 hm'.2.1
  simp only [Bool.not_true, Ap, cond_true]
  rw [w64 (n := w.1 + 1) (by omega)]
  rw [Bje h1 n.1 (w.1 + 1) w.1 w.2.1 w.1 (Ahb w.1 n.1) (by omega) (by unfold Ahb; split <;> (try split) <;> omega) (by omega) (by omega)]
  have hw := (Qa h1 (s := w.1 + 1) (by omega) (Ahb w.1 n.1)).1
  simp only [Al]
  rw [Ao (p := (0 : Int) ≤ n.1) (by omega), Ao (p := (0 : Int) ≤ n.1 % 1024) (by omega), show n.1 % 1024 % 32 = n.1 % 32 by omega, Ao (p := (0 : Int) ≤ n.1 % 32) (by omega), Am7 hw hn.1]
  simp only [Al, A8]
  unfold Iy
  by_cases hg : n.1 > w.1
  ·rw [Ao hg, Ay, if_pos hg]; rfl
  ·rw [Bg hg, Ap, if_neg hg]; rfl
end
end Go.Proofs.YtggdikabbngbaaaGreat

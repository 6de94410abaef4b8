/-
  That the program and the reference answer alike, in plain terms, and that the laws answer true.
-/
import Derived.Test.YtggdikabbngbaaaGreatL8
namespace Go.Proofs.YtggdikabbngbaaaGreat
open Go.RowKit
set_option linter.unusedVariables false
set_option linter.unusedSimpArgs false
set_option maxHeartbeats 4000000
noncomputable section
def Fd (h : List YI) (b : List YB) : List YI × List YB := if 64 ≤ b.length then Fd (Gf h (b.take 64)) (b.drop 64) else (h, b)
termination_by b.length
decreasing_by simp; omega
theorem Uz {h : List YI} {b : List YB} (hb : 64 ≤ b.length) : Fd h b = Fd (Gf h (b.take 64)) (b.drop 64) := by rw [Fd, if_pos hb]
theorem Kk {h : List YI} {b : List YB} (hb : ¬ 64 ≤ b.length) : Fd h b = (h, b) := by rw [Fd, if_neg hb]
theorem Bkz : ∀ (n : Nat) (h : List YI) (b p : List YB), b.length ≤ n → Fd h (b ++ p) = Fd (Fd h b).1 ((Fd h b).2 ++ p) := by
 intro n
 induction n with
 | zero => intro h b p hn; rw [Kk (b := b) (by omega)]
 | succ n ih =>
  intro h b p hn
  by_cases hb : 64 ≤ b.length
  ·rw [Uz (b := b) hb, Uz (b := b ++ p) (by simp; omega), List.take_append_of_le_length hb, List.drop_append_of_le_length hb]
   exact ih _ _ _ (by simp; omega)
  ·rw [Kk (b := b) hb]
theorem Aje : ∀ (n : Nat) (h : List YI) (b : List YB), b.length ≤ n → h.length ≤ 1073741824 → (Fd h b).2.length = b.length % 64 ∧ (Fd h b).1.length = h.length ∧ (Ds h = true → Ds (Fd h b).1 = true) := by
 intro n
 induction n with
 | zero => intro h b hn hh; rw [Kk (by omega)]; exact ⟨by simp; omega, rfl, id⟩
 | succ n ih =>
  intro h b hn hh
  by_cases hb : 64 ≤ b.length
  ·rw [Uz hb]
   have hc := Adg h (b.take 64) hh (by simp; omega)
   obtain ⟨h1, h2, h3⟩ := ih (Gf h (b.take 64)) (b.drop 64) (by simp; omega) (by omega)
   refine ⟨?_, by omega, fun hw => h3 (hc.2 hw)⟩
   rw [h1, List.length_drop]; omega
  ·rw [Kk hb]; exact ⟨by simp only; omega, rfl, id⟩
theorem Aoq (h : List YI) (b : List YB) (hh : h.length ≤ 1073741824) (hb : b.length ≤ 4294967296) : Lq (h, ()) (b, ()) = some (((Fd h b).1, ()), ((Fd h b).2, ())) := by
 have key : ∀ (n : Nat) (h : List YI) (b : List YB), b.length ≤ n → h.length ≤ 1073741824 → b.length ≤ 4294967296 → A0 Dl (h, b, ()) = some ((Fd h b).1, (Fd h b).2, ()) := by
  intro n
  induction n with
  | zero =>
   intro h b hn hh hb
   rw [Kk (by omega), Cj]
   unfold Dl
   simp only [Ah, Am, Ak, Ae]
   rw [Bg (by omega), Ap]
  | succ n ih =>
   intro h b hn hh hb
   rw [Cj]
   by_cases h64 : 64 ≤ b.length
   ·have hB : Dl (h, b, ()) = some (.inl (Gf h (b.take 64), b.drop 64, ())) := by
     unfold Dl
     simp only [Ah, Am, Ak, Ae]
     rw [Ao (by omega), Ay, Ao (by omega)]
     simp only [A8, show (64 : Int).toNat = 64 from rfl, show (0 : Int).toNat = 0 from rfl, List.drop_zero, Int.toNat_natCast, List.take_length]
     rw [Bga _ _ hh (by simp; omega), Al]
    have hc := Adg h (b.take 64) hh (by simp; omega)
    rw [hB, Uz h64, ← ih (Gf h (b.take 64)) (b.drop 64) (by simp; omega) (by omega) (by simp; omega)]
   ·unfold Dl
    simp only [Ah, Am, Ak, Ae]
    rw [Bg (by omega), Ap, Kk h64]
 unfold Lq Il
 simp only [Ak, Ae]
 rw [key _ h b (Nat.le_refl _) hh hb]
 rfl
theorem Bip (all : List YB) (ha : all.length ≤ 4294967296) : ∀ (n i : Nat) (h : List YI), all.length - i ≤ n → i ≤ all.length → (all.length - i) % 64 = 0 → h.length ≤ 1073741824 → A0 L4 (all, h, (i : Int), ()) = some ((Fd h (all.drop i)).1, ()) := by
 intro n
 induction n with
 | zero =>
  intro i h hn hi hm hh
  rw [Kk (by simp; omega), Cj]
  unfold L4
  simp only [Ah, Am, Ak, Ae]
  rw [Bg (by omega), Ap]
 | succ n ih =>
  intro i h hn hi hm hh
  rw [Cj]
  unfold L4
  simp only [Ah, Am, Ak, Ae]
  by_cases h64 : i < all.length
  ·rw [Ao (by omega), Ay, Ao (by omega), A8, w64 (n := (i : Int) + 64) (by omega), Ao (by omega), A8, Ao (by omega), A8]
   have e : (all.take ((i : Int) + 64).toNat).drop ((i : Int)).toNat = (all.drop i).take 64 := by
    rw [show ((i : Int) + 64).toNat = i + 64 by omega, Int.toNat_natCast, List.drop_take, Nat.add_sub_cancel_left]
   rw [e, Bgb _ _ hh (by simp; omega), Al]
   simp only
   have hc := Adg h ((all.drop i).take 64) hh (by simp; omega)
   rw [Uz (b := all.drop i) (by simp; omega), List.drop_drop, show (i : Int) + 64 = ((i + 64 : Nat) : Int) by omega]
   exact ih (i + 64) _ (by omega) (by omega) (by omega) (by omega)
  ·rw [Bg (by omega), Ap, Kk (by simp; omega)]
theorem A9y (m : Int) (j : Nat) (h0 : 0 ≤ m) (h1 : m < 4294967296) (hj : 4 ≤ j) (hj2 : j ≤ 7) : byt m j = ((0 : Int), ()) := by
 have e : Int.fdiv m (2 ^ (min (8 * j) IntKind.i64.bits)) = 0 := by
  have hp : (4294967296 : Int) ≤ 2 ^ (min (8 * j) IntKind.i64.bits) := by
   have : j = 4 ∨ j = 5 ∨ j = 6 ∨ j = 7 := by omega
   rcases this with rfl | rfl | rfl | rfl <;> decide
  rw [Int.fdiv_eq_ediv_of_nonneg _ (by omega)]
  exact Int.ediv_eq_zero_of_lt h0 (by omega)
 unfold byt
 rw [e]; rfl
def Ag6 (n : Nat) : Nat := (64 - (n + 9) % 64) % 64
def Td (n : Nat) : List YB := (((128 : Int), ()) :: List.replicate (Ag6 n) ((0 : Int), ())) ++ ([((0 : Int), ()), ((0 : Int), ())] ++ Fl (8 * (n : Int)) 6 6)
theorem A9z (n : Nat) : (Td n).length = Ag6 n + 9 := by simp [Td, Hq]
theorem Beb (n : Nat) (h : n ≤ 1048576) : A0 Ki ((n : Int), [((128 : Int), ())], ()) = some ((n : Int), ((128 : Int), ()) :: List.replicate (Ag6 n) ((0 : Int), ()), ()) := by
 have hk : Ag6 n = (64 - (n + 9) % 64) % 64 := rfl
 refine C9 (B := Ki) (Ag6 n) (fun i => ((n : Int), ((128 : Int), ()) :: List.replicate i ((0 : Int), ()), ())) _ (fun i hi => ?_) ?_
 ·unfold Ki
  simp only [Ah, Am, Ae, List.length_cons, List.length_replicate]
  rw [w64 (n := (n : Int) + ((i + 1 : Nat) : Int)) (by omega), w64 (by omega), Ao (by omega), A8, Dq (by simp; omega), Ao (by simp; omega), A8, List.cons_append, ← List.replicate_succ']
 ·unfold Ki
  simp only [Ah, Am, Ae, List.length_cons, List.length_replicate]
  rw [w64 (n := (n : Int) + ((Ag6 n + 1 : Nat) : Int)) (by omega), w64 (by omega), Ao (by omega), A8, Cg (by simp; omega)]
theorem Boy (n : Nat) (h : n ≤ 1048576) : A2d ((n : Int), ()) = some (Td n, ()) := by
 have hk : Ag6 n < 64 := Nat.mod_lt _ (by omega)
 unfold A2d Ahr
 simp only [Ah, Am, Ak, Ae, Cq, Al]
 rw [Cg (by simp [inR]; omega), Beb n h, Al, Ao (by simp; omega), A8, w64 (by omega), Bd8 _ _ (by simp; omega), Al]
 unfold Td
 simp
theorem Boz (n : Nat) (h : n ≤ 1048576) : A17 ((n : Int), ()) = some (Td n, ()) := by
 have hk : Ag6 n < 64 := Nat.mod_lt _ (by omega)
 unfold A17 Ahm
 simp only [Ah, Am, Ak, Ae, Al]
 rw [Bg (by omega), Ap, Bg (by omega), Ap, show Adx = Ki from rfl, Beb n h, Al, Aak _ _ (by simp; omega), Al, Aak _ _ (by simp [Hq]; omega), Al, w64 (by omega)]
 unfold Td
 have e0 : Fl 0 4 4 = [((0 : Int), ()), ((0 : Int), ()), ((0 : Int), ()), ((0 : Int), ())] := by
  unfold Fl
  simp only [show List.range 4 = [0, 1, 2, 3] from rfl, List.map]
  rfl
 have e6 : Fl (8 * (n : Int)) 6 6 = [((0 : Int), ()), ((0 : Int), ())] ++ Fl (8 * (n : Int)) 4 4 := by
  have a := A9y (8 * (n : Int)) 5 (by omega) (by omega) (by omega) (by omega)
  have b := A9y (8 * (n : Int)) 4 (by omega) (by omega) (by omega) (by omega)
  unfold Fl
  simp only [show List.range 4 = [0, 1, 2, 3] from rfl, show List.range 6 = [0, 1, 2, 3, 4, 5] from rfl, List.map]
  rw [show 6 - 1 - 0 = 5 from rfl, show 6 - 1 - 1 = 4 from rfl, a, b]
  rfl
 rw [e0, e6]
 simp
def Te (l : List YI) : List YB := l.flatMap fun x => Fl x.1 4 4
theorem Am0 (l : List YI) : (Te l).length = 4 * l.length := by
 unfold Te
 induction l with
 | nil => rfl
 | cons x r ih => simp only [List.flatMap_cons, List.length_append, Hq, ih, List.length_cons]; omega
theorem A5c (l : List YI) (x : YI) : Te (l ++ [x]) = Te l ++ Fl x.1 4 4 := by simp [Te]
theorem Bdd (l : List YI) (h : l.length ≤ 1048576) : Vb (l, ()) = some (Te l, ()) := by
 have hr := C9 (B := Ew) l.length (fun i => (Te (l.take i), l, (l.length : Int), (i : Int), ())) (Te l, ())
  (fun i hi => by
   have hx := List.getElem?_eq_getElem hi
   unfold Ew
   simp only [Ah, Ak, Ae, El hi, Ay, Ch hx, Al]
   rw [Atd _ _ (by rw [Am0]; simp; omega), Al, w64 (by omega), ← Gu hx, A5c]
   rfl)
  (by unfold Ew; simp only [Ah, Ae, Gk, Ap, List.take_length])
 unfold Vb K9
 simp only [Ak, Ae]
 rw [show A0 Ew ([], l, (l.length : Int), (0 : Int), ()) = _ from hr]
 rfl
theorem Bmw (l : List YI) (h : l.length = 8) : Ao4 (l, ()) = some (Te l, ()) := by
 have hr := C9 (B := I8) 8 (fun i => (l, Te (l.take i), (i : Int), ())) (Te l, ())
  (fun i hi => by
   have hx := List.getElem?_eq_getElem (show i < l.length by omega)
   unfold I8
   simp only [Ah, Ak, Ae]
   rw [Ao (by omega), Ay, Ch hx, Al, Aak _ _ (by rw [Am0]; simp; omega), Al, w64 (by omega), ← Gu hx, A5c]
   rfl)
  (by unfold I8; simp only [Ah, Ae]; rw [Bg (by omega), Ap, ← h, List.take_length])
 unfold Ao4 Uf
 simp only [Ak, Ae]
 rw [show A0 I8 (l, [], (0 : Int), ()) = _ from hr]
 rfl
def Dt : List YI := [((1779033703 : Int), ()), ((3144134277 : Int), ()), ((1013904242 : Int), ()), ((2773480762 : Int), ()), ((1359893119 : Int), ()), ((2600822924 : Int), ()), ((528734635 : Int), ()), ((1541459225 : Int), ())]
theorem Biq : Ds Dt = true := by decide
def Ar7 (h : Kp) : Bool := (Ds h.1 && ((h.1.length : Int) == 8)) && (inR h.2.2.1 0 1048576 && ((h.2.2.1 % 64) == (h.2.1.length : Int)))
theorem A90 (h : Kp) (hl : h.1.length ≤ 4294967296) : Zw h = some (Ar7 h, ()) := by
 unfold Zw Ak4 Ar7
 simp only [Ah, Am, Ak, Ae, Cq, Al]
 rw [Amv _ _ hl, Al]
 cases (Ds h.1 && ((h.1.length : Int) == 8)) with
 | false => rfl
 | true =>
  cases hn : inR h.2.2.1 0 1048576 with
  | false => rfl
  | true =>
   have := Bv.1 hn
   simp only [Ay]
   rw [Ao (by omega), A8]
   simp
def sha (b : List YB) : List YB := if b.length ≤ 1048576 then Te (Fd Dt (b ++ Td b.length)).1 else []
theorem Bec (b : List YB) : (sha b).length = 32 ∨ (sha b).length = 0 := by
 unfold sha
 split
 ·left
  rw [Am0, (Aje _ Dt _ (Nat.le_refl _) (by decide)).2.1]; rfl
 ·right; rfl
theorem Bgc (b : List YB) : Aho (b, ()) = some (sha b, ()) := by
 unfold Aho Ahn sha
 simp only [Ah, Am, Ak, Ae, List.nil_append, List.length_nil, Nat.zero_add]
 by_cases h : b.length ≤ 1048576
 ·have hp := A9z b.length
  have hk : Ag6 b.length = (64 - (b.length + 9) % 64) % 64 := rfl
  have hl := Bip (b ++ Td b.length) (by simp; omega) (b ++ Td b.length).length 0 Dt (by omega) (by omega) (by simp; omega) (by decide)
  rw [List.drop_zero] at hl
  rw [Bg (by omega), Ap, Ao (by omega), A8, Boz _ h, Al, Ao (by simp; omega), A8, show A39 = some (Dt, ()) from rfl, Al]
  rw [show A0 L4 (b ++ Td b.length, Dt, (0 : Int), ()) = _ from hl, Al]
  rw [Bmw _ ((Aje _ Dt _ (Nat.le_refl _) (by decide)).2.1), if_pos h]
  rfl
 ·rw [Ao (by omega), Ay, if_neg h]
theorem Bgd (b : List YB) (hb : b.length ≤ 4294967296) : Ahs (b, ()) = some (sha b, ()) := by
 unfold Ahs A2e sha
 simp only [Ah, Ak, Ae]
 by_cases h : b.length ≤ 1048576
 ·have hp := A9z b.length
  have hk : Ag6 b.length = (64 - (b.length + 9) % 64) % 64 := rfl
  have hc := Aje _ Dt b (Nat.le_refl _) (by decide)
  have h8 : Dt.length = 8 := rfl
  have hc21 := hc.2.1
  have hc1 := hc.1
  have e1 : Af1 (Dt, [], 0, ()) (b, ()) = some ((Fd Dt b).1, (Fd Dt b).2, (b.length : Int), ()) := by
   unfold Af1 Af0
   simp only [Ah, Am, Ak, Ae, List.nil_append, List.length_nil, Nat.zero_add]
   rw [A90 _ (by decide), Al, show Ar7 (Dt, [], 0, ()) = true by decide]
   simp only [Bool.not_true, Ap]
   rw [w64 (n := 1048576 - 0) (by omega), Bg (by omega), Ap, Jh _ (by simp [cat]; omega) (by simp), Al, show cat [([], ()), (b, ())] = b by simp [cat], Aoq _ _ (by decide) (by omega), Al]
   simp only
   rw [Ao (by omega), A8, Cz _ (by dsimp only; omega), Al, w64 (by omega)]
   simp
  have e2 : Af3 ((Fd Dt b).1, (Fd Dt b).2, (b.length : Int), ()) = some (Te (Fd Dt (b ++ Td b.length)).1, ()) := by
   unfold Af3 Af2
   simp only [Ah, Am, Ak, Ae]
   rw [A90 _ (by dsimp only; rw [hc.2.1]; decide), Al]
   have ok : Ar7 ((Fd Dt b).1, (Fd Dt b).2, (b.length : Int), ()) = true := by
    unfold Ar7
    simp only [hc.2.2 Biq, hc.2.1, Bool.and_eq_true]
    refine ⟨by decide, Bv.2 (by omega), ?_⟩
    rw [hc.1]; simp
   rw [ok]
   simp only [Bool.not_true, Ap]
   rw [Boy _ h, Al, Jh _ (by simp [cat]; omega) (by simp), Al, show cat [((Fd Dt b).2, ()), (Td b.length, ())] = (Fd Dt b).2 ++ Td b.length by simp [cat], Aoq _ _ (by rw [hc.2.1]; decide) (by simp; omega), Al, ← Bkz _ _ _ _ (Nat.le_refl _)]
   simp only
   rw [Bdd _ (by rw [(Aje _ Dt _ (Nat.le_refl _) (by decide)).2.1]; decide)]
   rfl
  rw [Bg (by omega), Ap, show At1 = some (Dt, [], 0, ()) from rfl, Al, e1, Al, e2, Al, if_pos h]
 ·rw [Ao (by omega), Ay, if_neg h]
end
end Go.Proofs.YtggdikabbngbaaaGreat

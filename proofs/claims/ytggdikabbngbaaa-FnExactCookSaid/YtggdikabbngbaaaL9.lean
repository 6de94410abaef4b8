/-
  That the program and the reference answer alike, in plain terms, and that the laws answer true.
-/
import Derived.Test.YtggdikabbngbaaaL8
namespace Go.Proofs.Ytggdikabbngbaaa
open Go.RowKit
set_option linter.unusedVariables false
set_option linter.unusedSimpArgs false
set_option maxHeartbeats 4000000
noncomputable section
def De (h : List YI) (b : List YB) : List YI × List YB := if 64 ≤ b.length then De (Dx h (b.take 64)) (b.drop 64) else (h, b)
termination_by b.length
decreasing_by simp; omega
theorem Ma {h : List YI} {b : List YB} (hb : 64 ≤ b.length) : De h b = De (Dx h (b.take 64)) (b.drop 64) := by rw [De, if_pos hb]
theorem Gf {h : List YI} {b : List YB} (hb : ¬ 64 ≤ b.length) : De h b = (h, b) := by rw [De, if_neg hb]
theorem Atw : ∀ (n : Nat) (h : List YI) (b p : List YB), b.length ≤ n → De h (b ++ p) = De (De h b).1 ((De h b).2 ++ p) := by
 intro n
 induction n with
 | zero => intro h b p hn; rw [Gf (b := b) (by omega)]
 | succ n ih =>
  intro h b p hn
  by_cases hb : 64 ≤ b.length
  ·rw [Ma (b := b) hb, Ma (b := b ++ p) (by simp; omega), List.take_append_of_le_length hb, List.drop_append_of_le_length hb]
   exact ih _ _ _ (by simp; omega)
  ·rw [Gf (b := b) hb]
theorem Sd : ∀ (n : Nat) (h : List YI) (b : List YB), b.length ≤ n → h.length ≤ 1073741824 → (De h b).2.length = b.length % 64 ∧ (De h b).1.length = h.length ∧ (C9 h = true → C9 (De h b).1 = true) := by
 intro n
 induction n with
 | zero => intro h b hn hh; rw [Gf (by omega)]; exact ⟨by simp; omega, rfl, id⟩
 | succ n ih =>
  intro h b hn hh
  by_cases hb : 64 ≤ b.length
  ·rw [Ma hb]
   have hc := O3 h (b.take 64) hh (by simp; omega)
   obtain ⟨h1, h2, h3⟩ := ih (Dx h (b.take 64)) (b.drop 64) (by simp; omega) (by omega)
   refine ⟨?_, by omega, fun hw => h3 (hc.2 hw)⟩
   rw [h1, List.length_drop]; omega
  ·rw [Gf hb]; exact ⟨by simp only; omega, rfl, id⟩
theorem Vr (h : List YI) (b : List YB) (hh : h.length ≤ 1073741824) (hb : b.length ≤ 4294967296) : Hi (h, ()) (b, ()) = some (((De h b).1, ()), ((De h b).2, ())) := by
 have key : ∀ (n : Nat) (h : List YI) (b : List YB), b.length ≤ n → h.length ≤ 1073741824 → b.length ≤ 4294967296 → Ar Cb (h, b, ()) = some ((De h b).1, (De h b).2, ()) := by
  intro n
  induction n with
  | zero =>
   intro h b hn hh hb
   rw [Gf (by omega), Bh]
   unfold Cb
   simp only [Ae, Ah, Af, Ad]
   rw [A2 (by omega), Al]
  | succ n ih =>
   intro h b hn hh hb
   rw [Bh]
   by_cases h64 : 64 ≤ b.length
   ·have hB : Cb (h, b, ()) = some (.inl (Dx h (b.take 64), b.drop 64, ())) := by
     unfold Cb
     simp only [Ae, Ah, Af, Ad]
     rw [Ak (by omega), Ax, Ak (by omega)]
     simp only [A0, show (64 : Int).toNat = 64 from rfl, show (0 : Int).toNat = 0 from rfl, List.drop_zero, Int.toNat_natCast, List.take_length]
     rw [Aqj _ _ hh (by simp; omega), Ag]
    have hc := O3 h (b.take 64) hh (by simp; omega)
    rw [hB, Ma h64, ← ih (Dx h (b.take 64)) (b.drop 64) (by simp; omega) (by omega) (by simp; omega)]
   ·unfold Cb
    simp only [Ae, Ah, Af, Ad]
    rw [A2 (by omega), Al, Gf h64]
 unfold Hi Fg
 simp only [Af, Ad]
 rw [key _ h b (Nat.le_refl _) hh hb]
 rfl
theorem Asf (all : List YB) (ha : all.length ≤ 4294967296) : ∀ (n i : Nat) (h : List YI), all.length - i ≤ n → i ≤ all.length → (all.length - i) % 64 = 0 → h.length ≤ 1073741824 → Ar Hp (all, h, (i : Int), ()) = some ((De h (all.drop i)).1, ()) := by
 intro n
 induction n with
 | zero =>
  intro i h hn hi hm hh
  rw [Gf (by simp; omega), Bh]
  unfold Hp
  simp only [Ae, Ah, Af, Ad]
  rw [A2 (by omega), Al]
 | succ n ih =>
  intro i h hn hi hm hh
  rw [Bh]
  unfold Hp
  simp only [Ae, Ah, Af, Ad]
  by_cases h64 : i < all.length
  ·rw [Ak (by omega), Ax, Ak (by omega), A0, w64 (n := (i : Int) + 64) (by omega), Ak (by omega), A0, Ak (by omega), A0]
   have e : (all.take ((i : Int) + 64).toNat).drop ((i : Int)).toNat = (all.drop i).take 64 := by
    rw [show ((i : Int) + 64).toNat = i + 64 by omega, Int.toNat_natCast, List.drop_take, Nat.add_sub_cancel_left]
   rw [e, Aqk _ _ hh (by simp; omega), Ag]
   simp only
   have hc := O3 h ((all.drop i).take 64) hh (by simp; omega)
   rw [Ma (b := all.drop i) (by simp; omega), List.drop_drop, show (i : Int) + 64 = ((i + 64 : Nat) : Int) by omega]
   exact ih (i + 64) _ (by omega) (by omega) (by omega) (by omega)
  ·rw [A2 (by omega), Al, Gf (by simp; omega)]
theorem Al1 (m : Int) (j : Nat) (h0 : 0 ≤ m) (h1 : m < 4294967296) (hj : 4 ≤ j) (hj2 : j ≤ 7) : byt m j = ((0 : Int), ()) := by
 have e : Int.fdiv m (2 ^ (min (8 * j) IntKind.i64.bits)) = 0 := by
  have hp : (4294967296 : Int) ≤ 2 ^ (min (8 * j) IntKind.i64.bits) := by
   have : j = 4 ∨ j = 5 ∨ j = 6 ∨ j = 7 := by omega
   rcases this with rfl | rfl | rfl | rfl <;> decide
  rw [Int.fdiv_eq_ediv_of_nonneg _ (by omega)]
  exact Int.ediv_eq_zero_of_lt h0 (by omega)
 unfold byt
 rw [e]; rfl
def Q6 (n : Nat) : Nat := (64 - (n + 9) % 64) % 64
def Lj (n : Nat) : List YB := (((128 : Int), ()) :: List.replicate (Q6 n) ((0 : Int), ())) ++ ([((0 : Int), ()), ((0 : Int), ())] ++ Es (8 * (n : Int)) 6 6)
theorem Al2 (n : Nat) : (Lj n).length = Q6 n + 9 := by simp [Lj, O0]
theorem Ao4 (n : Nat) (h : n ≤ 1048576) : Ar Gc ((n : Int), [((128 : Int), ())], ()) = some ((n : Int), ((128 : Int), ()) :: List.replicate (Q6 n) ((0 : Int), ()), ()) := by
 have hk : Q6 n = (64 - (n + 9) % 64) % 64 := rfl
 refine Ck (B := Gc) (Q6 n) (fun i => ((n : Int), ((128 : Int), ()) :: List.replicate i ((0 : Int), ()), ())) _ (fun i hi => ?_) ?_
 ·unfold Gc
  simp only [Ae, Ah, Ad, List.length_cons, List.length_replicate]
  rw [w64 (n := (n : Int) + ((i + 1 : Nat) : Int)) (by omega), w64 (by omega), Ak (by omega), A0, M7 (by simp; omega), Ak (by simp; omega), A0, List.cons_append, ← List.replicate_succ']
 ·unfold Gc
  simp only [Ae, Ah, Ad, List.length_cons, List.length_replicate]
  rw [w64 (n := (n : Int) + ((Q6 n + 1 : Nat) : Int)) (by omega), w64 (by omega), Ak (by omega), A0, Ew (by simp; omega)]
theorem Aw6 (n : Nat) (h : n ≤ 1048576) : Agh ((n : Int), ()) = some (Lj n, ()) := by
 have hk : Q6 n < 64 := Nat.mod_lt _ (by omega)
 unfold Agh Rl
 simp only [Ae, Ah, Af, Ad, Jl, Ag]
 rw [Ew (by simp [inR]; omega), Ao4 n h, Ag, Ak (by simp; omega), A0, w64 (by omega), Avk _ _ (by simp; omega), Ag]
 unfold Lj
 simp
theorem Aw7 (n : Nat) (h : n ≤ 1048576) : Aga ((n : Int), ()) = some (Lj n, ()) := by
 have hk : Q6 n < 64 := Nat.mod_lt _ (by omega)
 unfold Aga Rh
 simp only [Ae, Ah, Af, Ad, Ag]
 rw [A2 (by omega), Al, A2 (by omega), Al, show Pe = Gc from rfl, Ao4 n h, Ag, Ze _ _ (by simp; omega), Ag, Ze _ _ (by simp [O0]; omega), Ag, w64 (by omega)]
 unfold Lj
 have e0 : Es 0 4 4 = [((0 : Int), ()), ((0 : Int), ()), ((0 : Int), ()), ((0 : Int), ())] := by
  unfold Es
  simp only [show List.range 4 = [0, 1, 2, 3] from rfl, List.map]
  rfl
 have e6 : Es (8 * (n : Int)) 6 6 = [((0 : Int), ()), ((0 : Int), ())] ++ Es (8 * (n : Int)) 4 4 := by
  have a := Al1 (8 * (n : Int)) 5 (by omega) (by omega) (by omega) (by omega)
  have b := Al1 (8 * (n : Int)) 4 (by omega) (by omega) (by omega) (by omega)
  unfold Es
  simp only [show List.range 4 = [0, 1, 2, 3] from rfl, show List.range 6 = [0, 1, 2, 3, 4, 5] from rfl, List.map]
  rw [show 6 - 1 - 0 = 5 from rfl, show 6 - 1 - 1 = 4 from rfl, a, b]
  rfl
 rw [e0, e6]
 simp
def Lk (l : List YI) : List YB := l.flatMap fun x => Es x.1 4 4
theorem T8 (l : List YI) : (Lk l).length = 4 * l.length := by
 unfold Lk
 induction l with
 | nil => rfl
 | cons x r ih => simp only [List.flatMap_cons, List.length_append, O0, ih, List.length_cons]; omega
theorem Ai7 (l : List YI) (x : YI) : Lk (l ++ [x]) = Lk l ++ Es x.1 4 4 := by simp [Lk]
theorem Aoe (l : List YI) (h : l.length ≤ 1048576) : Mg (l, ()) = some (Lk l, ()) := by
 have hr := Ck (B := Cz) l.length (fun i => (Lk (l.take i), l, (l.length : Int), (i : Int), ())) (Lk l, ())
  (fun i hi => by
   have hx := List.getElem?_eq_getElem hi
   unfold Cz
   simp only [Ae, Af, Ad, Cd hi, Ax, A5 hx, Ag]
   rw [Ao2 _ _ (by rw [T8]; simp; omega), Ag, w64 (by omega), ← Ge hx, Ai7]
   rfl)
  (by unfold Cz; simp only [Ae, Ad, Cp, Al, List.take_length])
 unfold Mg Gw
 simp only [Af, Ad]
 rw [show Ar Cz ([], l, (l.length : Int), (0 : Int), ()) = _ from hr]
 rfl
theorem Avn (l : List YI) (h : l.length = 8) : Vx (l, ()) = some (Lk l, ()) := by
 have hr := Ck (B := Fq) 8 (fun i => (l, Lk (l.take i), (i : Int), ())) (Lk l, ())
  (fun i hi => by
   have hx := List.getElem?_eq_getElem (show i < l.length by omega)
   unfold Fq
   simp only [Ae, Af, Ad]
   rw [Ak (by omega), Ax, A5 hx, Ag, Ze _ _ (by rw [T8]; simp; omega), Ag, w64 (by omega), ← Ge hx, Ai7]
   rfl)
  (by unfold Fq; simp only [Ae, Ad]; rw [A2 (by omega), Al, ← h, List.take_length])
 unfold Vx L0
 simp only [Af, Ad]
 rw [show Ar Fq (l, [], (0 : Int), ()) = _ from hr]
 rfl
def Ce : List YI := [((1779033703 : Int), ()), ((3144134277 : Int), ()), ((1013904242 : Int), ()), ((2773480762 : Int), ()), ((1359893119 : Int), ()), ((2600822924 : Int), ()), ((528734635 : Int), ()), ((1541459225 : Int), ())]
theorem Asg : C9 Ce = true := by decide
def Xj (h : Gj) : Bool := (C9 h.1 && ((h.1.length : Int) == 8)) && (inR h.2.2.1 0 1048576 && ((h.2.2.1 % 64) == (h.2.1.length : Int)))
theorem Al3 (h : Gj) (hl : h.1.length ≤ 4294967296) : M0 h = some (Xj h, ()) := by
 unfold M0 Tb Xj
 simp only [Ae, Ah, Af, Ad, Jl, Ag]
 rw [Afb _ _ hl, Ag]
 cases (C9 h.1 && ((h.1.length : Int) == 8)) with
 | false => rfl
 | true =>
  cases hn : inR h.2.2.1 0 1048576 with
  | false => rfl
  | true =>
   have := Sc.1 hn
   simp only [Ax]
   rw [Ak (by omega), A0]
   simp
def sha (b : List YB) : List YB := if b.length ≤ 1048576 then Lk (De Ce (b ++ Lj b.length)).1 else []
theorem Ao5 (b : List YB) : (sha b).length = 32 ∨ (sha b).length = 0 := by
 unfold sha
 split
 ·left
  rw [T8, (Sd _ Ce _ (Nat.le_refl _) (by decide)).2.1]; rfl
 ·right; rfl
theorem Aql (b : List YB) : Rj (b, ()) = some (sha b, ()) := by
 unfold Rj Ri sha
 simp only [Ae, Ah, Af, Ad, List.nil_append, List.length_nil, Nat.zero_add]
 by_cases h : b.length ≤ 1048576
 ·have hp := Al2 b.length
  have hk : Q6 b.length = (64 - (b.length + 9) % 64) % 64 := rfl
  have hl := Asf (b ++ Lj b.length) (by simp; omega) (b ++ Lj b.length).length 0 Ce (by omega) (by omega) (by simp; omega) (by decide)
  rw [List.drop_zero] at hl
  rw [A2 (by omega), Al, Ak (by omega), A0, Aw7 _ h, Ag, Ak (by simp; omega), A0, show Aic = some (Ce, ()) from rfl, Ag]
  rw [show Ar Hp (b ++ Lj b.length, Ce, (0 : Int), ()) = _ from hl, Ag]
  rw [Avn _ ((Sd _ Ce _ (Nat.le_refl _) (by decide)).2.1), if_pos h]
  rfl
 ·rw [Ak (by omega), Ax, if_neg h]
theorem Aqm (b : List YB) (hb : b.length ≤ 4294967296) : Rm (b, ()) = some (sha b, ()) := by
 unfold Rm Agi sha
 simp only [Ae, Af, Ad]
 by_cases h : b.length ≤ 1048576
 ·have hp := Al2 b.length
  have hk : Q6 b.length = (64 - (b.length + 9) % 64) % 64 := rfl
  have hc := Sd _ Ce b (Nat.le_refl _) (by decide)
  have h8 : Ce.length = 8 := rfl
  have hc21 := hc.2.1
  have hc1 := hc.1
  have e1 : Qh (Ce, [], 0, ()) (b, ()) = some ((De Ce b).1, (De Ce b).2, (b.length : Int), ()) := by
   unfold Qh Qg
   simp only [Ae, Ah, Af, Ad, List.nil_append, List.length_nil, Nat.zero_add]
   rw [Al3 _ (by decide), Ag, show Xj (Ce, [], 0, ()) = true by decide]
   simp only [Bool.not_true, Al]
   rw [w64 (n := 1048576 - 0) (by omega), A2 (by omega), Al, Jm _ (by simp [cat]; omega) (by simp), Ag, show cat [([], ()), (b, ())] = b by simp [cat], Vr _ _ (by decide) (by omega), Ag]
   simp only
   rw [Ak (by omega), A0, Nl _ (by dsimp only; omega), Ag, w64 (by omega)]
   simp
  have e2 : Qj ((De Ce b).1, (De Ce b).2, (b.length : Int), ()) = some (Lk (De Ce (b ++ Lj b.length)).1, ()) := by
   unfold Qj Qi
   simp only [Ae, Ah, Af, Ad]
   rw [Al3 _ (by dsimp only; rw [hc.2.1]; decide), Ag]
   have ok : Xj ((De Ce b).1, (De Ce b).2, (b.length : Int), ()) = true := by
    unfold Xj
    simp only [hc.2.2 Asg, hc.2.1, Bool.and_eq_true]
    refine ⟨by decide, Sc.2 (by omega), ?_⟩
    rw [hc.1]; simp
   rw [ok]
   simp only [Bool.not_true, Al]
   rw [Aw6 _ h, Ag, Jm _ (by simp [cat]; omega) (by simp), Ag, show cat [((De Ce b).2, ()), (Lj b.length, ())] = (De Ce b).2 ++ Lj b.length by simp [cat], Vr _ _ (by rw [hc.2.1]; decide) (by simp; omega), Ag, ← Atw _ _ _ _ (Nat.le_refl _)]
   simp only
   rw [Aoe _ (by rw [(Sd _ Ce _ (Nat.le_refl _) (by decide)).2.1]; decide)]
   rfl
  rw [A2 (by omega), Al, show Zy = some (Ce, [], 0, ()) from rfl, Ag, e1, Ag, e2, Ag, if_pos h]
 ·rw [Ak (by omega), Ax, if_neg h]
end
end Go.Proofs.Ytggdikabbngbaaa

/-
  That the program and the reference answer alike, in plain terms, and that the laws answer true.
-/
import Derived.Test.YtggdikabbngbaaaGreatL8
namespace Go.Proofs.YtggdikabbngbaaaGreat
open Go.RowKit
set_option linter.unusedVariables false
set_option linter.unusedSimpArgs false
set_option maxHeartbeats 4000000
noncomputable section
def Fj (h : List YI) (b : List YB) : List YI × List YB := if 64 ≤ b.length then Fj (Gv h (b.take 64)) (b.drop 64) else (h, b)
termination_by b.length
decreasing_by simp; omega
theorem V7 {h : List YI} {b : List YB} (hb : 64 ≤ b.length) : Fj h b = Fj (Gv h (b.take 64)) (b.drop 64) := by rw [Fj, if_pos hb]
theorem K8 {h : List YI} {b : List YB} (hb : ¬ 64 ≤ b.length) : Fj h b = (h, b) := by rw [Fj, if_neg hb]
theorem Bl6 : ∀ (n : Nat) (h : List YI) (b p : List YB), b.length ≤ n → Fj h (b ++ p) = Fj (Fj h b).1 ((Fj h b).2 ++ p) := by
 intro n
 induction n with
 | zero => intro h b p hn; rw [K8 (b := b) (by omega)]
 | succ n ih =>
  intro h b p hn
  by_cases hb : 64 ≤ b.length
  ·rw [V7 (b := b) hb, V7 (b := b ++ p) (by simp; omega), List.take_append_of_le_length hb, List.drop_append_of_le_length hb]
   exact ih _ _ _ (by simp; omega)
  ·rw [K8 (b := b) hb]
theorem Aho : ∀ (n : Nat) (h : List YI) (b : List YB), b.length ≤ n → h.length ≤ 1073741824 → (Fj h b).2.length = b.length % 64 ∧ (Fj h b).1.length = h.length ∧ (D6 h = true → D6 (Fj h b).1 = true) := by
 intro n
 induction n with
 | zero => intro h b hn hh; rw [K8 (by omega)]; exact ⟨by simp; omega, rfl, id⟩
 | succ n ih =>
  intro h b hn hh
  by_cases hb : 64 ≤ b.length
  ·rw [V7 hb]
   have hc := Abs h (b.take 64) hh (by simp; omega)
   obtain ⟨h1, h2, h3⟩ := ih (Gv h (b.take 64)) (b.drop 64) (by simp; omega) (by omega)
   refine ⟨?_, by omega, fun hw => h3 (hc.2 hw)⟩
   rw [h1, List.length_drop]; omega
  ·rw [K8 hb]; exact ⟨by simp only; omega, rfl, id⟩
theorem An6 (h : List YI) (b : List YB) (hh : h.length ≤ 1073741824) (hb : b.length ≤ 4294967296) : Ms (h, ()) (b, ()) = some (((Fj h b).1, ()), ((Fj h b).2, ())) := by
 have key : ∀ (n : Nat) (h : List YI) (b : List YB), b.length ≤ n → h.length ≤ 1073741824 → b.length ≤ 4294967296 → Ay Dy (h, b, ()) = some ((Fj h b).1, (Fj h b).2, ()) := by
  intro n
  induction n with
  | zero =>
   intro h b hn hh hb
   rw [K8 (by omega), Ce]
   unfold Dy
   simp only [Ae, Ai, Ag, Ab]
   rw [Bm (by omega), An]
  | succ n ih =>
   intro h b hn hh hb
   rw [Ce]
   by_cases h64 : 64 ≤ b.length
   ·have hB : Dy (h, b, ()) = some (.inl (Gv h (b.take 64), b.drop 64, ())) := by
     unfold Dy
     simp only [Ae, Ai, Ag, Ab]
     rw [Ao (by omega), A3, Ao (by omega)]
     simp only [A8, show (64 : Int).toNat = 64 from rfl, show (0 : Int).toNat = 0 from rfl, List.drop_zero, Int.toNat_natCast, List.take_length]
     rw [Bhq _ _ hh (by simp; omega), Ah]
    have hc := Abs h (b.take 64) hh (by simp; omega)
    rw [hB, V7 h64, ← ih (Gv h (b.take 64)) (b.drop 64) (by simp; omega) (by omega) (by simp; omega)]
   ·unfold Dy
    simp only [Ae, Ai, Ag, Ab]
    rw [Bm (by omega), An, K8 h64]
 unfold Ms Ja
 simp only [Ag, Ab]
 rw [key _ h b (Nat.le_refl _) hh hb]
 rfl
theorem Bj0 (all : List YB) (ha : all.length ≤ 4294967296) : ∀ (n i : Nat) (h : List YI), all.length - i ≤ n → i ≤ all.length → (all.length - i) % 64 = 0 → h.length ≤ 1073741824 → Ay M6 (all, h, (i : Int), ()) = some ((Fj h (all.drop i)).1, ()) := by
 intro n
 induction n with
 | zero =>
  intro i h hn hi hm hh
  rw [K8 (by simp; omega), Ce]
  unfold M6
  simp only [Ae, Ai, Ag, Ab]
  rw [Bm (by omega), An]
 | succ n ih =>
  intro i h hn hi hm hh
  rw [Ce]
  unfold M6
  simp only [Ae, Ai, Ag, Ab]
  by_cases h64 : i < all.length
  ·rw [Ao (by omega), A3, Ao (by omega), A8, w64 (n := (i : Int) + 64) (by omega), Ao (by omega), A8, Ao (by omega), A8]
   have e : (all.take ((i : Int) + 64).toNat).drop ((i : Int)).toNat = (all.drop i).take 64 := by
    rw [show ((i : Int) + 64).toNat = i + 64 by omega, Int.toNat_natCast, List.drop_take, Nat.add_sub_cancel_left]
   rw [e, Bhr _ _ hh (by simp; omega), Ah]
   simp only
   have hc := Abs h ((all.drop i).take 64) hh (by simp; omega)
   rw [V7 (b := all.drop i) (by simp; omega), List.drop_drop, show (i : Int) + 64 = ((i + 64 : Nat) : Int) by omega]
   exact ih (i + 64) _ (by omega) (by omega) (by omega) (by omega)
  ·rw [Bm (by omega), An, K8 (by simp; omega)]
theorem Ba2 (m : Int) (j : Nat) (h0 : 0 ≤ m) (h1 : m < 4294967296) (hj : 4 ≤ j) (hj2 : j ≤ 7) : byt m j = ((0 : Int), ()) := by
 have e : Int.fdiv m (2 ^ (min (8 * j) IntKind.i64.bits)) = 0 := by
  have hp : (4294967296 : Int) ≤ 2 ^ (min (8 * j) IntKind.i64.bits) := by
   have : j = 4 ∨ j = 5 ∨ j = 6 ∨ j = 7 := by omega
   rcases this with rfl | rfl | rfl | rfl <;> decide
  rw [Int.fdiv_eq_ediv_of_nonneg _ (by omega)]
  exact Int.ediv_eq_zero_of_lt h0 (by omega)
 unfold byt
 rw [e]; rfl
def Afo (n : Nat) : Nat := (64 - (n + 9) % 64) % 64
def U3 (n : Nat) : List YB := (((128 : Int), ()) :: List.replicate (Afo n) ((0 : Int), ())) ++ ([((0 : Int), ()), ((0 : Int), ())] ++ Ft (8 * (n : Int)) 6 6)
theorem Ba3 (n : Nat) : (U3 n).length = Afo n + 9 := by simp [U3, Lk]
theorem Bft (n : Nat) (h : n ≤ 1048576) : Ay K5 ((n : Int), [((128 : Int), ())], ()) = some ((n : Int), ((128 : Int), ()) :: List.replicate (Afo n) ((0 : Int), ()), ()) := by
 have hk : Afo n = (64 - (n + 9) % 64) % 64 := rfl
 refine Da (B := K5) (Afo n) (fun i => ((n : Int), ((128 : Int), ()) :: List.replicate i ((0 : Int), ()), ())) _ (fun i hi => ?_) ?_
 ·unfold K5
  simp only [Ae, Ai, Ab, List.length_cons, List.length_replicate]
  rw [w64 (n := (n : Int) + ((i + 1 : Nat) : Int)) (by omega), w64 (by omega), Ao (by omega), A8, J3 (by simp; omega), Ao (by simp; omega), A8, List.cons_append, ← List.replicate_succ']
 ·unfold K5
  simp only [Ae, Ai, Ab, List.length_cons, List.length_replicate]
  rw [w64 (n := (n : Int) + ((Afo n + 1 : Nat) : Int)) (by omega), w64 (by omega), Ao (by omega), A8, Dw (by simp; omega)]
theorem Bp5 (n : Nat) (h : n ≤ 1048576) : A2v ((n : Int), ()) = some (U3 n, ()) := by
 have hk : Afo n < 64 := Nat.mod_lt _ (by omega)
 unfold A2v Agf
 simp only [Ae, Ai, Ag, Ab, C9, Ah]
 rw [Dw (by simp [inR]; omega), Bft n h, Ah, Ao (by simp; omega), A8, w64 (by omega), Bfr _ _ (by simp; omega), Ah]
 unfold U3
 simp
theorem Bp6 (n : Nat) (h : n ≤ 1048576) : A2o ((n : Int), ()) = some (U3 n, ()) := by
 have hk : Afo n < 64 := Nat.mod_lt _ (by omega)
 unfold A2o Af6
 simp only [Ae, Ai, Ag, Ab, Ah]
 rw [Bm (by omega), An, Bm (by omega), An, show Ab5 = K5 from rfl, Bft n h, Ah, Zm _ _ (by simp; omega), Ah, Zm _ _ (by simp [Lk]; omega), Ah, w64 (by omega)]
 unfold U3
 have e0 : Ft 0 4 4 = [((0 : Int), ()), ((0 : Int), ()), ((0 : Int), ()), ((0 : Int), ())] := by
  unfold Ft
  simp only [show List.range 4 = [0, 1, 2, 3] from rfl, List.map]
  rfl
 have e6 : Ft (8 * (n : Int)) 6 6 = [((0 : Int), ()), ((0 : Int), ())] ++ Ft (8 * (n : Int)) 4 4 := by
  have a := Ba2 (8 * (n : Int)) 5 (by omega) (by omega) (by omega) (by omega)
  have b := Ba2 (8 * (n : Int)) 4 (by omega) (by omega) (by omega) (by omega)
  unfold Ft
  simp only [show List.range 4 = [0, 1, 2, 3] from rfl, show List.range 6 = [0, 1, 2, 3, 4, 5] from rfl, List.map]
  rw [show 6 - 1 - 0 = 5 from rfl, show 6 - 1 - 1 = 4 from rfl, a, b]
  rfl
 rw [e0, e6]
 simp
def U4 (l : List YI) : List YB := l.flatMap fun x => Ft x.1 4 4
theorem Alt (l : List YI) : (U4 l).length = 4 * l.length := by
 unfold U4
 induction l with
 | nil => rfl
 | cons x r ih => simp only [List.flatMap_cons, List.length_append, Lk, ih, List.length_cons]; omega
theorem A6c (l : List YI) (x : YI) : U4 (l ++ [x]) = U4 l ++ Ft x.1 4 4 := by simp [U4]
theorem Bet (l : List YI) (h : l.length ≤ 1048576) : Wm (l, ()) = some (U4 l, ()) := by
 have hr := Da (B := E7) l.length (fun i => (U4 (l.take i), l, (l.length : Int), (i : Int), ())) (U4 l, ())
  (fun i hi => by
   have hx := List.getElem?_eq_getElem hi
   unfold E7
   simp only [Ae, Ag, Ab, Ci hi, A3, Bq hx, Ah]
   rw [Asz _ _ (by rw [Alt]; simp; omega), Ah, w64 (by omega), ← Eu hx, A6c]
   rfl)
  (by unfold E7; simp only [Ae, Ab, C0, An, List.take_length])
 unfold Wm Lv
 simp only [Ag, Ab]
 rw [show Ay E7 ([], l, (l.length : Int), (0 : Int), ()) = _ from hr]
 rfl
theorem Bnz (l : List YI) (h : l.length = 8) : Aon (l, ()) = some (U4 l, ()) := by
 have hr := Da (B := Js) 8 (fun i => (l, U4 (l.take i), (i : Int), ())) (U4 l, ())
  (fun i hi => by
   have hx := List.getElem?_eq_getElem (show i < l.length by omega)
   unfold Js
   simp only [Ae, Ag, Ab]
   rw [Ao (by omega), A3, Bq hx, Ah, Zm _ _ (by rw [Alt]; simp; omega), Ah, w64 (by omega), ← Eu hx, A6c]
   rfl)
  (by unfold Js; simp only [Ae, Ab]; rw [Bm (by omega), An, ← h, List.take_length])
 unfold Aon Vv
 simp only [Ag, Ab]
 rw [show Ay Js (l, [], (0 : Int), ()) = _ from hr]
 rfl
def D7 : List YI := [((1779033703 : Int), ()), ((3144134277 : Int), ()), ((1013904242 : Int), ()), ((2773480762 : Int), ()), ((1359893119 : Int), ()), ((2600822924 : Int), ()), ((528734635 : Int), ()), ((1541459225 : Int), ())]
theorem Bj1 : D6 D7 = true := by decide
def Arm (h : Lc) : Bool := (D6 h.1 && ((h.1.length : Int) == 8)) && (inR h.2.2.1 0 1048576 && ((h.2.2.1 % 64) == (h.2.1.length : Int)))
theorem Ba4 (h : Lc) (hl : h.1.length ≤ 4294967296) : Xt h = some (Arm h, ()) := by
 unfold Xt Ajp Arm
 simp only [Ae, Ai, Ag, Ab, C9, Ah]
 rw [Alp _ _ hl, Ah]
 cases (D6 h.1 && ((h.1.length : Int) == 8)) with
 | false => rfl
 | true =>
  cases hn : inR h.2.2.1 0 1048576 with
  | false => rfl
  | true =>
   have := C6.1 hn
   simp only [A3]
   rw [Ao (by omega), A8]
   simp
def sha (b : List YB) : List YB := if b.length ≤ 1048576 then U4 (Fj D7 (b ++ U3 b.length)).1 else []
theorem Bfu (b : List YB) : (sha b).length = 32 ∨ (sha b).length = 0 := by
 unfold sha
 split
 ·left
  rw [Alt, (Aho _ D7 _ (Nat.le_refl _) (by decide)).2.1]; rfl
 ·right; rfl
theorem Bhs (b : List YB) : Af8 (b, ()) = some (sha b, ()) := by
 unfold Af8 Af7 sha
 simp only [Ae, Ai, Ag, Ab, List.nil_append, List.length_nil, Nat.zero_add]
 by_cases h : b.length ≤ 1048576
 ·have hp := Ba3 b.length
  have hk : Afo b.length = (64 - (b.length + 9) % 64) % 64 := rfl
  have hl := Bj0 (b ++ U3 b.length) (by simp; omega) (b ++ U3 b.length).length 0 D7 (by omega) (by omega) (by simp; omega) (by decide)
  rw [List.drop_zero] at hl
  rw [Bm (by omega), An, Ao (by omega), A8, Bp6 _ h, Ah, Ao (by simp; omega), A8, show A5c = some (D7, ()) from rfl, Ah]
  rw [show Ay M6 (b ++ U3 b.length, D7, (0 : Int), ()) = _ from hl, Ah]
  rw [Bnz _ ((Aho _ D7 _ (Nat.le_refl _) (by decide)).2.1), if_pos h]
  rfl
 ·rw [Ao (by omega), A3, if_neg h]
theorem Bht (b : List YB) (hb : b.length ≤ 4294967296) : Agg (b, ()) = some (sha b, ()) := by
 unfold Agg A2w sha
 simp only [Ae, Ag, Ab]
 by_cases h : b.length ≤ 1048576
 ·have hp := Ba3 b.length
  have hk : Afo b.length = (64 - (b.length + 9) % 64) % 64 := rfl
  have hc := Aho _ D7 b (Nat.le_refl _) (by decide)
  have h8 : D7.length = 8 := rfl
  have hc21 := hc.2.1
  have hc1 := hc.1
  have e1 : Aeh (D7, [], 0, ()) (b, ()) = some ((Fj D7 b).1, (Fj D7 b).2, (b.length : Int), ()) := by
   unfold Aeh Aeg
   simp only [Ae, Ai, Ag, Ab, List.nil_append, List.length_nil, Nat.zero_add]
   rw [Ba4 _ (by decide), Ah, show Arm (D7, [], 0, ()) = true by decide]
   simp only [Bool.not_true, An]
   rw [w64 (n := 1048576 - 0) (by omega), Bm (by omega), An, N8 _ (by simp [cat]; omega) (by simp), Ah, show cat [([], ()), (b, ())] = b by simp [cat], An6 _ _ (by decide) (by omega), Ah]
   simp only
   rw [Ao (by omega), A8, Dn _ (by dsimp only; omega), Ah, w64 (by omega)]
   simp
  have e2 : Aej ((Fj D7 b).1, (Fj D7 b).2, (b.length : Int), ()) = some (U4 (Fj D7 (b ++ U3 b.length)).1, ()) := by
   unfold Aej Aei
   simp only [Ae, Ai, Ag, Ab]
   rw [Ba4 _ (by dsimp only; rw [hc.2.1]; decide), Ah]
   have ok : Arm ((Fj D7 b).1, (Fj D7 b).2, (b.length : Int), ()) = true := by
    unfold Arm
    simp only [hc.2.2 Bj1, hc.2.1, Bool.and_eq_true]
    refine ⟨by decide, C6.2 (by omega), ?_⟩
    rw [hc.1]; simp
   rw [ok]
   simp only [Bool.not_true, An]
   rw [Bp5 _ h, Ah, N8 _ (by simp [cat]; omega) (by simp), Ah, show cat [((Fj D7 b).2, ()), (U3 b.length, ())] = (Fj D7 b).2 ++ U3 b.length by simp [cat], An6 _ _ (by rw [hc.2.1]; decide) (by simp; omega), Ah, ← Bl6 _ _ _ _ (Nat.le_refl _)]
   simp only
   rw [Bet _ (by rw [(Aho _ D7 _ (Nat.le_refl _) (by decide)).2.1]; decide)]
   rfl
  rw [Bm (by omega), An, show Atm = some (D7, [], 0, ()) from rfl, Ah, e1, Ah, e2, Ah, if_pos h]
 ·rw [Ao (by omega), A3, if_neg h]
end
end Go.Proofs.YtggdikabbngbaaaGreat

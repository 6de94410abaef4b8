/-
  That the program and the reference answer alike, in plain terms, and that the laws answer true.
-/
import Derived.Test.YtndbndcibmfgdaaGreatL23
namespace Go.Proofs.YtndbndcibmfgdaaGreat
open Go.RowKit
set_option linter.unusedVariables false
set_option linter.unusedSimpArgs false
set_option maxRecDepth 100000
set_option maxHeartbeats 4000000
noncomputable section
/-! ## Elements that are chosen -/
theorem filter_snoc {E : Type} {p : E → Bool} {l : List E} {i : Nat} {x : E} (hx : l[i]? = some x) : (l.take (i + 1)).filter p = (l.take i).filter p ++ (bif p x then [x] else []) := by
  rw [← snoc_take hx, List.filter_append]
  cases h : p x <;> simp [List.filter_cons, h]
theorem filter_le {E : Type} {p : E → Bool} {l : List E} {i : Nat} : ((l.take i).filter p).length ≤ i := by
  have := List.length_filter_le p (l.take i)
  simp only [List.length_take] at this; omega
theorem sumN_filter {E : Type} {f : E → Nat} {p : E → Bool} : ∀ {l : List E}, sumN f (l.filter p) ≤ sumN f l
  | [] => by simp [sumN]
  | a :: r => by
    have := sumN_filter (f := f) (p := p) (l := r)
    simp only [List.filter_cons]
    split <;> simp only [sumN] <;> omega
theorem nat_beq (n : Nat) : Nat.beq n n = true := Nat.beq_refl n
theorem ble_up {i : Nat} : Nat.ble (Int.toNat (i : Int) + 1) (Int.toNat ((i : Int) + 1)) = true := by
  rw [show Int.toNat (i : Int) = i by omega, show Int.toNat ((i : Int) + 1) = i + 1 by omega]
  exact Nat.ble_eq_true_of_le (Nat.le_refl _)
def untilP (n : Int) (x : YCand) : Bool := decide (x.2.2.2.1 ≥ n)
def ticked (p : YPaths) (n : Int) : YPaths := (p.1, p.2.1, p.2.2.1.filter (untilP n), ())
theorem i_withoutExpired (p : YPaths) (n : YI) (h : need_Paths p ≤ 4294967296) : V_i_withoutExpired p n = some (ticked p n.1) := by
  have h' := h
  obtain ⟨a, b, l, ⟨⟩⟩ := p
  simp only [need_Paths] at h'
  have hl := loop_run (B := B_i_withoutExpired_3) l.length (fun i => (n.1, l, (l.length : Int), (i : Int), (0 : Int), (0 : Int), ([] : List YCand), a, b, (l.take i).filter (untilP n.1), ())) ((0 : Int), (0 : Int), ([] : List YCand), a, b, l.filter (untilP n.1), ())
    (fun i hi => by
      have hx := List.getElem?_eq_getElem hi
      have hle := filter_le (p := untilP n.1) (l := l) (i := i)
      have hs := filter_snoc (p := untilP n.1) hx
      unfold B_i_withoutExpired_3
      simp only [val_br, val_ob, val_leaf, val_chk, lt_dec hi, br_t, idx_at hx, ob_s, nat_beq, chk_t]
      rw [w64 (by omega), ble_up]
      simp only [chk_t]
      rw [hs]
      have hp : untilP n.1 l[i] = decide (l[i].2.2.2.1 ≥ n.1) := rfl
      rw [hp]
      cases decide (l[i].2.2.2.1 ≥ n.1) with
      | false => simp [br_f]
      | true =>
        simp only [br_t, cond_true]
        rw [dec_t (by simp; omega), chk_t]
        rfl)
    (by unfold B_i_withoutExpired_3; simp only [val_br, val_leaf, ge_dec, br_f, List.take_length])
  unfold V_i_withoutExpired T_i_withoutExpired
  simp only [val_ob, val_leaf]
  rw [i_copyPaths _ h]
  simp only [ob_s]
  rw [show iterO B_i_withoutExpired_3 (n.1, l, (l.length : Int), (0 : Int), (0 : Int), (0 : Int), ([] : List YCand), a, b, ([] : List YCand), ()) = _ from hl]
  rfl
theorem ticked_need (p : YPaths) (n : Int) : need_Paths (ticked p n) ≤ need_Paths p := by
  have h1 := List.length_filter_le (untilP n) p.2.2.1
  have h2 := sumN_filter (f := need_Cand) (p := untilP n) (l := p.2.2.1)
  simp only [need_Paths, ticked]; omega
def pathTick (p : YPaths) (n : Int) : YPaths := bif pathsOk p && inR n 0 1000000 then ticked p n else p
theorem pathTick_need (p : YPaths) (n : Int) : need_Paths (pathTick p n) ≤ need_Paths p := by
  have := ticked_need p n
  unfold pathTick
  cases (pathsOk p && inR n 0 1000000) <;> simp only [cond_true, cond_false] <;> omega
theorem i_PathTick (p : YPaths) (n : YI) (h : need_Paths p ≤ 4294967296) : V_i_PathTick p n = some (pathTick p n.1) := by
  have hl : p.2.2.1.length ≤ need_Paths p := by simp only [need_Paths]; omega
  unfold V_i_PathTick T_i_PathTick pathTick
  simp only [val_br, val_ob, val_leaf]
  rw [i_PathsOk p (by omega), i_within, i_copyPaths p h, i_withoutExpired p n h]
  simp only [ob_s]
  cases pathsOk p <;> cases inR n.1 0 1000000 <;> rfl
theorem s_PathTick (p : YPaths) (n : YI) (h : need_Paths p ≤ 4294967296) : V_s_PathTick p n = some (pathTick p n.1) := by
  have h' := h
  have hl0 : p.2.2.1.length ≤ need_Paths p := by simp only [need_Paths]; omega
  unfold V_s_PathTick T_s_PathTick pathTick
  simp only [val_br, val_ob, val_leaf]
  rw [s_PathsOk p (by omega), s_l1In, s_l16Copy p h]
  simp only [ob_s]
  obtain ⟨a, b, l, ⟨⟩⟩ := p
  simp only [need_Paths] at h'
  have hl := loop_run (B := B_s_PathTick_5) l.length (fun i => (n.1, (i : Int), a, b, l, (0 : Int), (0 : Int), ([] : List YCand), a, b, (l.take i).filter (untilP n.1), ())) ((0 : Int), (0 : Int), ([] : List YCand), a, b, l.filter (untilP n.1), ())
    (fun i hi => by
      have hx := List.getElem?_eq_getElem hi
      have hle := filter_le (p := untilP n.1) (l := l) (i := i)
      have hs := filter_snoc (p := untilP n.1) hx
      have hn := sumN_at (f := need_Cand) hx
      unfold B_s_PathTick_5
      simp only [val_br, val_ob, val_leaf, val_chk, lt_dec hi, br_t, idx_at hx, ob_s]
      rw [w64 (by omega), hs, s_l16Cand _ (by omega)]
      simp only [ob_s]
      have hp : untilP n.1 l[i] = decide (l[i].2.2.2.1 ≥ n.1) := rfl
      rw [hp]
      cases decide (l[i].2.2.2.1 ≥ n.1) with
      | false => simp [br_f]
      | true =>
        simp only [br_t, cond_true]
        rw [dec_t (by simp; omega), chk_t]
        rfl)
    (by unfold B_s_PathTick_5; simp only [val_br, val_leaf, ge_dec, br_f, List.take_length])
  rw [show iterO B_s_PathTick_5 (n.1, (0 : Int), a, b, l, (0 : Int), (0 : Int), ([] : List YCand), a, b, ([] : List YCand), ()) = _ from hl]
  cases pathsOk (a, b, l, ()) <;> cases inR n.1 0 1000000 <;> rfl
theorem pathsOf_need (s : YSess) : need_Paths (pathsOf s) ≤ need_Sess s := by simp only [need_Paths, pathsOf, need_Sess]; omega
theorem ok_SessTick (s : YSess) (n : YI) (h : need_Sess s ≤ 8388608) : ∃ r, V_i_SessTick s n = some r ∧ V_s_SessTick s n = some r ∧ need_Sess r ≤ need_Sess s := by
  have hch := chanOf_need s
  have hpa := pathsOf_need s
  have hpt := pathTick_need (pathsOf s) n.1
  unfold V_i_SessTick T_i_SessTick V_s_SessTick T_s_SessTick
  simp only [val_br, val_ob, val_leaf]
  obtain ⟨bu, b1, b2, b3⟩ := ok_Bury s (by omega)
  obtain ⟨c', c1, c2, c3⟩ := ok_ChanTick (chanOf s) n (by omega)
  rw [i_copySess s (by omega), s_l20Copy s (by omega), i_SessOk s (by omega), s_SessOk s (by omega), i_within, s_l1In, b1, b2, c1, c2, i_PathTick (pathsOf s) n (by omega), s_PathTick (pathsOf s) n (by omega)]
  simp only [ob_s]
  have nope : ∃ r, some s = some r ∧ some s = some r ∧ need_Sess r ≤ need_Sess s := ⟨s, rfl, rfl, Nat.le_refl _⟩
  cases sessOk s with
  | false => exact nope
  | true =>
    simp only [Bool.not_true, br_f]
    by_cases hd : s.2.2.2.2.2.2.2.2.2.2.2.2.2.2.2.2.2.2.2.2.2.2.2.1 = true
    · rw [br_tt hd]; exact nope
    · have hd' : s.2.2.2.2.2.2.2.2.2.2.2.2.2.2.2.2.2.2.2.2.2.2.2.1 = false := by simpa using hd
      rw [br_ff hd']
      cases inR n.1 0 1000000 with
      | false => exact nope
      | true =>
        simp only [Bool.not_true, br_f]
        cases decide (IntKind.i64.wrap (n.1 - s.2.2.2.2.2.2.2.2.2.2.2.2.2.2.2.2.2.2.2.2.2.2.1) > 60) with
        | true => exact ⟨bu, rfl, rfl, b3⟩
        | false =>
          refine ⟨_, rfl, rfl, ?_⟩
          generalize pathTick (pathsOf s) n.1 = pt at hpt ⊢
          simp only [need_Chan, chanOf] at c3
          simp only [need_Paths, pathsOf] at hpt
          simp only [need_Sess]; omega
end
end Go.Proofs.YtndbndcibmfgdaaGreat

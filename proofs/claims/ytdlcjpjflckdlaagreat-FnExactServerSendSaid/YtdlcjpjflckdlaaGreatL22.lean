/-
  That the program and the reference answer alike, in plain terms, and that the laws answer true.
-/
import Derived.Test.YtdlcjpjflckdlaaGreatL21
namespace Go.Proofs.YtdlcjpjflckdlaaGreat
open Go.RowKit
set_option linter.unusedVariables false
set_option linter.unusedSimpArgs false
set_option maxRecDepth 100000
set_option maxHeartbeats 4000000
noncomputable section
/-! ## A table with one session turned -/
def liveC (l : List YSess) : Nat := l.countP fun x => !deadOf x
theorem live_count (t : YTab) (h : t.2.1.length ≤ 4294967296) : liveN t = (liveC t.2.1 : Nat) := by
  obtain ⟨cap, l, ⟨⟩⟩ := t
  simp only at h
  have hl := loop_run (B := B_i_Live_3) l.length (fun i => (((liveC (l.take i) : Nat) : Int), l, (l.length : Int), (i : Int), ())) (((liveC l : Nat) : Int), ())
    (fun i hi => by
      have hx := List.getElem?_eq_getElem hi
      have hc : liveC (l.take (i + 1)) = liveC (l.take i) + (if deadOf l[i] = true then 0 else 1) := by
        rw [← snoc_take hx]
        unfold liveC
        rw [List.countP_append]
        cases hd : deadOf l[i] <;> simp [List.countP_cons, hd]
      have hle : liveC (l.take i) ≤ i := by
        have := List.countP_le_length (p := fun x => !deadOf x) (l := l.take i)
        simp only [List.length_take] at this
        unfold liveC; omega
      unfold B_i_Live_3
      simp (disch := omega) only [val_br, val_ob, val_leaf, lt_dec hi, br_t, idx_at hx, ob_s, w64]
      simp only [br_i]
      rw [hc]
      split
      · rename_i h1
        have h2 : deadOf l[i] = false := by simpa using h1
        rw [if_neg (by rw [h2]; decide)]
        simp
      · rename_i h1
        have h2 : deadOf l[i] = true := by simpa using h1
        rw [if_pos h2]
        simp)
    (by unfold B_i_Live_3; simp only [val_br, val_leaf, ge_dec, br_f, List.take_length])
  unfold liveN V_i_Live T_i_Live
  simp only [val_ob, val_leaf]
  rw [show iterO B_i_Live_3 ((0 : Int), l, (l.length : Int), (0 : Int), ()) = _ from hl]
  rfl
theorem fstI_set {E : Type} {q : E → Bool} : ∀ {l : List E} {i k : Nat} {x y : E}, l[i]? = some x → q y = q x → fstI (fun _ z => q z) (l.set i y) k = fstI (fun _ z => q z) l k
  | [], i, k, x, y, h, _ => by simp at h
  | a :: r, 0, k, x, y, h, e => by
    simp at h; subst h
    simp only [List.set_cons_zero, fstI, e]
  | a :: r, i + 1, k, x, y, h, e => by
    simp only [List.set_cons_succ, fstI]
    rw [fstI_set (l := r) (i := i) (by simpa using h) e]
theorem findSn_set {l : List YSess} {i : Nat} {x y : YSess} (hx : l[i]? = some x) (h : y.2.2.1 = x.2.2.1) (s : List YB) : findSn (l.set i y) s = findSn l s := by
  unfold findSn posI
  rw [fstI_set (q := fun x => sameB x.2.2.1 s) hx (by simp only [h])]
theorem liveC_set : ∀ {l : List YSess} {i : Nat} {x y : YSess}, l[i]? = some x → (deadOf y = true ∨ deadOf y = deadOf x) → liveC (l.set i y) ≤ liveC l
  | [], i, x, y, h, _ => by simp at h
  | a :: r, 0, x, y, h, e => by
    simp at h; subst h
    simp only [List.set_cons_zero, liveC, List.countP_cons]
    rcases e with e | e
    · rw [e]; simp
    · rw [e]; exact Nat.le_refl _
  | a :: r, i + 1, x, y, h, e => by
    have := liveC_set (l := r) (i := i) (x := x) (y := y) (by simpa using h) e
    simp only [List.set_cons_succ, liveC, List.countP_cons] at this ⊢
    omega
theorem tabOk_set {t : YTab} {i : Nat} {x y : YSess} (hl : t.2.1.length ≤ 4294967296) (ht : tabOk t = true) (hx : t.2.1[i]? = some x) (ho : sessOk y = true) (hs : y.2.2.1 = x.2.2.1) (hd : deadOf y = true ∨ deadOf y = deadOf x) : tabOk (t.1, t.2.1.set i y, ()) = true := by
  unfold tabOk at ht ⊢
  simp only [Bool.and_eq_true] at ht ⊢
  refine ⟨ht.1, by simpa using ht.2.1, ?_, ?_⟩
  · have h1 := ht.2.2.1
    rw [live_count t hl] at h1
    rw [live_count _ (by simpa using hl)]
    have h2 := liveC_set hx hd
    simp only [Bool.not_eq_true', decide_eq_false_iff_not] at h1 ⊢
    have h1' : ¬ ((liveC t.2.1 : Nat) : Int) > t.1 := h1
    have h2' : liveC (t.2.1.set i y) ≤ liveC t.2.1 := h2
    show ¬ ((liveC (t.2.1.set i y) : Nat) : Int) > t.1
    omega
  · have h1 := noneB_t.1 ht.2.2.2
    refine noneB_t.2 fun j z hz => ?_
    rw [List.getElem?_set] at hz
    unfold sessBad
    by_cases hij : i = j
    · subst hij
      have hlt : i < t.2.1.length := (List.getElem?_eq_some_iff.1 hx).1
      rw [if_pos rfl, if_pos hlt] at hz
      simp only [Option.some.injEq] at hz
      subst hz
      have h3 := h1 i x hx
      unfold sessBad at h3
      rw [findSn_set hx hs, hs, ho]
      simp only [Bool.not_eq_false', Bool.and_eq_true] at h3 ⊢
      exact ⟨trivial, h3.2⟩
    · rw [if_neg hij] at hz
      have h3 := h1 j z hz
      unfold sessBad at h3
      rw [findSn_set hx hs]
      exact h3
theorem putSess_ok (t : YTab) (n : YI) (s x : YSess) (h : need_Tab t + need_Sess s ≤ 1073741824) (ht : tabOk t = true) (h0 : 0 ≤ n.1) (hx : t.2.1[n.1.toNat]? = some x) (ho : tabOk (t.1, t.2.1.set n.1.toNat s, ()) = true) :
    V_i_PutSess t n s = some ((t.1, t.2.1.set n.1.toNat s, ()), (true, ())) := by
  have hl : t.2.1.length ≤ need_Tab t := by simp only [need_Tab]; omega
  have hlt : n.1.toNat < t.2.1.length := (List.getElem?_eq_some_iff.1 hx).1
  have hn : need_Tab (t.1, t.2.1.set n.1.toNat s, ()) ≤ need_Tab t + need_Sess s := by
    have := sumN_set (f := need_Sess) (l := t.2.1) (i := n.1.toNat) (x := s)
    simp only [need_Tab, List.length_set]; omega
  unfold V_i_PutSess T_i_PutSess
  simp only [val_br, val_ob, val_leaf, val_chk]
  rw [i_copyTab t (by omega), i_TabOk t (by omega), i_copySess s (by omega)]
  simp only [ob_s, ht, Bool.not_true, br_f]
  rw [dec_f (by omega), br_f, dec_f (by omega), br_f]
  have hid : idx t.2.1 n.1 = some x := by unfold idx; rw [if_pos h0]; exact hx
  rw [hid]
  simp only [ob_s]
  rw [i_TabOk _ (by omega)]
  simp only [ob_s, ho, Bool.not_true, br_f]
end
end Go.Proofs.YtdlcjpjflckdlaaGreat

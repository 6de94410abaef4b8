/-
  That the program and the reference answer alike, in plain terms, and that the laws answer true.
-/
import Derived.Test.YtdlcjpjflckdlaaGreatL3
namespace Go.Proofs.YtdlcjpjflckdlaaGreat
open Go.RowKit
set_option linter.unusedVariables false
set_option linter.unusedSimpArgs false
set_option maxHeartbeats 4000000
noncomputable section
/-! ## Places in rows -/
def posI {E : Type} (q : E → Bool) (l : List E) : Int := (fstI (fun _ x => q x) l 0).elim (-1) fun i => (i : Int)
theorem posI_at {E : Type} {q : E → Bool} {l : List E} {i : Nat} {x : E} (hx : l[i]? = some x) (hq : q x = true) : 0 ≤ posI q l ∧ posI q l ≤ i := by
  unfold posI
  cases h : fstI (fun _ x => q x) l 0 with
  | none =>
    have := fstI_none.1 h i x hx
    rw [hq] at this; cases this
  | some k =>
    obtain ⟨j, y, rfl, h2, h3, h4⟩ := fstI_some h
    simp only [Option.elim, Nat.zero_add]
    rcases Nat.lt_or_ge i j with hh | hh
    · have := h4 i x hh hx
      try simp only at this
      rw [hq] at this; cases this
    · omega
theorem posI_lt {E : Type} {q : E → Bool} {l : List E} {i : Nat} {x : E} (hx : l[i]? = some x) (hq : q x = true) : decide (posI q l < i) = !noneB (fun _ y => q y) (l.take i) := by
  apply beq_of_iff
  have hb := posI_at hx hq
  rw [Bool.not_eq_true', decide_eq_true_iff]
  constructor
  · intro hlt
    cases hn : noneB (fun _ y => q y) (l.take i) with
    | false => rfl
    | true =>
      rw [noneB_t] at hn
      unfold posI at hlt hb
      cases h : fstI (fun _ x => q x) l 0 with
      | none => rw [h] at hb; simp at hb
      | some k =>
        rw [h] at hlt
        simp only [Option.elim] at hlt
        obtain ⟨j, y, rfl, h2, h3, h4⟩ := fstI_some h
        have := hn j y (by rw [List.getElem?_take, if_pos (by omega)]; exact h2)
        try simp only at h3
        rw [this] at h3; cases h3
  · intro hn
    rcases Int.lt_or_le (posI q l) i with h | h
    · exact h
    · exfalso
      have hall : noneB (fun _ y => q y) (l.take i) = true := by
        rw [noneB_t]
        intro j y hj
        rw [List.getElem?_take] at hj
        split at hj
        · rename_i hlt
          cases hq2 : q y with
          | false => rfl
          | true => have := posI_at hj hq2; omega
        · cases hj
      rw [hall] at hn; cases hn
theorem sm_pos {E : Type} (q : E → Bool) (l : List E) : (sm ((fstI (fun _ x => q x) l 0).elim (Sum.inr ()) fun i => Sum.inl ((i : Int), ())) (fun c : Int × Unit => some (c.1, ())) fun _ : Unit => some ((-1 : Int), ())) = some (posI q l, ()) := by
  unfold posI
  cases fstI (fun _ x => q x) l 0 <;> rfl
def findSn (l : List YSess) (s : List YB) : Int := posI (fun x => sameB x.2.2.1 s) l
theorem i_FindSn (t : YTab) (a : YBs) (h : t.2.1.length ≤ 4294967296) : V_i_FindSn t a = some (findSn t.2.1 a.1, ()) := by
  obtain ⟨cap, l, _⟩ := t
  obtain ⟨s, _⟩ := a
  simp only at h
  have hl := loop_find (B := B_i_FindSn_2) l (fun i => (s, l, (l.length : Int), (i : Int), ())) (fun _ x => sameB x.2.2.1 s) (fun i => ((i : Int), ())) ()
    (fun i x hi hx => by
      unfold B_i_FindSn_2
      simp (disch := omega) only [val_br, val_ob, val_leaf, lt_dec hi, br_t, idx_at hx, ob_s, w64, bytes_Equal]
      rfl)
    (by unfold B_i_FindSn_2; simp only [val_br, val_leaf, ge_dec, br_f])
  unfold V_i_FindSn T_i_FindSn
  simp only [val_ob, val_leaf, val_sm]
  rw [show ((0 : Int)) = ((0 : Nat) : Int) from rfl, hl]
  exact sm_pos _ _
theorem s_FindSn (t : YTab) (a : YBs) (h : t.2.1.length ≤ 4294967296) : V_s_FindSn t a = some (findSn t.2.1 a.1, ()) := by
  obtain ⟨cap, l, _⟩ := t
  obtain ⟨s, _⟩ := a
  simp only at h
  have hl := loop_find (B := B_s_FindSn_2) l (fun i => (s, (i : Int), cap, l, ())) (fun _ x => sameB x.2.2.1 s) (fun i => ((i : Int), ())) ()
    (fun i x hi hx => by
      unfold B_s_FindSn_2
      simp (disch := omega) only [val_br, val_ob, val_leaf, lt_dec hi, br_t, idx_at hx, ob_s, w64, s_l1Same]
      rfl)
    (by unfold B_s_FindSn_2; simp only [val_br, val_leaf, ge_dec, br_f])
  unfold V_s_FindSn T_s_FindSn
  simp only [val_ob, val_leaf, val_sm]
  rw [show ((0 : Int)) = ((0 : Nat) : Int) from rfl, hl]
  exact sm_pos _ _
theorem sameB_refl (a : List YB) : sameB a a = true := by simp [sameB]
def liveN (t : YTab) : Int := match V_i_Live t with | some r => r.1 | none => 0
theorem i_Live (t : YTab) (h : t.2.1.length ≤ 4294967296) : V_i_Live t = some (liveN t, ()) := by
  obtain ⟨r, h1, h2⟩ := ok_Live t h
  unfold liveN; rw [h1]
theorem s_Live (t : YTab) (h : t.2.1.length ≤ 4294967296) : V_s_Live t = some (liveN t, ()) := by
  obtain ⟨r, h1, h2⟩ := ok_Live t h
  unfold liveN; rw [h1, h2]
def sessBad (l : List YSess) (i : Nat) (x : YSess) : Bool := !(sessOk x && !decide (findSn l x.2.2.1 < i))
def tabOk (t : YTab) : Bool := inR t.1 1 6 && (!decide ((t.2.1.length : Int) > 12) && (!decide (liveN t > t.1) && noneB (sessBad t.2.1) t.2.1))
theorem i_TabOk (t : YTab) (h : need_Tab t ≤ 4294967296) : V_i_TabOk t = some (tabOk t, ()) := by
  obtain ⟨cap, l, _⟩ := t
  simp only [need_Tab] at h
  have hl := loop_none (B := B_i_TabOk_4) l (fun i => (l, (l.length : Int), (i : Int), cap, l, ())) (sessBad l) (false, ()) ()
    (fun i x hi hx => by
      have h2 := sumN_at (f := need_Sess) hx
      unfold B_i_TabOk_4
      simp only [val_br, val_ob, val_leaf, lt_dec hi, br_t, idx_at hx, ob_s]
      rw [i_SessOk x (by omega), i_FindSn _ _ (by dsimp only; omega), w64 (by omega)]
      simp only [ob_s, sessBad]
      cases sessOk x <;> cases decide (findSn l x.2.2.1 < (i : Int)) <;> rfl)
    (by unfold B_i_TabOk_4; simp only [val_br, val_leaf, ge_dec, br_f])
  unfold V_i_TabOk T_i_TabOk tabOk
  simp only [val_br, val_ob, val_leaf, val_sm, i_within, ob_s]
  rw [i_Live _ (by dsimp only; omega), show ((0 : Int)) = ((0 : Nat) : Int) from rfl, hl]
  simp only [ob_s]
  cases inR cap 1 6 <;> cases decide ((l.length : Int) > 12) <;> cases decide (liveN (cap, l, ()) > cap) <;> cases noneB (sessBad l) l <;> rfl
theorem s_TabOk (t : YTab) (h : need_Tab t ≤ 4294967296) : V_s_TabOk t = some (tabOk t, ()) := by
  obtain ⟨cap, l, _⟩ := t
  simp only [need_Tab] at h
  have hl := loop_none (B := B_s_TabOk_4) l (fun i => ((i : Int), cap, l, ())) (sessBad l) (false, ()) ()
    (fun i x hi hx => by
      have h2 := sumN_at (f := need_Sess) hx
      have h3 := posI_at (q := fun y => sameB y.2.2.1 x.2.2.1) hx (sameB_refl _)
      have h4 : (findSn l x.2.2.1 != (i : Int)) = decide (findSn l x.2.2.1 < (i : Int)) := by
        apply beq_of_iff; unfold findSn; simp; omega
      unfold B_s_TabOk_4
      simp only [val_br, val_ob, val_leaf, lt_dec hi, br_t, idx_at hx, ob_s]
      rw [s_SessOk x (by omega), s_FindSn _ _ (by dsimp only; omega), w64 (by omega)]
      simp only [ob_s, sessBad, h4]
      cases sessOk x <;> cases decide (findSn l x.2.2.1 < (i : Int)) <;> rfl)
    (by unfold B_s_TabOk_4; simp only [val_br, val_leaf, ge_dec, br_f])
  unfold V_s_TabOk T_s_TabOk tabOk
  simp only [val_br, val_ob, val_leaf, val_sm, s_l1In, ob_s]
  rw [s_Live _ (by dsimp only; omega), show ((0 : Int)) = ((0 : Nat) : Int) from rfl, hl]
  simp only [ob_s]
  cases inR cap 1 6 <;> cases decide ((l.length : Int) > 12) <;> cases decide (liveN (cap, l, ()) > cap) <;> cases noneB (sessBad l) l <;> rfl
def creditAt (l : List YCredit) (a : YAddr) : Int := posI (fun x => eqA x.1 x.2.1 a.1 a.2.1) l
theorem i_creditAt (l : List YCredit) (a : YAddr) (h : l.length ≤ 4294967296) : V_i_creditAt (l, ()) a = some (creditAt l a, ()) := by
  obtain ⟨p, q, _⟩ := a
  have hl := loop_find (B := B_i_creditAt_2) l (fun i => (l, (l.length : Int), (i : Int), p, q, ())) (fun _ x => eqA x.1 x.2.1 p q) (fun i => ((i : Int), ())) ()
    (fun i x hi hx => by
      unfold B_i_creditAt_2
      simp (disch := omega) only [val_br, val_ob, val_leaf, lt_dec hi, br_t, idx_at hx, ob_s, w64]
      rfl)
    (by unfold B_i_creditAt_2; simp only [val_br, val_leaf, ge_dec, br_f])
  unfold V_i_creditAt T_i_creditAt
  simp only [val_ob, val_leaf, val_sm]
  rw [show ((0 : Int)) = ((0 : Nat) : Int) from rfl, hl]
  exact sm_pos _ _
theorem eqA_refl (a b : Int) : eqA a b a b = true := by simp [eqA]
def credBad (l : List YCredit) (i : Nat) (x : YCredit) : Bool :=
  !(addrOk (x.1, x.2.1, ()) && (inR x.2.2.1 0 1000000 && (inR x.2.2.2.1 0 (IntKind.i64.wrap (3 * x.2.2.1)) && !decide (creditAt l (x.1, x.2.1, ()) < i))))
def creditsOk (l : List YCredit) : Bool := !decide ((l.length : Int) > 8) && noneB (credBad l) l
theorem i_CreditsOk (l : List YCredit) (h : l.length ≤ 4294967296) : V_i_CreditsOk (l, ()) = some (creditsOk l, ()) := by
  have hl := loop_none (B := B_i_CreditsOk_4) l (fun i => (l, l, (l.length : Int), (i : Int), ())) (credBad l) (false, ()) ()
    (fun i x hi hx => by
      unfold B_i_CreditsOk_4
      simp only [val_br, val_ob, val_leaf, lt_dec hi, br_t, idx_at hx, ob_s, i_AddrOk, i_within]
      rw [i_creditAt _ _ h, w64 (n := (i : Int) + 1) (by omega)]
      simp only [ob_s, credBad]
      cases addrOk (x.1, x.2.1, ()) <;> cases inR x.2.2.1 0 1000000 <;> cases inR x.2.2.2.1 0 (IntKind.i64.wrap (3 * x.2.2.1)) <;> cases decide (creditAt l (x.1, x.2.1, ()) < (i : Int)) <;> rfl)
    (by unfold B_i_CreditsOk_4; simp only [val_br, val_leaf, ge_dec, br_f])
  unfold V_i_CreditsOk T_i_CreditsOk creditsOk
  simp only [val_br, val_ob, val_leaf, val_sm]
  rw [show ((0 : Int)) = ((0 : Nat) : Int) from rfl, hl]
  simp only [ob_s]
  cases decide ((l.length : Int) > 8) <;> cases noneB (credBad l) l <;> rfl
theorem s_credIn (l : List YCredit) (h : l.length ≤ 4294967296) (i : Nat) (x : YCredit) (hx : l[i]? = some x) :
    iterO B_s_CreditsOk_9 (l, (i : Int), (0 : Int), ()) = some (bif noneB (fun _ y => eqA y.1 y.2.1 x.1 x.2.1) (l.take i) then .inr (l, (i : Int), ()) else .inl (false, ())) := by
  have hi := (List.getElem?_eq_some_iff.1 hx).1
  have hlen : (l.take i).length = i := by simp; omega
  have hl := loop_none (B := B_s_CreditsOk_9) (l.take i) (fun j => (l, (i : Int), (j : Int), ())) (fun _ y => eqA y.1 y.2.1 x.1 x.2.1) (false, ()) (l, (i : Int), ())
    (fun j y hj hy => by
      have hy2 : l[j]? = some y := by rw [List.getElem?_take] at hy; split at hy; exact hy; cases hy
      unfold B_s_CreditsOk_9
      simp (disch := omega) only [val_br, val_ob, val_leaf, lt_dec (show j < i by omega), br_t, idx_at hy2, idx_at hx, ob_s, w64]
      rfl)
    (by unfold B_s_CreditsOk_9; rw [hlen]; simp only [val_br, val_leaf, ge_dec, br_f])
  rw [show ((0 : Int)) = ((0 : Nat) : Int) from rfl, hl]
theorem s_CreditsOk (l : List YCredit) (h : l.length ≤ 4294967296) : V_s_CreditsOk (l, ()) = some (creditsOk l, ()) := by
  have hl := loop_none (B := B_s_CreditsOk_4) l (fun i => (l, (i : Int), ())) (credBad l) (false, ()) ()
    (fun i x hi hx => by
      have h3 := posI_lt (q := fun y : YCredit => eqA y.1 y.2.1 x.1 x.2.1) hx (eqA_refl _ _)
      unfold B_s_CreditsOk_4
      simp only [val_br, val_ob, val_leaf, val_sm, lt_dec hi, br_t, idx_at hx, ob_s, s_AddrOk, s_l1In]
      rw [s_credIn l h i x hx]
      unfold credBad creditAt
      simp only [ob_s]
      rw [h3]
      cases addrOk (x.1, x.2.1, ()) <;> cases inR x.2.2.1 0 1000000 <;> cases inR x.2.2.2.1 0 (IntKind.i64.wrap (3 * x.2.2.1)) <;> cases noneB (fun _ (y : YCredit) => eqA y.1 y.2.1 x.1 x.2.1) (l.take i) <;> first | rfl | (simp only [cond_true, sm_r, br, Bool.not_true]; rw [w64 (by omega)]; rfl))
    (by unfold B_s_CreditsOk_4; simp only [val_br, val_leaf, ge_dec, br_f])
  unfold V_s_CreditsOk T_s_CreditsOk creditsOk
  simp only [val_br, val_ob, val_leaf, val_sm]
  rw [show ((0 : Int)) = ((0 : Nat) : Int) from rfl, hl]
  simp only [ob_s]
  cases decide ((l.length : Int) > 8) <;> cases noneB (credBad l) l <;> rfl
end
end Go.Proofs.YtdlcjpjflckdlaaGreat

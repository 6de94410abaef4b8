/-
  That the program and the reference answer alike, in plain terms, and that the laws answer true.
-/
import Derived.Test.YtdlcjpjflckdlaaGreatL15
namespace Go.Proofs.YtdlcjpjflckdlaaGreat
open Go.RowKit
set_option linter.unusedVariables false
set_option linter.unusedSimpArgs false
set_option maxRecDepth 100000
set_option maxHeartbeats 4000000
noncomputable section
/-! ## Sealing in an epoch, in a channel -/
theorem sealed_ok (k : List YB) (r : Int) (sn : List YB) (ep seq kind : Int) (p : List YB) : (sealed k r sn ep seq kind p).2.1 = sealOk k r sn ep seq kind p := by
  unfold sealed
  cases sealOk k r sn ep seq kind p <;> rfl
theorem headLen0 (r : Int) (sn : List YB) (ep seq : Int) : (((headOf r sn ep seq).length : Int) == 0) = !headOk r sn ep seq := by
  rw [headOf_le]
  cases headOk r sn ep seq <;> rfl
def epUp (e : YEp) : YEp := (e.1, e.2.1, e.2.2.1 + 1, e.2.2.2.1, e.2.2.2.2.1, ())
theorem epUp_ok {e : YEp} (h : epOk e = true) (hs : e.2.2.1 ≠ 281474976710656) : epOk (epUp e) = true := by
  unfold epOk at h ⊢
  simp only [Bool.and_eq_true, inR_iff, epUp] at h ⊢
  exact ⟨h.1, h.2.1, ⟨by omega, by omega⟩, h.2.2.2⟩
def EpS (e : YEp) (role : Int) (sn : List YB) (k : Int) (p : List YB) (e' : YEp) (f : YFrame) (c : Int) : Prop :=
  need_Ep e' = need_Ep e ∧ need_Frame f ≤ sn.length + p.length + 32 ∧ (c ≠ 0 → e' = e) ∧ (c = 0 → epOk e = true ∧ epOk e' = true ∧ e'.1 = e.1 ∧ e'.2.1 = e.2.1 ∧ f = (sealed e.2.1 role sn e.1 e.2.2.1 k p).1 ∧ sealOk e.2.1 role sn e.1 e.2.2.1 k p = true)
theorem ok_EpSeal (e : YEp) (role : Int) (sn : List YB) (k : Int) (p : List YB) (h : need_Ep e + sn.length + p.length ≤ 67108864) :
    ∃ (e' : YEp) (f : YFrame) (c : Int), V_i_EpSeal e (role, ()) (sn, ()) (k, ()) (p, ()) = some (e', f, (c, ())) ∧ V_s_EpSeal e (role, ()) (sn, ()) (k, ()) (p, ()) = some (e', f, (c, ())) ∧ EpS e role sn k p e' f c := by
  have hn := need_sealed e.2.1 role sn e.1 e.2.2.1 k p
  have he : need_Ep e = e.2.1.length + e.2.2.2.2.1.length := rfl
  have none : ∀ {c : Int}, c ≠ 0 → ∃ (e' : YEp) (f : YFrame) (c' : Int), some (e, noFrame, (c, ())) = some (e', f, (c', ())) ∧ some (e, noFrame, (c, ())) = some (e', f, (c', ())) ∧ EpS e role sn k p e' f c' := fun {c} hc =>
    ⟨e, noFrame, c, rfl, rfl, rfl, by simp [need_Frame, noFrame], fun _ => rfl, fun h => (hc h).elim⟩
  unfold V_i_EpSeal T_i_EpSeal V_s_EpSeal T_s_EpSeal
  simp only [val_br, val_ob, val_leaf]
  rw [i_copyEp e (by omega), s_l9Copy e (by omega), i_EpOk e (by omega), s_EpOk e]
  simp only [ob_s]
  cases ho : epOk e with
  | false => exact none (c := 1) (by decide)
  | true =>
    have hk : ((e.2.1.length : Int) == 32) = true := by unfold epOk at ho; simp only [Bool.and_eq_true] at ho; exact ho.2.1
    have hseq : inR e.2.2.1 0 281474976710656 = true := by unfold epOk at ho; simp only [Bool.and_eq_true] at ho; exact ho.2.2.1
    rw [inR_iff] at hseq
    simp only [Bool.not_true, br_f]
    rw [i_Seal _ _ _ _ _ _ _ (by omega) (by omega), ob_s, s_HeadOf, ob_s, s_Sealed, ob_s, s_l7Body, ob_s]
    simp only [sealed_ok, headLen0]
    unfold sealOk
    rw [hk]
    simp only [Bool.true_and]
    cases hd : headOk role sn e.1 0 with
    | false => exact none (c := 1) (by decide)
    | true =>
      cases hkd : inR k 4 8 with
      | false => exact none (c := 1) (by decide)
      | true =>
        cases hb : bodyOk k (p.length : Int) with
        | false => exact none (c := 1) (by decide)
        | true =>
          simp only [Bool.and_self, Bool.not_true, br_f]
          have fin : e.2.2.1 ≠ 281474976710656 → ∃ (e' : YEp) (f : YFrame) (c' : Int), some (epUp e, (sealed e.2.1 role sn e.1 e.2.2.1 k p).1, ((0 : Int), ())) = some (e', f, (c', ())) ∧ some (epUp e, (sealed e.2.1 role sn e.1 e.2.2.1 k p).1, ((0 : Int), ())) = some (e', f, (c', ())) ∧ EpS e role sn k p e' f c' := fun hs =>
            ⟨epUp e, _, 0, rfl, rfl, rfl, hn, fun h => (h rfl).elim, fun _ => ⟨ho, epUp_ok ho hs, rfl, rfl, rfl, by
              unfold sealOk
              rw [hk, hkd, hb]
              unfold headOk at hd ⊢
              simp only [Bool.and_eq_true, inR_iff, Bool.and_true] at hd ⊢
              exact ⟨trivial, hd.1, hd.2.1, hd.2.2.1, by omega, by omega⟩⟩⟩
          rw [i_Seal _ _ _ _ _ _ _ (by omega) (by omega), s_Seal _ _ _ _ _ _ _ (by omega) (by omega)]
          simp only [ob_s]
          have go : br (e.2.2.1 == (281474976710656 : Int)) (some (e, noFrame, ((5 : Int), ()))) (some ((e.1, e.2.1, (IntKind.i64.wrap (e.2.2.1 + (1 : Int))), e.2.2.2.1, e.2.2.2.2.1, ()), (sealed e.2.1 role sn e.1 e.2.2.1 k p).1, ((0 : Int), ()))) = if e.2.2.1 = 281474976710656 then some (e, noFrame, ((5 : Int), ())) else some (epUp e, (sealed e.2.1 role sn e.1 e.2.2.1 k p).1, ((0 : Int), ())) := by
            by_cases h5 : e.2.2.1 = 281474976710656
            · rw [if_pos h5, br_tt (by simp [h5])]
            · rw [if_neg h5, br_ff (by simp [h5]), w64 (by omega)]; rfl
          have fin2 : ∃ (e' : YEp) (f : YFrame) (c' : Int), (if e.2.2.1 = 281474976710656 then some (e, noFrame, ((5 : Int), ())) else some (epUp e, (sealed e.2.1 role sn e.1 e.2.2.1 k p).1, ((0 : Int), ()))) = some (e', f, (c', ())) ∧ (if e.2.2.1 = 281474976710656 then some (e, noFrame, ((5 : Int), ())) else some (epUp e, (sealed e.2.1 role sn e.1 e.2.2.1 k p).1, ((0 : Int), ()))) = some (e', f, (c', ())) ∧ EpS e role sn k p e' f c' := by
            by_cases h5 : e.2.2.1 = 281474976710656
            · rw [if_pos h5]; exact none (c := 5) (by decide)
            · rw [if_neg h5]; exact fin h5
          cases hk4 : (k == (4 : Int)) with
          | false =>
            simp only [br_f]
            exact go ▸ fin2
          | true =>
            simp only [br_t]
            by_cases h4 : e.2.2.1 ≥ 281474976709656
            · rw [dec_t h4, br_t]; exact none (c := 4) (by decide)
            · rw [dec_f h4, br_f]
              exact go ▸ fin2
def withCur (c : YChan) (e : YEp) : YChan := (c.1, c.2.1, e.1, e.2.1, e.2.2.1, e.2.2.2.1, e.2.2.2.2.1, c.2.2.2.2.2.2.2.1, c.2.2.2.2.2.2.2.2.1, c.2.2.2.2.2.2.2.2.2.1, c.2.2.2.2.2.2.2.2.2.2.1, c.2.2.2.2.2.2.2.2.2.2.2.1, c.2.2.2.2.2.2.2.2.2.2.2.2.1, c.2.2.2.2.2.2.2.2.2.2.2.2.2.1, c.2.2.2.2.2.2.2.2.2.2.2.2.2.2.1, ())
theorem withCur_ok {c : YChan} {e : YEp} (h : chanOk c = true) (he : epOk e = true) (h1 : e.1 = c.2.2.1) : chanOk (withCur c e) = true := by
  have e1 : curOf (withCur c e) = e := rfl
  have e2 : oldOk (withCur c e) = oldOk c := by
    unfold oldOk
    have : (withCur c e).2.2.1 = c.2.2.1 := h1
    simp only [this]
    rfl
  unfold chanOk at h ⊢
  rw [e1, e2]
  simp only [Bool.not_not, Bool.and_eq_true] at h ⊢
  refine ⟨h.1, h.2.1, he, h.2.2.2.1, ?_⟩
  have := h.2.2.2.2
  simp only [withCur, nextOf, h1] at this ⊢
  exact this
theorem withCur_need (c : YChan) (e : YEp) (h : need_Ep e = need_Ep (curOf c)) : need_Chan (withCur c e) = need_Chan c := by
  simp only [need_Ep, curOf] at h
  simp only [need_Chan, withCur]
  omega
def ChS (c : YChan) (k : Int) (p : List YB) (c' : YChan) (f : YFrame) (z : Int) : Prop :=
  ∃ e' : YEp, c' = withCur c e' ∧ need_Chan c' = need_Chan c ∧ need_Frame f ≤ need_Chan c + p.length + 32 ∧ (z ≠ 0 → c' = c) ∧
    (z = 0 → chanOk c = true ∧ chanOk c' = true ∧ e'.1 = c.2.2.1 ∧ e'.2.1 = c.2.2.2.1 ∧ f = (sealed c.2.2.2.1 c.1 c.2.1 c.2.2.1 c.2.2.2.2.1 k p).1 ∧ sealOk c.2.2.2.1 c.1 c.2.1 c.2.2.1 c.2.2.2.2.1 k p = true)
theorem ok_ChanSeal (c : YChan) (k : Int) (p : List YB) (h : need_Chan c + p.length ≤ 67108864) :
    ∃ (c' : YChan) (f : YFrame) (z : Int), V_i_ChanSeal c (k, ()) (p, ()) = some (c', f, (z, ())) ∧ V_s_ChanSeal c (k, ()) (p, ()) = some (c', f, (z, ())) ∧ ChS c k p c' f z := by
  have hc := h
  simp only [need_Chan] at hc
  unfold V_i_ChanSeal T_i_ChanSeal V_s_ChanSeal T_s_ChanSeal
  simp only [val_br, val_ob, val_leaf]
  rw [i_copyChan c (by omega), s_l14Copy c (by omega), i_ChanOk c (by dsimp only [curOf]; omega) (by dsimp only [oldOf]; omega), s_ChanOk c]
  simp only [ob_s]
  cases ho : chanOk c with
  | false => exact ⟨c, noFrame, 1, rfl, rfl, curOf c, rfl, rfl, by simp [need_Frame, noFrame], fun _ => rfl, fun h => by cases h⟩
  | true =>
    simp only [Bool.not_true, br_f]
    obtain ⟨e', f, z, h1, h2, h3, h4, h5, h6⟩ := ok_EpSeal (curOf c) c.1 c.2.1 k p (by simp only [need_Ep, curOf]; omega)
    have hn := withCur_need c e' h3
    rw [h1, h2, ob_s, ob_s]
    have hf : need_Frame f ≤ need_Chan c + p.length + 32 := by simp only [need_Chan]; omega
    by_cases hz : z = 0
    · subst hz
      obtain ⟨q1, q2, q3, q4, q5, q6⟩ := h6 rfl
      exact ⟨withCur c e', f, 0, rfl, rfl, e', rfl, hn, hf, fun h => (h rfl).elim, fun _ => ⟨ho, withCur_ok ho q2 q3, q3, q4, q5, q6⟩⟩
    · have he := h5 hz
      subst he
      refine ⟨c, f, z, rfl, ?_, curOf c, rfl, rfl, hf, fun _ => rfl, fun h => (hz h).elim⟩
      rw [br_ff (by simpa using hz)]
end
end Go.Proofs.YtdlcjpjflckdlaaGreat

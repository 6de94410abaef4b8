/-
  That the program and the reference answer alike, in plain terms, and that the laws answer true.
-/
import Derived.Test.YtdlcjpjflckdlaaGreatL2
namespace Go.Proofs.YtdlcjpjflckdlaaGreat
open Go.RowKit
set_option linter.unusedVariables false
set_option linter.unusedSimpArgs false
set_option maxHeartbeats 4000000
noncomputable section
/-! ## Paths -/
def eqA (a b c d : Int) : Bool := and (a == c) (and (b == d) true)
def candBad (at1 at2 : Int) (l : List YCand) (i : Nat) (x : YCand) : Bool :=
  !(addrOk (x.1, x.2.1, ()) && (!eqA x.1 x.2.1 at1 at2 && (((x.2.2.1.length : Int) == 12) && (inR x.2.2.2.1 0 1000006 && noneB (fun _ y => eqA y.1 y.2.1 x.1 x.2.1) (l.take i)))))
def pathsOk (p : YPaths) : Bool := addrOk (p.1, p.2.1, ()) && (!decide ((p.2.2.1.length : Int) > 3) && noneB (candBad p.1 p.2.1 p.2.2.1) p.2.2.1)
theorem i_pathsIn (l0 : List YCand) (n : Int) (i : Nat) (m : List YCand) (hm : m.length ≤ 4294967296) (a b : Int) (l : List YCand) (x : YCand) :
    iterO B_i_PathsOk_9 (l0, n, (i : Int), m, (m.length : Int), (0 : Int), a, b, l, x.1, x.2.1, x.2.2.1, x.2.2.2.1, ()) = some (bif noneB (fun _ y => eqA y.1 y.2.1 x.1 x.2.1) m then .inr (l0, n, (i : Int), a, b, l, ()) else .inl (false, ())) := by
  have h := loop_none (B := B_i_PathsOk_9) m (fun j => (l0, n, (i : Int), m, (m.length : Int), (j : Int), a, b, l, x.1, x.2.1, x.2.2.1, x.2.2.2.1, ())) (fun _ y => eqA y.1 y.2.1 x.1 x.2.1) (false, ()) (l0, n, (i : Int), a, b, l, ())
    (fun j y hj hy => by
      unfold B_i_PathsOk_9
      simp (disch := omega) only [val_br, val_ob, val_leaf, lt_dec hj, br_t, idx_at hy, ob_s, w64]
      rfl)
    (by unfold B_i_PathsOk_9; simp only [val_br, val_leaf, ge_dec, br_f])
  rw [show ((0 : Int)) = ((0 : Nat) : Int) from rfl, h]
theorem s_pathsIn (i : Nat) (a b : Int) (l : List YCand) (hi : i ≤ l.length) (hl : l.length ≤ 4294967296) (x : YCand) :
    iterO B_s_PathsOk_10 ((i : Int), (0 : Int), a, b, l, x.1, x.2.1, x.2.2.1, x.2.2.2.1, ()) = some (bif noneB (fun _ y => eqA y.1 y.2.1 x.1 x.2.1) (l.take i) then .inr ((i : Int), a, b, l, ()) else .inl (false, ())) := by
  have hlen : (l.take i).length = i := by simp; omega
  have h := loop_none (B := B_s_PathsOk_10) (l.take i) (fun j => ((i : Int), (j : Int), a, b, l, x.1, x.2.1, x.2.2.1, x.2.2.2.1, ())) (fun _ y => eqA y.1 y.2.1 x.1 x.2.1) (false, ()) ((i : Int), a, b, l, ())
    (fun j y hj hy => by
      have hy2 : l[j]? = some y := by rw [List.getElem?_take] at hy; split at hy; exact hy; cases hy
      unfold B_s_PathsOk_10
      simp (disch := omega) only [val_br, val_ob, val_leaf, lt_dec (show j < i by omega), br_t, idx_at hy2, ob_s, w64]
      rfl)
    (by unfold B_s_PathsOk_10; rw [hlen]; simp only [val_br, val_leaf, ge_dec, br_f])
  rw [show ((0 : Int)) = ((0 : Nat) : Int) from rfl, h]
theorem i_PathsOk (p : YPaths) (hl : p.2.2.1.length ≤ 4294967296) : V_i_PathsOk p = some (pathsOk p, ()) := by
  obtain ⟨a, b, l, _⟩ := p
  simp only at hl
  have h := loop_none (B := B_i_PathsOk_4) l (fun i => (l, (l.length : Int), (i : Int), a, b, l, ())) (candBad a b l) (false, ()) ()
    (fun i x hi hx => by
      have hlen : (l.take i).length ≤ 4294967296 := by simp; omega
      unfold B_i_PathsOk_4
      simp only [val_br, val_ob, val_leaf, val_chk, val_sm, lt_dec hi, br_t, idx_at hx, ob_s, i_AddrOk, i_isNonce, i_within, Int.toNat_natCast, Int.toNat_zero, List.drop_zero]
      rw [i_pathsIn l _ i _ hlen]
      unfold candBad
      rw [dec_t (by omega), dec_t (by omega)]
      simp only [chk_t, eqA, ob_s]
      cases addrOk (x.1, x.2.1, ()) <;> cases (and (x.1 == a) (and (x.2.1 == b) true)) <;> cases ((x.2.2.1.length : Int) == 12) <;> cases inR x.2.2.2.1 0 1000006 <;> cases noneB (fun _ (y : YCand) => and (y.1 == x.1) (and (y.2.1 == x.2.1) true)) (l.take i) <;> first | rfl | (simp only [cond_true, sm_r, br, Bool.not_true]; rw [w64 (by omega)]; rfl))
    (by unfold B_i_PathsOk_4; simp only [val_br, val_leaf, ge_dec, br_f])
  unfold V_i_PathsOk T_i_PathsOk pathsOk
  simp only [val_br, val_ob, val_leaf, val_sm, i_AddrOk, ob_s]
  rw [show ((0 : Int)) = ((0 : Nat) : Int) from rfl, h]
  cases addrOk (a, b, ()) <;> cases decide ((l.length : Int) > 3) <;> cases noneB (candBad a b l) l <;> rfl
theorem s_PathsOk (p : YPaths) (hl : p.2.2.1.length ≤ 4294967296) : V_s_PathsOk p = some (pathsOk p, ()) := by
  obtain ⟨a, b, l, _⟩ := p
  simp only at hl
  have h := loop_none (B := B_s_PathsOk_4) l (fun i => ((i : Int), a, b, l, ())) (candBad a b l) (false, ()) ()
    (fun i x hi hx => by
      unfold B_s_PathsOk_4
      simp only [val_br, val_ob, val_leaf, val_chk, val_sm, lt_dec hi, br_t, idx_at hx, ob_s, s_AddrOk, s_l1In]
      rw [s_pathsIn i a b l (by omega) hl]
      unfold candBad
      simp only [ob_s, eqA, bne]
      cases addrOk (x.1, x.2.1, ()) <;> cases (and (x.1 == a) (and (x.2.1 == b) true)) <;> cases ((x.2.2.1.length : Int) == 12) <;> cases inR x.2.2.2.1 0 1000006 <;> cases noneB (fun _ (y : YCand) => and (y.1 == x.1) (and (y.2.1 == x.2.1) true)) (l.take i) <;> first | rfl | (simp only [cond_true, sm_r, br, Bool.not_true]; rw [w64 (by omega)]; rfl))
    (by unfold B_s_PathsOk_4; simp only [val_br, val_leaf, ge_dec, br_f])
  unfold V_s_PathsOk T_s_PathsOk pathsOk
  simp only [val_br, val_ob, val_leaf, val_sm, s_AddrOk, ob_s]
  rw [show ((0 : Int)) = ((0 : Nat) : Int) from rfl, h]
  cases addrOk (a, b, ()) <;> cases decide ((l.length : Int) > 3) <;> cases noneB (candBad a b l) l <;> rfl
abbrev chanOf (s : YSess) : YChan := (s.2.2.2.1, s.2.2.2.2.1, s.2.2.2.2.2.1, s.2.2.2.2.2.2.1, s.2.2.2.2.2.2.2.1, s.2.2.2.2.2.2.2.2.1, s.2.2.2.2.2.2.2.2.2.1, s.2.2.2.2.2.2.2.2.2.2.1, s.2.2.2.2.2.2.2.2.2.2.2.1, s.2.2.2.2.2.2.2.2.2.2.2.2.1, s.2.2.2.2.2.2.2.2.2.2.2.2.2.1, s.2.2.2.2.2.2.2.2.2.2.2.2.2.2.1, s.2.2.2.2.2.2.2.2.2.2.2.2.2.2.2.1, s.2.2.2.2.2.2.2.2.2.2.2.2.2.2.2.2.1, s.2.2.2.2.2.2.2.2.2.2.2.2.2.2.2.2.2.1, ())
abbrev pathsOf (s : YSess) : YPaths := (s.2.2.2.2.2.2.2.2.2.2.2.2.2.2.2.2.2.2.1, s.2.2.2.2.2.2.2.2.2.2.2.2.2.2.2.2.2.2.2.1, s.2.2.2.2.2.2.2.2.2.2.2.2.2.2.2.2.2.2.2.2.1, ())
abbrev tickOf (s : YSess) : Int := s.2.2.2.2.2.2.2.2.2.2.2.2.2.2.2.2.2.2.2.2.2.1
abbrev lastOf (s : YSess) : Int := s.2.2.2.2.2.2.2.2.2.2.2.2.2.2.2.2.2.2.2.2.2.2.1
abbrev deadOf (s : YSess) : Bool := s.2.2.2.2.2.2.2.2.2.2.2.2.2.2.2.2.2.2.2.2.2.2.2.1
def sessOk (s : YSess) : Bool :=
  inR s.1 1 9 && (((s.2.1.length : Int) == 12) && (((s.2.2.1.length : Int) == 12) && (inR (tickOf s) 0 1000000 &&
    (bif deadOf s then chan0 (chanOf s) && (eqA (pathsOf s).1 (pathsOf s).2.1 0 0 && ((((pathsOf s).2.2.1.length : Int) == 0) && (lastOf s == 0)))
    else chanOk (chanOf s) && ((s.2.2.2.1 == 1) && (sameB s.2.2.2.2.1 s.2.2.1 && (pathsOk (pathsOf s) && inR (lastOf s) 0 1000000)))))))
theorem i_SessOk (s : YSess) (h : need_Sess s ≤ 4294967296) : V_i_SessOk s = some (sessOk s, ()) := by
  have hn : need_Sess s = _ := rfl
  unfold V_i_SessOk T_i_SessOk sessOk
  simp only [need_Sess] at h
  rw [i_ChanOk _ (by dsimp only; omega) (by dsimp only; omega), i_PathsOk _ (by dsimp only; omega)]
  simp only [val_br, val_ob, val_leaf, i_within, i_isNonce, i_isZeroChan, bytes_Equal, ob_s, br_cc, Bool.cond_false_right, Bool.cond_true_left, Bool.cond_false_left, eqA, Bool.not_not]
theorem s_Near1 : V_s_Near ((-1 : Int), ()) = some ((0 : Int), (0 : Int), ()) := by
  unfold V_s_Near T_s_Near
  simp only [val_br, val_ob, val_leaf, s_l1In, ob_s]
  rfl
theorem s_SessOk (s : YSess) (h : need_Sess s ≤ 4294967296) : V_s_SessOk s = some (sessOk s, ()) := by
  unfold V_s_SessOk T_s_SessOk sessOk
  simp only [need_Sess] at h
  rw [s_PathsOk _ (by dsimp only; omega)]
  simp only [val_br, val_ob, val_leaf, s_l1In, s_l19NoChan, s_l1Same, s_ChanOk, s_Near1, ob_s, br_cc, Bool.cond_false_right, Bool.cond_true_left, Bool.cond_false_left, eqA, Bool.not_not]
  refine congrArg (fun b => some (b, ())) ?_
  cases hd : deadOf s with
  | true =>
    cases hl : lastOf s == 0 with
    | false => simp [hd, hl, bne]
    | true =>
      have e : inR (lastOf s) 0 1000000 = true := by simp at hl; simp [inR, hl]
      simp [hd, hl, bne, e]
  | false =>
    cases hl : inR (lastOf s) 0 1000000 with
    | false => simp [hd, hl, bne]
    | true => simp [hd, hl, bne]
end
end Go.Proofs.YtdlcjpjflckdlaaGreat

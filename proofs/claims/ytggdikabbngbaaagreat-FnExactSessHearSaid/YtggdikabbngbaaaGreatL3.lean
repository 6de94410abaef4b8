/-
  That the program and the reference answer alike, in plain terms, and that the laws answer true.
-/
import Derived.Test.YtggdikabbngbaaaGreatL2
namespace Go.Proofs.YtggdikabbngbaaaGreat
open Go.RowKit
set_option linter.unusedVariables false
set_option linter.unusedSimpArgs false
set_option maxHeartbeats 4000000
noncomputable section
def eqA (a b c d : Int) : Bool := and (a == c) (and (b == d) true)
def Pr (at1 at2 : Int) (l : List Aj) (i : Nat) (x : Aj) : Bool :=
 !(Jh (x.1, x.2.1, ()) && (!eqA x.1 x.2.1 at1 at2 && (((x.2.2.1.length : Int) == 12) && (inR x.2.2.2.1 0 1000006 && G8 (fun _ y => eqA y.1 y.2.1 x.1 x.2.1) (l.take i)))))
def Fs (p : A6) : Bool := Jh (p.1, p.2.1, ()) && (!decide ((p.2.2.1.length : Int) > 3) && G8 (Pr p.1 p.2.1 p.2.2.1) p.2.2.1)
theorem Bjt (l0 : List Aj) (n : Int) (i : Nat) (m : List Aj) (hm : m.length ≤ 4294967296) (a b : Int) (l : List Aj) (x : Aj) :
  Ay Gt (l0, n, (i : Int), m, (m.length : Int), (0 : Int), a, b, l, x.1, x.2.1, x.2.2.1, x.2.2.2.1, ()) = some (bif G8 (fun _ y => eqA y.1 y.2.1 x.1 x.2.1) m then .inr (l0, n, (i : Int), a, b, l, ()) else .inl (false, ())) := by
 have h := K7 (B := Gt) m (fun j => (l0, n, (i : Int), m, (m.length : Int), (j : Int), a, b, l, x.1, x.2.1, x.2.2.1, x.2.2.2.1, ())) (fun _ y => eqA y.1 y.2.1 x.1 x.2.1) (false, ()) (l0, n, (i : Int), a, b, l, ())
  (fun j y hj hy => by
   unfold Gt
   simp (disch := omega) only [Ae, Ag, Ab, Ci hj, A3, Bq hy, Ah, w64]
   rfl)
  (by unfold Gt; simp only [Ae, Ab, C0, An])
 rw [show ((0 : Int)) = ((0 : Nat) : Int) from rfl, h]
theorem Bju (i : Nat) (a b : Int) (l : List Aj) (hi : i ≤ l.length) (hl : l.length ≤ 4294967296) (x : Aj) :
  Ay Fm ((i : Int), (0 : Int), a, b, l, x.1, x.2.1, x.2.2.1, x.2.2.2.1, ()) = some (bif G8 (fun _ y => eqA y.1 y.2.1 x.1 x.2.1) (l.take i) then .inr ((i : Int), a, b, l, ()) else .inl (false, ())) := by
 have hlen : (l.take i).length = i := by simp; omega
 have h := K7 (B := Fm) (l.take i) (fun j => ((i : Int), (j : Int), a, b, l, x.1, x.2.1, x.2.2.1, x.2.2.2.1, ())) (fun _ y => eqA y.1 y.2.1 x.1 x.2.1) (false, ()) ((i : Int), a, b, l, ())
  (fun j y hj hy => by
   have hy2 : l[j]? = some y := by rw [List.getElem?_take] at hy; split at hy; exact hy; cases hy
   unfold Fm
   simp (disch := omega) only [Ae, Ag, Ab, Ci (show j < i by omega), A3, Bq hy2, Ah, w64]
   rfl)
  (by unfold Fm; rw [hlen]; simp only [Ae, Ab, C0, An])
 rw [show ((0 : Int)) = ((0 : Nat) : Int) from rfl, h]
theorem Arg (p : A6) (hl : p.2.2.1.length ≤ 4294967296) : P8 p = some (Fs p, ()) := by
 obtain ⟨a, b, l, _⟩ := p
 simp only at hl
 have h := K7 (B := Iq) l (fun i => (l, (l.length : Int), (i : Int), a, b, l, ())) (Pr a b l) (false, ()) ()
  (fun i x hi hx => by
   have hlen : (l.take i).length ≤ 4294967296 := by simp; omega
   unfold Iq
   simp only [Ae, Ag, Ab, Ai, A7, Ci hi, A3, Bq hx, Ah, Alm, Rk, C9, Int.toNat_natCast, Int.toNat_zero, List.drop_zero]
   rw [Bjt l _ i _ hlen]
   unfold Pr
   rw [Ao (by omega), Ao (by omega)]
   simp only [A8, eqA, Ah]
   cases Jh (x.1, x.2.1, ()) <;> cases (and (x.1 == a) (and (x.2.1 == b) true)) <;> cases ((x.2.2.1.length : Int) == 12) <;> cases inR x.2.2.2.1 0 1000006 <;> cases G8 (fun _ (y : Aj) => and (y.1 == x.1) (and (y.2.1 == x.2.1) true)) (l.take i) <;> first | rfl | (simp only [cond_true, A4j, br, Bool.not_true]; rw [w64 (by omega)]; rfl))
  (by unfold Iq; simp only [Ae, Ab, C0, An])
 unfold P8 P7 Fs
 simp only [Ae, Ag, Ab, A7, Alm, Ah]
 rw [show ((0 : Int)) = ((0 : Nat) : Int) from rfl, h]
 cases Jh (a, b, ()) <;> cases decide ((l.length : Int) > 3) <;> cases G8 (Pr a b l) l <;> rfl
theorem Ac9 (p : A6) (hl : p.2.2.1.length ≤ 4294967296) : Ma p = some (Fs p, ()) := by
 obtain ⟨a, b, l, _⟩ := p
 simp only at hl
 have h := K7 (B := Il) l (fun i => ((i : Int), a, b, l, ())) (Pr a b l) (false, ()) ()
  (fun i x hi hx => by
   unfold Il
   simp only [Ae, Ag, Ab, Ai, A7, Ci hi, A3, Bq hx, Ah, Aln, Dm]
   rw [Bju i a b l (by omega) hl]
   unfold Pr
   simp only [Ah, eqA, bne]
   cases Jh (x.1, x.2.1, ()) <;> cases (and (x.1 == a) (and (x.2.1 == b) true)) <;> cases ((x.2.2.1.length : Int) == 12) <;> cases inR x.2.2.2.1 0 1000006 <;> cases G8 (fun _ (y : Aj) => and (y.1 == x.1) (and (y.2.1 == x.2.1) true)) (l.take i) <;> first | rfl | (simp only [cond_true, A4j, br, Bool.not_true]; rw [w64 (by omega)]; rfl))
  (by unfold Il; simp only [Ae, Ab, C0, An])
 unfold Ma P5 Fs
 simp only [Ae, Ag, Ab, A7, Aln, Ah]
 rw [show ((0 : Int)) = ((0 : Nat) : Int) from rfl, h]
 cases Jh (a, b, ()) <;> cases decide ((l.length : Int) > 3) <;> cases G8 (Pr a b l) l <;> rfl
abbrev Ku (s : Bi) : Ak := (s.2.2.2.1, s.2.2.2.2.1, s.2.2.2.2.2.1, s.2.2.2.2.2.2.1, s.2.2.2.2.2.2.2.1, s.2.2.2.2.2.2.2.2.1, s.2.2.2.2.2.2.2.2.2.1, s.2.2.2.2.2.2.2.2.2.2.1, s.2.2.2.2.2.2.2.2.2.2.2.1, s.2.2.2.2.2.2.2.2.2.2.2.2.1, s.2.2.2.2.2.2.2.2.2.2.2.2.2.1, s.2.2.2.2.2.2.2.2.2.2.2.2.2.2.1, s.2.2.2.2.2.2.2.2.2.2.2.2.2.2.2.1, s.2.2.2.2.2.2.2.2.2.2.2.2.2.2.2.2.1, s.2.2.2.2.2.2.2.2.2.2.2.2.2.2.2.2.2.1, ())
abbrev C7 (s : Bi) : A6 := (s.2.2.2.2.2.2.2.2.2.2.2.2.2.2.2.2.2.2.1, s.2.2.2.2.2.2.2.2.2.2.2.2.2.2.2.2.2.2.2.1, s.2.2.2.2.2.2.2.2.2.2.2.2.2.2.2.2.2.2.2.2.1, ())
abbrev Bo0 (s : Bi) : Int := s.2.2.2.2.2.2.2.2.2.2.2.2.2.2.2.2.2.2.2.2.2.1
abbrev Arh (s : Bi) : Int := s.2.2.2.2.2.2.2.2.2.2.2.2.2.2.2.2.2.2.2.2.2.2.1
abbrev Bjv (s : Bi) : Bool := s.2.2.2.2.2.2.2.2.2.2.2.2.2.2.2.2.2.2.2.2.2.2.2.1
def Ari (s : Bi) : Bool :=
 inR s.1 1 9 && (((s.2.1.length : Int) == 12) && (((s.2.2.1.length : Int) == 12) && (inR (Bo0 s) 0 1000000 &&
  (bif Bjv s then A1p (Ku s) && (eqA (C7 s).1 (C7 s).2.1 0 0 && ((((C7 s).2.2.1.length : Int) == 0) && (Arh s == 0)))
  else Cj (Ku s) && ((s.2.2.2.1 == 1) && (Ew s.2.2.2.2.1 s.2.2.1 && (Fs (C7 s) && inR (Arh s) 0 1000000)))))))
theorem Bl1 (s : Bi) (h : Bh s ≤ 4294967296) : Aje s = some (Ari s, ()) := by
 have hn : Bh s = _ := rfl
 unfold Aje Ajd Ari
 simp only [Bh] at h
 rw [Q9 _ (by dsimp only; omega) (by dsimp only; omega), Arg _ (by dsimp only; omega)]
 simp only [Ae, Ag, Ab, C9, Rk, Baw, Qo, Ah, Zb, Bool.cond_false_right, Bool.cond_true_left, Bool.cond_false_left, eqA, Bool.not_not]
theorem Bnv : Avi ((-1 : Int), ()) = some ((0 : Int), (0 : Int), ()) := by
 unfold Avi Avh
 simp only [Ae, Ag, Ab, Dm, Ah]
 rfl
theorem Bl2 (s : Bi) (h : Bh s ≤ 4294967296) : Aip s = some (Ari s, ()) := by
 unfold Aip Aio Ari
 simp only [Bh] at h
 rw [Ac9 _ (by dsimp only; omega)]
 simp only [Ae, Ag, Ab, Dm, Beo, Abq, N6, Bnv, Ah, Zb, Bool.cond_false_right, Bool.cond_true_left, Bool.cond_false_left, eqA, Bool.not_not]
 refine congrArg (fun b => some (b, ())) ?_
 cases hd : Bjv s with
 | true =>
  cases hl : Arh s == 0 with
  | false => simp [hd, hl, bne]
  | true =>
   have e : inR (Arh s) 0 1000000 = true := by simp at hl; simp [inR, hl]
   simp [hd, hl, bne, e]
 | false =>
  cases hl : inR (Arh s) 0 1000000 with
  | false => simp [hd, hl, bne]
  | true => simp [hd, hl, bne]
end
end Go.Proofs.YtggdikabbngbaaaGreat

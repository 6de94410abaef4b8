/-
  That the program and the reference answer alike, in plain terms, and that the laws answer true.
-/
import Derived.Test.YtggdikabbngbaaaGreatL13
namespace Go.Proofs.YtggdikabbngbaaaGreat
open Go.RowKit
set_option linter.unusedVariables false
set_option linter.unusedSimpArgs false
set_option maxRecDepth 100000
set_option maxHeartbeats 4000000
noncomputable section
def Ht (t : B9) : Bool := and (t.1 == false) (and (t.2.1 == (0 : Int)) (and (t.2.2.1 == (0 : Int)) (and (t.2.2.2.1 == (0 : Int)) true)))
def Fo (t : B9) : Bool := bif !t.1 then Ht t else inR t.2.1 0 1000008 && (inR t.2.2.2.1 1 5 && ((t.2.2.1 == 1) || ((t.2.2.1 == 2) || ((t.2.2.1 == 4) || (t.2.2.1 == 8)))))
theorem Bi1 (t : B9) : Oe t = some (Fo t, ()) := by
 unfold Oe Afx Fo Ht
 simp only [Ah, Ak, Ae, Cq, Al, Pd, Option.some.injEq, Prod.mk.injEq, and_true]
 cases t.1 <;> cases (t.2.2.1 == (1 : Int)) <;> cases (t.2.2.1 == (2 : Int)) <;> cases (t.2.2.1 == (4 : Int)) <;> cases (t.2.2.1 == (8 : Int)) <;> cases inR t.2.1 0 1000008 <;> cases inR t.2.2.2.1 1 5 <;> rfl
theorem Bi2 (t : B9) : Tq t = some (Fo t, ()) := by
 unfold Tq Afj Fo Ht
 simp only [Ah, Ak, Ae, C6, Al, Pd, Option.some.injEq, Prod.mk.injEq, and_true]
 cases t.1 <;> cases (t.2.2.1 == (1 : Int)) <;> cases (t.2.2.1 == (2 : Int)) <;> cases (t.2.2.1 == (4 : Int)) <;> cases (t.2.2.1 == (8 : Int)) <;> cases inR t.2.1 0 1000008 <;> cases inR t.2.2.2.1 1 5 <;> rfl
theorem Aew (t : B9) : Ht t = (!t.1 && Fo t) := by
 unfold Fo Ht
 cases t.1 <;> simp
abbrev Fx (c : Ab) : Aa := (c.2.2.2.2.2.2.1, c.2.2.2.2.2.2.2.1, c.2.2.2.2.2.2.2.2.1, c.2.2.2.2.2.2.2.2.2.1, c.2.2.2.2.2.2.2.2.2.2.1, c.2.2.2.2.2.2.2.2.2.2.2.1, c.2.2.2.2.2.2.2.2.2.2.2.2.1, c.2.2.2.2.2.2.2.2.2.2.2.2.2.1, c.2.2.2.2.2.2.2.2.2.2.2.2.2.2.1, c.2.2.2.2.2.2.2.2.2.2.2.2.2.2.2.1, c.2.2.2.2.2.2.2.2.2.2.2.2.2.2.2.2.1, ())
abbrev Ec (c : Ab) : Ag := (c.2.2.2.2.2.2.2.2.2.2.2.2.2.2.2.2.2.1, c.2.2.2.2.2.2.2.2.2.2.2.2.2.2.2.2.2.2.1, c.2.2.2.2.2.2.2.2.2.2.2.2.2.2.2.2.2.2.2.1, c.2.2.2.2.2.2.2.2.2.2.2.2.2.2.2.2.2.2.2.2.1, c.2.2.2.2.2.2.2.2.2.2.2.2.2.2.2.2.2.2.2.2.2.1, c.2.2.2.2.2.2.2.2.2.2.2.2.2.2.2.2.2.2.2.2.2.2.1, c.2.2.2.2.2.2.2.2.2.2.2.2.2.2.2.2.2.2.2.2.2.2.2.1, c.2.2.2.2.2.2.2.2.2.2.2.2.2.2.2.2.2.2.2.2.2.2.2.2.1, c.2.2.2.2.2.2.2.2.2.2.2.2.2.2.2.2.2.2.2.2.2.2.2.2.2.1, c.2.2.2.2.2.2.2.2.2.2.2.2.2.2.2.2.2.2.2.2.2.2.2.2.2.2.1, c.2.2.2.2.2.2.2.2.2.2.2.2.2.2.2.2.2.2.2.2.2.2.2.2.2.2.2.1, c.2.2.2.2.2.2.2.2.2.2.2.2.2.2.2.2.2.2.2.2.2.2.2.2.2.2.2.2.1, c.2.2.2.2.2.2.2.2.2.2.2.2.2.2.2.2.2.2.2.2.2.2.2.2.2.2.2.2.2.1, c.2.2.2.2.2.2.2.2.2.2.2.2.2.2.2.2.2.2.2.2.2.2.2.2.2.2.2.2.2.2.1, c.2.2.2.2.2.2.2.2.2.2.2.2.2.2.2.2.2.2.2.2.2.2.2.2.2.2.2.2.2.2.2.1, ())
abbrev clT (c : Ab) : B9 := (c.2.2.2.2.2.2.2.2.2.2.2.2.2.2.2.2.2.2.2.2.2.2.2.2.2.2.2.2.2.2.2.2.1, c.2.2.2.2.2.2.2.2.2.2.2.2.2.2.2.2.2.2.2.2.2.2.2.2.2.2.2.2.2.2.2.2.2.1, c.2.2.2.2.2.2.2.2.2.2.2.2.2.2.2.2.2.2.2.2.2.2.2.2.2.2.2.2.2.2.2.2.2.2.1, c.2.2.2.2.2.2.2.2.2.2.2.2.2.2.2.2.2.2.2.2.2.2.2.2.2.2.2.2.2.2.2.2.2.2.2.1, ())
abbrev clR (c : Ab) : B9 := (c.2.2.2.2.2.2.2.2.2.2.2.2.2.2.2.2.2.2.2.2.2.2.2.2.2.2.2.2.2.2.2.2.2.2.2.2.1, c.2.2.2.2.2.2.2.2.2.2.2.2.2.2.2.2.2.2.2.2.2.2.2.2.2.2.2.2.2.2.2.2.2.2.2.2.2.1, c.2.2.2.2.2.2.2.2.2.2.2.2.2.2.2.2.2.2.2.2.2.2.2.2.2.2.2.2.2.2.2.2.2.2.2.2.2.2.1, c.2.2.2.2.2.2.2.2.2.2.2.2.2.2.2.2.2.2.2.2.2.2.2.2.2.2.2.2.2.2.2.2.2.2.2.2.2.2.2.1, ())
abbrev A96 (c : Ab) : Int := c.2.2.2.2.2.2.2.2.2.2.2.2.2.2.2.2.2.2.2.2.2.2.2.2.2.2.2.2.2.2.2.2.2.2.2.2.2.2.2.2.1
def frZ (f : Aa) : Bool := (f.1 == 0) && ((f.2.1 == 0) && (((f.2.2.1.length : Int) == 0) && (((f.2.2.2.1.length : Int) == 0) && ((f.2.2.2.2.1 == 0) && (((f.2.2.2.2.2.1.length : Int) == 0) && (((f.2.2.2.2.2.2.1.length : Int) == 0) && ((f.2.2.2.2.2.2.2.1 == 0) && ((f.2.2.2.2.2.2.2.2.1 == 0) &&
 (((f.2.2.2.2.2.2.2.2.2.1.length : Int) == 0) && ((f.2.2.2.2.2.2.2.2.2.2.1.length : Int) == 0))))))))))
theorem A97 (f : Aa) : Jo f = some (frZ f, ()) := by
 unfold Jo R3 frZ
 simp only [Ah, Ak, Ae, Ou]
theorem A98 (f : Aa) : Fb f ((0 : Int), (0 : Int), ([] : List (Int × Unit)), ([] : List (Int × Unit)), (0 : Int), ([] : List (Int × Unit)), ([] : List (Int × Unit)), (0 : Int), (0 : Int), ([] : List (Int × Unit)), ([] : List (Int × Unit)), ()) = some (frZ f, ()) := by
 rw [Avb]
 unfold frZ
 simp only [Ar5]
 refine congrArg (fun b => some (b, ())) ?_
 apply Iw
 simp only [Bool.and_eq_true]
 constructor <;> (rintro ⟨h1, h2, h3, h4, h5, h6, h7, h8, h9, h10, h11⟩; simp only [*, and_self])
theorem Bgq (st : Int) (cnz cn12 f0 c0 ch role0 fin3 finId finOk finCn sn Ton Tok Ron Rok l0 lin nx old nz np : Bool) (hl : l0 = true → lin = true) :
  (bif st == 0 then (cnz && (f0 && (c0 && ((!Ton && Tok) && ((!Ron && Rok) && l0))))) else bif st == 1 then (cn12 && (f0 && (c0 && (Ton && (Tok && ((!Ron && Rok) && l0)))))) else
   bif st == 2 then ((cn12 && (fin3 && (finOk && (finId && (finCn && (ch && (role0 && (sn && (old && (!nx && nz)))))))))) && (Ton && (Tok && ((!Ron && Rok) && l0)))) else
   bif st == 3 then (cn12 && (f0 && (ch && (role0 && ((!Ton && Tok) && (Rok && ((Ron == np) && lin))))))) else false) =
  (Tok && (Rok && (lin && (bif st == 0 then (cnz && (f0 && (c0 && (!Ton && (!Ron && l0))))) else (cn12 && (bif st == 3 then (f0 && (ch && (role0 && (!Ton && (Ron == np))))) else
   (Ton && (!Ron && (l0 && (bif st == 1 then (f0 && c0) else (st == 2 && (finOk && (fin3 && (finId && (finCn && (ch && (role0 && (sn && (old && (!nx && nz)))))))))))))))))))) := by
 by_cases h0 : st = 0
 ·subst h0; cases Tok <;> cases Rok <;> cases l0 <;> simp_all
 ·by_cases h1 : st = 1
  ·subst h1; cases Tok <;> cases Rok <;> cases l0 <;> cases Ton <;> cases Ron <;> simp_all
  ·by_cases h2 : st = 2
   ·subst h2; cases Tok <;> cases Rok <;> cases l0 <;> cases Ton <;> cases Ron <;> cases finOk <;> simp_all
   ·by_cases h3 : st = 3
    ·subst h3; cases Tok <;> cases Rok <;> cases lin <;> cases Ton <;> simp_all
    ·have e0 : (st == 0) = false := by simpa using h0
     have e1 : (st == 1) = false := by simpa using h1
     have e2 : (st == 2) = false := by simpa using h2
     have e3 : (st == 3) = false := by simpa using h3
     simp [e0, e1, e2, e3]

def Cb (c : Ab) : Bool :=
 inR c.1 1 9 && (Ly (c.2.1, ()) && (Rk (c.2.2.1, c.2.2.2.1, ()) &&
  (bif c.2.2.2.2.1 == 0 then (((c.2.2.2.2.2.1.length : Int) == 0) && (frZ (Fx c) && (Amw (Ec c) && (Ht (clT c) && (Ht (clR c) && (c.2.2.2.2.2.2.2.2.2.2.2.2.2.2.2.2.2.2.2.2.2.2.2.2.2.2.2.2.2.2.2.2.2.2.2.2.2.2.2.2.1 == 0)))))) else
   bif c.2.2.2.2.1 == 1 then (((c.2.2.2.2.2.1.length : Int) == 12) && (frZ (Fx c) && (Amw (Ec c) && (c.2.2.2.2.2.2.2.2.2.2.2.2.2.2.2.2.2.2.2.2.2.2.2.2.2.2.2.2.2.2.2.2.1 && (Fo (clT c) && (Ht (clR c) && (c.2.2.2.2.2.2.2.2.2.2.2.2.2.2.2.2.2.2.2.2.2.2.2.2.2.2.2.2.2.2.2.2.2.2.2.2.2.2.2.2.1 == 0))))))) else
   bif c.2.2.2.2.1 == 2 then ((((c.2.2.2.2.2.1.length : Int) == 12) && ((c.2.2.2.2.2.2.1 == 3) && (Cd (Fx c) && ((c.2.2.2.2.2.2.2.1 == c.1) && (Dr c.2.2.2.2.2.2.2.2.1 c.2.2.2.2.2.1 && (By (Ec c) && ((c.2.2.2.2.2.2.2.2.2.2.2.2.2.2.2.2.2.1 == 0) && (Dr c.2.2.2.2.2.2.2.2.2.2.2.2.2.2.2.2.2.2.1 c.2.2.2.2.2.2.2.2.2.1 && ((c.2.2.2.2.2.2.2.2.2.2.2.2.2.2.2.2.2.2.2.1 == 0) && (!c.2.2.2.2.2.2.2.2.2.2.2.2.2.2.2.2.2.2.2.2.2.2.2.2.2.2.2.2.2.1 && ((c.2.2.2.2.2.2.2.2.2.2.2.2.2.2.2.2.2.2.2.2.2.2.2.2.2.2.2.2.2.2.2.1.length : Int) == 0))))))))))) && (c.2.2.2.2.2.2.2.2.2.2.2.2.2.2.2.2.2.2.2.2.2.2.2.2.2.2.2.2.2.2.2.2.1 && (Fo (clT c) && (Ht (clR c) && (c.2.2.2.2.2.2.2.2.2.2.2.2.2.2.2.2.2.2.2.2.2.2.2.2.2.2.2.2.2.2.2.2.2.2.2.2.2.2.2.2.1 == 0))))) else
   bif c.2.2.2.2.1 == 3 then (((c.2.2.2.2.2.1.length : Int) == 12) && (frZ (Fx c) && (By (Ec c) && ((c.2.2.2.2.2.2.2.2.2.2.2.2.2.2.2.2.2.1 == 0) && (Ht (clT c) && (Fo (clR c) && ((c.2.2.2.2.2.2.2.2.2.2.2.2.2.2.2.2.2.2.2.2.2.2.2.2.2.2.2.2.2.2.2.2.2.2.2.2.1 == decide ((c.2.2.2.2.2.2.2.2.2.2.2.2.2.2.2.2.2.2.2.2.2.2.2.2.2.2.2.2.2.2.2.1.length : Int) > 0)) && inR c.2.2.2.2.2.2.2.2.2.2.2.2.2.2.2.2.2.2.2.2.2.2.2.2.2.2.2.2.2.2.2.2.2.2.2.2.2.2.2.2.1 0 1000000))))))) else false)))
theorem Bgr (c : Ab) (h : A9 c ≤ 4294967296) : Abl c = some ((((c.2.2.2.2.2.1.length : Int) == 12) && ((c.2.2.2.2.2.2.1 == 3) && (Cd (Fx c) && ((c.2.2.2.2.2.2.2.1 == c.1) && (Dr c.2.2.2.2.2.2.2.2.1 c.2.2.2.2.2.1 && (By (Ec c) && ((c.2.2.2.2.2.2.2.2.2.2.2.2.2.2.2.2.2.1 == 0) && (Dr c.2.2.2.2.2.2.2.2.2.2.2.2.2.2.2.2.2.2.1 c.2.2.2.2.2.2.2.2.2.1 && ((c.2.2.2.2.2.2.2.2.2.2.2.2.2.2.2.2.2.2.2.1 == 0) && (!c.2.2.2.2.2.2.2.2.2.2.2.2.2.2.2.2.2.2.2.2.2.2.2.2.2.2.2.2.2.1 && ((c.2.2.2.2.2.2.2.2.2.2.2.2.2.2.2.2.2.2.2.2.2.2.2.2.2.2.2.2.2.2.2.1.length : Int) == 0))))))))))), ()) := by
 simp only [A9] at h
 unfold Abl Abk
 simp (disch := first | omega | (dsimp only; omega)) only [Ah, Ak, Ae, Kj, Pz, Adb, T6, Al, Pd, bne, Bool.cond_false_right, Bool.cond_true_left, Bool.cond_false_left, Bool.not_not]
theorem Bgs (c : Ab) (h : A9 c ≤ 4294967296) : Abn c = some (Cb c, ()) := by
 have h' := h
 simp only [A9] at h
 unfold Abn Abm Cb
 simp (disch := first | omega | (dsimp only; omega)) only [Ah, Ak, Ae, Cq, A3e, Bku, A98, A9t, Kj, Bi1, Bgr, Adb, Al, Pd, bne, Bool.cond_false_right, Bool.cond_true_left, Bool.cond_false_left, Bool.not_not]
 rfl
theorem Bgt (c : Ab) : Aau c = some (Cb c, ()) := by
 unfold Aau Aat
 simp only [Ah, Ak, Ae, C6, A3f, Bkv, A97, Bc9, Bi2, Py, Adc, Amu, Al, Pd, bne, Bool.cond_false_right, Bool.cond_true_left, Bool.cond_false_left, Bool.not_not]
 unfold Cb
 rw [Aew (clT c), Aew (clR c)]
 rw [Bgq c.2.2.2.2.1 ((c.2.2.2.2.2.1.length : Int) == 0) ((c.2.2.2.2.2.1.length : Int) == 12) (frZ (Fx c)) (Amw (Ec c)) (By (Ec c)) (c.2.2.2.2.2.2.2.2.2.2.2.2.2.2.2.2.2.1 == 0) (c.2.2.2.2.2.2.1 == 3) (c.2.2.2.2.2.2.2.1 == c.1) (Cd (Fx c)) (Dr c.2.2.2.2.2.2.2.2.1 c.2.2.2.2.2.1) (Dr c.2.2.2.2.2.2.2.2.2.2.2.2.2.2.2.2.2.2.1 c.2.2.2.2.2.2.2.2.2.1) c.2.2.2.2.2.2.2.2.2.2.2.2.2.2.2.2.2.2.2.2.2.2.2.2.2.2.2.2.2.2.2.2.1 (Fo (clT c)) c.2.2.2.2.2.2.2.2.2.2.2.2.2.2.2.2.2.2.2.2.2.2.2.2.2.2.2.2.2.2.2.2.2.2.2.2.1 (Fo (clR c)) (c.2.2.2.2.2.2.2.2.2.2.2.2.2.2.2.2.2.2.2.2.2.2.2.2.2.2.2.2.2.2.2.2.2.2.2.2.2.2.2.2.1 == 0) (inR c.2.2.2.2.2.2.2.2.2.2.2.2.2.2.2.2.2.2.2.2.2.2.2.2.2.2.2.2.2.2.2.2.2.2.2.2.2.2.2.2.1 0 1000000) c.2.2.2.2.2.2.2.2.2.2.2.2.2.2.2.2.2.2.2.2.2.2.2.2.2.2.2.2.2.1 (c.2.2.2.2.2.2.2.2.2.2.2.2.2.2.2.2.2.2.2.1 == 0) ((c.2.2.2.2.2.2.2.2.2.2.2.2.2.2.2.2.2.2.2.2.2.2.2.2.2.2.2.2.2.2.2.1.length : Int) == 0) (decide ((c.2.2.2.2.2.2.2.2.2.2.2.2.2.2.2.2.2.2.2.2.2.2.2.2.2.2.2.2.2.2.2.1.length : Int) > 0)) (fun e => by simp at e; rw [e]; rfl)]
theorem Avd (d : Aa) (h : An d ≤ 4294967296) : O8 d = some d := by
 simp only [An] at h
 unfold O8 Va
 simp (disch := first | omega | (dsimp only; omega)) only [Ak, Ae, Cz, Al]
theorem Axk (d : Aa) (h : An d ≤ 4294967296) : Qk d = some d := by
 simp only [An] at h
 unfold Qk Aj6
 simp (disch := first | omega | (dsimp only; omega)) only [Am, Ae, List.length_nil, Nat.zero_add, List.nil_append, Ao, A8]
theorem Adk (d : Ab) (h : A9 d ≤ 4294967296) : Cu d = some d := by
 simp only [A9] at h
 unfold Cu Sa
 simp (disch := first | omega | (dsimp only; omega) | (simp only [Az]; omega) | (simp only [An]; omega)) only [Ak, Ae, Cz, Avd, Am6, Al]
theorem Bi3 (d : Ab) (h : A9 d ≤ 4294967296) : Afi d = some d := by
 simp only [A9] at h
 unfold Afi Afh
 simp (disch := first | omega | (dsimp only; omega) | (simp only [Az]; omega) | (simp only [An]; omega)) only [Ak, Am, Ae, Axk, Aev, Al, List.length_nil, Nat.zero_add, List.nil_append, Ao, A8]
theorem Bdf : Abv = Jq := by
 funext n
 unfold Abv Abu Jq Qr
 simp only [Ah, Ak, Ae, Cq, C6, Al]
end
end Go.Proofs.YtggdikabbngbaaaGreat

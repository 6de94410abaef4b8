/-
  That the program and the reference answer alike, in plain terms, and that the laws answer true.
-/
import Derived.Test.YtggdikabbngbaaaGreatL1
namespace Go.Proofs.YtggdikabbngbaaaGreat
open Go.RowKit
set_option linter.unusedVariables false
set_option linter.unusedSimpArgs false
set_option maxHeartbeats 4000000
noncomputable section
theorem Ou (b c : Bool) : br b (some (c, ())) (some (false, ())) = some (b && c, ()) := by cases b <;> rfl
theorem Bmd (b c : Bool) : br b (some (true, ())) (some (c, ())) = some (b || c, ()) := by cases b <;> rfl
theorem Pd (b c d : Bool) : br b (some (c, ())) (some (d, ())) = some (bif b then c else d, ()) := by cases b <;> rfl
def Rk (a : Gn) : Bool := inR a.1 0 4294967295 && inR a.2.1 0 65535
theorem Bku (a : Gn) : Akv a = some (Rk a, ()) := by
 unfold Akv Aku Rk
 simp only [Ah, Ak, Ae, Cq, Al, Ou]
theorem Bkv (a : Gn) : Aka a = some (Rk a, ()) := by
 unfold Aka Aj9 Rk
 simp only [Ah, Ak, Ae, C6, Al, Ou]
theorem Kj (a : YBs) : Cr a = some ((a.1.length : Int) == 12, ()) := rfl
theorem Ada (a : YI) : Kv a = some (a.1 == 0 || a.1 == 1, ()) := by
 unfold Kv Ak0
 simp only [Ah, Ae, Bmd]
theorem Ajd (n : Int) : (n == 0 || n == 1) = inR n 0 1 := by
 apply Iw
 simp [inR]
 omega
def V2 (w : Bi) (n : Int) : Bool :=
 match idx w.2.1 ((n % 1024) / 32) with
 | some e => IntKind.i64.wrap ((BitVec.ofInt (IntKind.i64.bits) (Int.fdiv e.1 (2 ^ (min ((n % 32)).toNat IntKind.i64.bits))) &&& BitVec.ofInt (IntKind.i64.bits) (1 : Int)).toNat : Nat) == 1
 | none => false
theorem Axb (w : Bi) (n : YI) (hl : w.2.1.length = 32) (h0 : 0 ≤ n.1) : Qw w n = some (V2 w n.1, ()) := by
 obtain ⟨e, he, _⟩ := Tb (l := w.2.1) (n := (n.1 % 1024) / 32) (by omega) (by omega)
 unfold Qw Ak1 V2
 simp only [Am, Ak, Ae, he, Al]
 rw [Ao h0, Ao (by omega), Ao (by omega)]
 rfl
theorem A3c (w : Bi) (n : YI) (hl : w.2.1.length = 32) (h0 : 0 ≤ n.1) : Ud w n = some (V2 w n.1, ()) := by
 obtain ⟨e, he, _⟩ := Tb (l := w.2.1) (n := (n.1 % 1024) / 32) (by omega) (by omega)
 unfold Ud Ao3 V2
 simp only [Am, Ak, Ae, he, Al]
 rw [Ao h0, Ao (by omega), Ao (by omega), show (n.1 % 1024) % 32 = n.1 % 32 by omega]
 rfl
def Ds (l : List YI) : Bool := T7 (fun _ e => !inR e.1 0 4294967295) l
theorem Amv (l : List YI) (n : Int) (hl : l.length ≤ 4294967296) : L9 (l, ()) (n, ()) = some (Ds l && ((l.length : Int) == n), ()) := by
 have h := Aeu (B := Gw) l (fun i => (l, n, l, (l.length : Int), (i : Int), ())) (fun _ e => !inR e.1 0 4294967295) (false, ()) (l, n, ())
  (fun i x hi hx => by
   unfold Gw
   simp (disch := omega) only [Ah, Ak, Ae, El hi, Ay, Ch hx, Al, Cq, w64]
   rfl)
  (by unfold Gw; simp only [Ah, Ak, Ae, Gk, Ap])
 unfold L9 L8
 simp only [Ak, Bb, Ae]
 rw [show ((0 : Int)) = ((0 : Nat) : Int) from rfl, h]
 unfold Ds
 cases T7 (fun _ (e : YI) => !inR e.1 0 4294967295) l <;> rfl
def Aaj (w : Bi) : Bool := T7 (fun i (_ : Unit) => V2 w (w.1 + 1 + (i : Nat))) (List.replicate (1024 - (w.1 + 1)).toNat ())
def Jl (w : Bi) : Bool := inR w.1 (-1) 281474976710655 && (Ds w.2.1 && ((w.2.1.length : Int) == 32) && (Aaj w && (w.1 == -1 || V2 w w.1)))
theorem Bv {n lo hi : Int} : inR n lo hi = true ↔ lo ≤ n ∧ n ≤ hi := by simp [inR]
theorem Bij (t : Int) (l : List YI) (hl : l.length = 32) (h0 : -1 ≤ t) (h1 : t ≤ 281474976710655) : A0 Ja (t + 1, t, l, ()) = some (bif Aaj (t, l, ()) then .inr (t, l, ()) else .inl (false, ())) := by
 have h := A1a (B := Ja) (1024 - (t + 1)).toNat (fun i => (t + 1 + (i : Nat), t, l, ())) (fun i => V2 (t, l, ()) (t + 1 + (i : Nat))) (false, ()) (t, l, ())
  (fun i hi => by
   unfold Ja
   simp (disch := first | exact hl | (dsimp only; omega) | omega) only [Ah, Ak, Ae, Axb, Al, w64]
   rw [Ao (by omega)]
   simp only [Ay]
   rw [show t + 1 + ((i + 1 : Nat) : Int) = t + 1 + (i : Int) + 1 by omega])
  (by
   unfold Ja
   simp only [Ah, Ae]
   rw [Cg (by simp; omega)])
 rw [show t + 1 = t + 1 + ((0 : Nat) : Int) by simp, h]
 rfl
theorem Bd6 (w : Bi) (hl : w.2.1.length ≤ 4294967296) : Ady w = some (Jl w, ()) := by
 obtain ⟨t, l, _⟩ := w
 simp only at hl
 unfold Ady Us Jl
 simp (disch := omega) only [Ah, Ak, Ae, Bb, Cq, Al, Amv]
 cases h1 : inR t (-1) 281474976710655 with
 | false => rfl
 | true =>
  cases h2 : (Ds l && ((l.length : Int) == 32)) with
  | false => rfl
  | true =>
   have h1 := Bv.1 h1
   have h3 : l.length = 32 := by simp at h2; omega
   simp only [Bool.not_true, Ap]
   rw [w64 (by omega), Bij t l h3 (by omega) (by omega)]
   cases h4 : Aaj (t, l, ()) with
   | false => rfl
   | true =>
    simp only [Al, cond_true, Bnv, Bool.true_and]
    by_cases h5 : t = -1
    ·subst h5; rfl
    ·rw [Axb _ _ h3 (by dsimp only; omega), Al, Bmd]
theorem Bik (t : Int) (l : List YI) (hl : l.length = 32) (h0 : -1 ≤ t) (h1 : t ≤ 281474976710655) : A0 Fz (t + 1, t, l, ()) = some (bif Aaj (t, l, ()) then .inr () else .inl (false, ())) := by
 have h := A1a (B := Fz) (1024 - (t + 1)).toNat (fun i => (t + 1 + (i : Nat), t, l, ())) (fun i => V2 (t, l, ()) (t + 1 + (i : Nat))) (false, ()) ()
  (fun i hi => by
   unfold Fz
   simp (disch := first | exact hl | (dsimp only; omega) | omega) only [Ah, Ak, Ae, A3c, Al, w64]
   rw [Ao (by omega)]
   simp only [Ay]
   rw [show t + 1 + ((i + 1 : Nat) : Int) = t + 1 + (i : Int) + 1 by omega])
  (by
   unfold Fz
   simp only [Ah, Ae]
   rw [Cg (by simp; omega)])
 rw [show t + 1 = t + 1 + ((0 : Nat) : Int) by simp, h]
 rfl
theorem Bf8 (t : Int) (l : List YI) (hl : l.length = 32) : A0 I6 (0, t, l, ()) = some (bif Ds l then .inr (t, l, ()) else .inl (false, ())) := by
 have h := Aeu (B := I6) l (fun i => ((i : Int), t, l, ())) (fun _ e => !inR e.1 0 4294967295) (false, ()) (t, l, ())
  (fun i x hi hx => by
   unfold I6
   rw [hl] at hi
   simp (disch := omega) only [Ah, Ak, Ae, Ch hx, Al, C6, w64]
   rw [Ao (by omega)]
   rfl)
  (by unfold I6; simp only [Ah, Ak, Ae, hl]; rfl)
 rw [show ((0 : Int)) = ((0 : Nat) : Int) from rfl, h]
 rfl
theorem Bd7 (w : Bi) : Adw w = some (Jl w, ()) := by
 obtain ⟨t, l, _⟩ := w
 unfold Adw Ue Jl
 simp only [Ah, Ak, Ae, Bb, C6, Al]
 by_cases h3 : l.length = 32
 ·rw [Cg (by simp [h3])]
  cases h1 : inR t (-1) 281474976710655 with
  | false => rfl
  | true =>
   have h1 := Bv.1 h1
   simp only [Bool.not_true, Ap]
   rw [Bf8 t l h3]
   cases h2 : Ds l with
   | false => rfl
   | true =>
    simp only [Al, cond_true, Bnv, Bool.true_and, h3]
    rw [w64 (by omega), Bik t l h3 (by omega) (by omega)]
    by_cases h5 : t = -1
    ·subst h5
     rw [Cg (by simp)]
     cases Aaj (-1, l, ()) <;> rfl
    ·rw [Dq (by simp; omega), A3c _ _ h3 (by dsimp only; omega), Al]
     have h6 : (t == -1) = false := by simpa using h5
     rw [h6]
     cases V2 (t, l, ()) t <;> cases Aaj (t, l, ()) <;> rfl
 ·rw [Dq (by simpa using (by omega : ¬ ((l.length : Int) = 32)))]
  have : ((l.length : Int) == 32) = false := by simpa using (by omega : ¬ ((l.length : Int) = 32))
  rw [this]
  simp
def Ep (e : YEp) : Bool := inR e.1 0 4294967295 && (((e.2.1.length : Int) == 32) && (inR e.2.2.1 0 281474976710656 && Jl (e.2.2.2.1, e.2.2.2.2.1, ())))
theorem A1b (e : YEp) (h : e.2.2.2.2.1.length ≤ 4294967296) : R9 e = some (Ep e, ()) := by
 unfold R9 Av0 Ep
 simp (disch := first | exact h) only [Ah, Ak, Ae, Cq, Al, Ou, Bd6]
theorem A9s (e : YEp) : Ph e = some (Ep e, ()) := by
 unfold Ph Avu Ep
 simp only [Ah, Ak, Ae, C6, Al, Ou, Bd7]
def ep0 (e : YEp) : Bool := (e.1 == 0) && (((e.2.1.length : Int) == 0) && ((e.2.2.1 == 0) && ((e.2.2.2.1 == 0) && ((e.2.2.2.2.1.length : Int) == 0))))
theorem A49 (e : YEp) : Oc e = some (ep0 e, ()) := by
 unfold Oc Afk ep0
 simp only [Ah, Ae, Ou]
theorem Ar5 (l : List YB) : Dr l [] = ((l.length : Int) == 0) := by
 apply Iw
 unfold Dr N8
 cases l <;> simp
 omega
theorem A3d (l : List YI) : Abj (l, ()) ([], ()) = some ((l.length : Int) == 0, ()) := by
 unfold Abj L7
 simp only [Ah, Ak, Ae, Bb]
 cases l with
 | nil =>
  rw [Cg (by simp)]
  rw [Cj]
  rfl
 | cons x r =>
  rw [Dq (by simp; omega)]
  simp; omega
theorem A5a (e : YEp) : Qv e ((0 : Int), [], (0 : Int), (0 : Int), [], ()) = some (ep0 e, ()) := by
 unfold Qv Akw ep0
 simp only [Ah, Ak, Ae, T6, Ar5, A3d, Al, Ou]
def Amw (c : Ag) : Bool := (c.1 == 0) && (((c.2.1.length : Int) == 0) && (ep0 (c.2.2.1, c.2.2.2.1, c.2.2.2.2.1, c.2.2.2.2.2.1, c.2.2.2.2.2.2.1, ()) && (ep0 (c.2.2.2.2.2.2.2.1, c.2.2.2.2.2.2.2.2.1, c.2.2.2.2.2.2.2.2.2.1, c.2.2.2.2.2.2.2.2.2.2.1, c.2.2.2.2.2.2.2.2.2.2.2.1, ()) &&
 (!c.2.2.2.2.2.2.2.2.2.2.2.2.1 && ((c.2.2.2.2.2.2.2.2.2.2.2.2.2.1 == 0) && ((c.2.2.2.2.2.2.2.2.2.2.2.2.2.2.1.length : Int) == 0))))))
theorem A9t (c : Ag) : Na c = some (Amw c, ()) := by
 unfold Na R8 Amw
 simp only [Ah, Ak, Ae, A5a, Al, Ou]
theorem Bc9 (c : Ag) : O6 c = some (Amw c, ()) := by
 unfold O6 U6 Amw
 simp only [Ah, Ak, Ae, A49, Al, Ou]
abbrev H0 (c : Ag) : YEp := (c.2.2.1, c.2.2.2.1, c.2.2.2.2.1, c.2.2.2.2.2.1, c.2.2.2.2.2.2.1, ())
abbrev N0 (c : Ag) : YEp := (c.2.2.2.2.2.2.2.1, c.2.2.2.2.2.2.2.2.1, c.2.2.2.2.2.2.2.2.2.1, c.2.2.2.2.2.2.2.2.2.2.1, c.2.2.2.2.2.2.2.2.2.2.2.1, ())
abbrev Rl (c : Ag) : Bool := c.2.2.2.2.2.2.2.2.2.2.2.2.1
abbrev Tc (c : Ag) : Int := c.2.2.2.2.2.2.2.2.2.2.2.2.2.1
abbrev C0 (c : Ag) : List YB := c.2.2.2.2.2.2.2.2.2.2.2.2.2.2.1
def Lx (c : Ag) : Bool := bif !Rl c then ep0 (N0 c) && (Tc c == 0) else
 !!Ep (N0 c) && (!((N0 c).1 != IntKind.i64.wrap ((H0 c).1 - 1)) && (inR (Tc c) 0 1000005 || ((Tc c == -1) && (c.1 == 1))))
def By (c : Ag) : Bool := !!(c.1 == 0 || c.1 == 1) && (!!((c.2.1.length : Int) == 12) && (!!Ep (H0 c) && (!!Lx c && (((C0 c).length : Int) == 0 || ((c.1 == 0) && ((((C0 c).length : Int) == 32) && decide ((H0 c).1 < 4294967295)))))))
theorem Bms (c : Ag) (h : (N0 c).2.2.2.2.1.length ≤ 4294967296) : Apa c = some (Lx c, ()) := by
 unfold Apa Ao9 Lx
 simp (disch := first | exact h) only [Ah, Ak, Ae, A5a, Al, A1b, Cq, Pd, Bool.cond_false_right, Bool.cond_true_left, Bool.cond_false_left]
theorem Adb (c : Ag) (h1 : (H0 c).2.2.2.2.1.length ≤ 4294967296) (h2 : (N0 c).2.2.2.2.1.length ≤ 4294967296) : Kw c = some (By c, ()) := by
 unfold Kw Ak2 By
 simp (disch := first | exact h1 | exact h2) only [Ah, Ak, Ae, Ada, Kj, Al, A1b, Bms, Pd, Bool.cond_false_right, Bool.cond_true_left, Bool.cond_false_left]
theorem Adc (c : Ag) : Kq c = some (By c, ()) := by
 obtain ⟨role, sn, n1, k1, q1, t1, b1, n2, k2, q2, t2, b2, has, til, next, _⟩ := c
 unfold Kq Akb By Lx
 simp only [Ah, Ak, Ae, C6, Al, A9s, A49, Pd, Bool.cond_false_right, Bool.cond_true_left, Bool.cond_false_left, Ajd, H0, N0, Rl, Tc, C0]
 refine congrArg (fun b => some (b, ())) ?_
 cases h1 : inR role 0 1 with
 | false => rfl
 | true =>
  have h1 := Bv.1 h1
  cases has with
  | false => simp [bne, Bool.and_assoc]
  | true =>
   rcases (show role = 0 ∨ role = 1 by omega) with rfl | rfl
   ·simp [bne, Bool.and_assoc]
   ·have e2 : inR til (-1) 1000005 = (inR til 0 1000005 || til == -1) := by
     apply Iw; simp [inR]; omega
    simp [bne, Bool.and_assoc, e2]
end
end Go.Proofs.YtggdikabbngbaaaGreat

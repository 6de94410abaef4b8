/-
  That the program and the reference answer alike, in plain terms, and that the laws answer true.
-/
import Derived.Test.YtggdikabbngbaaaGreatL1
namespace Go.Proofs.YtggdikabbngbaaaGreat
open Go.RowKit
set_option linter.unusedVariables false
set_option linter.unusedSimpArgs false
set_option maxHeartbeats 4000000
noncomputable section
theorem Th (b c : Bool) : br b (some (c, ())) (some (false, ())) = some (b && c, ()) := by cases b <;> rfl
theorem Bng (b c : Bool) : br b (some (true, ())) (some (c, ())) = some (b || c, ()) := by cases b <;> rfl
theorem Zb (b c d : Bool) : br b (some (c, ())) (some (d, ())) = some (bif b then c else d, ()) := by cases b <;> rfl
def Jh (a : B5) : Bool := inR a.1 0 4294967295 && inR a.2.1 0 65535
theorem Alm (a : B5) : Ox a = some (Jh a, ()) := by
 unfold Ox Ajc Jh
 simp only [Ae, Ag, Ab, C9, Ah, Th]
theorem Aln (a : B5) : On a = some (Jh a, ()) := by
 unfold On Ain Jh
 simp only [Ae, Ag, Ab, Dm, Ah, Th]
theorem Rk (a : YBs) : Dx a = some ((a.1.length : Int) == 12, ()) := rfl
theorem Alo (a : YI) : Ow a = some (a.1 == 0 || a.1 == 1, ()) := by
 unfold Ow Ai9
 simp only [Ae, Ab, Bng]
theorem Asy (n : Int) : (n == 0 || n == 1) = inR n 0 1 := by
 apply Lj
 simp [inR]
 omega
def Xi (w : Bo) (n : Int) : Bool :=
 match idx w.2.1 ((n % 1024) / 32) with
 | some e => IntKind.i64.wrap ((BitVec.ofInt (IntKind.i64.bits) (Int.fdiv e.1 (2 ^ (min ((n % 32)).toNat IntKind.i64.bits))) &&& BitVec.ofInt (IntKind.i64.bits) (1 : Int)).toNat : Nat) == 1
 | none => false
theorem Axe (w : Bo) (n : YI) (hl : w.2.1.length = 32) (h0 : 0 ≤ n.1) : Sc w n = some (Xi w n.1, ()) := by
 obtain ⟨e, he, _⟩ := U0 (l := w.2.1) (n := (n.1 % 1024) / 32) (by omega) (by omega)
 unfold Sc Aja Xi
 simp only [Ai, Ag, Ab, he, Ah]
 rw [Ao h0, Ao (by omega), Ao (by omega)]
 rfl
theorem A4i (w : Bo) (n : YI) (hl : w.2.1.length = 32) (h0 : 0 ≤ n.1) : Vt w n = some (Xi w n.1, ()) := by
 obtain ⟨e, he, _⟩ := U0 (l := w.2.1) (n := (n.1 % 1024) / 32) (by omega) (by omega)
 unfold Vt Aom Xi
 simp only [Ai, Ag, Ab, he, Ah]
 rw [Ao h0, Ao (by omega), Ao (by omega), show (n.1 % 1024) % 32 = n.1 % 32 by omega]
 rfl
def D6 (l : List YI) : Bool := G8 (fun _ e => !inR e.1 0 4294967295) l
theorem Alp (l : List YI) (n : Int) (hl : l.length ≤ 4294967296) : Nc (l, ()) (n, ()) = some (D6 l && ((l.length : Int) == n), ()) := by
 have h := K7 (B := Hj) l (fun i => (l, n, l, (l.length : Int), (i : Int), ())) (fun _ e => !inR e.1 0 4294967295) (false, ()) (l, n, ())
  (fun i x hi hx => by
   unfold Hj
   simp (disch := omega) only [Ae, Ag, Ab, Ci hi, A3, Bq hx, Ah, C9, w64]
   rfl)
  (by unfold Hj; simp only [Ae, Ag, Ab, C0, An])
 unfold Nc Nb
 simp only [Ag, A7, Ab]
 rw [show ((0 : Int)) = ((0 : Nat) : Int) from rfl, h]
 unfold D6
 cases G8 (fun _ (e : YI) => !inR e.1 0 4294967295) l <;> rfl
def Zl (w : Bo) : Bool := G8 (fun i (_ : Unit) => Xi w (w.1 + 1 + (i : Nat))) (List.replicate (1024 - (w.1 + 1)).toNat ())
def J5 (w : Bo) : Bool := inR w.1 (-1) 281474976710655 && (D6 w.2.1 && ((w.2.1.length : Int) == 32) && (Zl w && (w.1 == -1 || Xi w w.1)))
theorem C6 {n lo hi : Int} : inR n lo hi = true ↔ lo ≤ n ∧ n ≤ hi := by simp [inR]
theorem Bjr (t : Int) (l : List YI) (hl : l.length = 32) (h0 : -1 ≤ t) (h1 : t ≤ 281474976710655) : Ay Ju (t + 1, t, l, ()) = some (bif Zl (t, l, ()) then .inr (t, l, ()) else .inl (false, ())) := by
 have h := A1n (B := Ju) (1024 - (t + 1)).toNat (fun i => (t + 1 + (i : Nat), t, l, ())) (fun i => Xi (t, l, ()) (t + 1 + (i : Nat))) (false, ()) (t, l, ())
  (fun i hi => by
   unfold Ju
   simp (disch := first | exact hl | (dsimp only; omega) | omega) only [Ae, Ag, Ab, Axe, Ah, w64]
   rw [Ao (by omega)]
   simp only [A3]
   rw [show t + 1 + ((i + 1 : Nat) : Int) = t + 1 + (i : Int) + 1 by omega])
  (by
   unfold Ju
   simp only [Ae, Ab]
   rw [Dw (by simp; omega)])
 rw [show t + 1 = t + 1 + ((0 : Nat) : Int) by simp, h]
 rfl
theorem Bfp (w : Bo) (hl : w.2.1.length ≤ 4294967296) : Ab6 w = some (J5 w, ()) := by
 obtain ⟨t, l, _⟩ := w
 simp only at hl
 unfold Ab6 Vy J5
 simp (disch := omega) only [Ae, Ag, Ab, A7, C9, Ah, Alp]
 cases h1 : inR t (-1) 281474976710655 with
 | false => rfl
 | true =>
  cases h2 : (D6 l && ((l.length : Int) == 32)) with
  | false => rfl
  | true =>
   have h1 := C6.1 h1
   have h3 : l.length = 32 := by simp at h2; omega
   simp only [Bool.not_true, An]
   rw [w64 (by omega), Bjr t l h3 (by omega) (by omega)]
   cases h4 : Zl (t, l, ()) with
   | false => rfl
   | true =>
    simp only [Ah, cond_true, A4j, Bool.true_and]
    by_cases h5 : t = -1
    ·subst h5; rfl
    ·rw [Axe _ _ h3 (by dsimp only; omega), Ah, Bng]
theorem Bjs (t : Int) (l : List YI) (hl : l.length = 32) (h0 : -1 ≤ t) (h1 : t ≤ 281474976710655) : Ay F5 (t + 1, t, l, ()) = some (bif Zl (t, l, ()) then .inr () else .inl (false, ())) := by
 have h := A1n (B := F5) (1024 - (t + 1)).toNat (fun i => (t + 1 + (i : Nat), t, l, ())) (fun i => Xi (t, l, ()) (t + 1 + (i : Nat))) (false, ()) ()
  (fun i hi => by
   unfold F5
   simp (disch := first | exact hl | (dsimp only; omega) | omega) only [Ae, Ag, Ab, A4i, Ah, w64]
   rw [Ao (by omega)]
   simp only [A3]
   rw [show t + 1 + ((i + 1 : Nat) : Int) = t + 1 + (i : Int) + 1 by omega])
  (by
   unfold F5
   simp only [Ae, Ab]
   rw [Dw (by simp; omega)])
 rw [show t + 1 = t + 1 + ((0 : Nat) : Int) by simp, h]
 rfl
theorem Bho (t : Int) (l : List YI) (hl : l.length = 32) : Ay Jr (0, t, l, ()) = some (bif D6 l then .inr (t, l, ()) else .inl (false, ())) := by
 have h := K7 (B := Jr) l (fun i => ((i : Int), t, l, ())) (fun _ e => !inR e.1 0 4294967295) (false, ()) (t, l, ())
  (fun i x hi hx => by
   unfold Jr
   rw [hl] at hi
   simp (disch := omega) only [Ae, Ag, Ab, Bq hx, Ah, Dm, w64]
   rw [Ao (by omega)]
   rfl)
  (by unfold Jr; simp only [Ae, Ag, Ab, hl]; rfl)
 rw [show ((0 : Int)) = ((0 : Nat) : Int) from rfl, h]
 rfl
theorem Bfq (w : Bo) : Ab4 w = some (J5 w, ()) := by
 obtain ⟨t, l, _⟩ := w
 unfold Ab4 Vu J5
 simp only [Ae, Ag, Ab, A7, Dm, Ah]
 by_cases h3 : l.length = 32
 ·rw [Dw (by simp [h3])]
  cases h1 : inR t (-1) 281474976710655 with
  | false => rfl
  | true =>
   have h1 := C6.1 h1
   simp only [Bool.not_true, An]
   rw [Bho t l h3]
   cases h2 : D6 l with
   | false => rfl
   | true =>
    simp only [Ah, cond_true, A4j, Bool.true_and, h3]
    rw [w64 (by omega), Bjs t l h3 (by omega) (by omega)]
    by_cases h5 : t = -1
    ·subst h5
     rw [Dw (by simp)]
     cases Zl (-1, l, ()) <;> rfl
    ·rw [J3 (by simp; omega), A4i _ _ h3 (by dsimp only; omega), Ah]
     have h6 : (t == -1) = false := by simpa using h5
     rw [h6]
     cases Xi (t, l, ()) t <;> cases Zl (t, l, ()) <;> rfl
 ·rw [J3 (by simpa using (by omega : ¬ ((l.length : Int) = 32)))]
  have : ((l.length : Int) == 32) = false := by simpa using (by omega : ¬ ((l.length : Int) = 32))
  rw [this]
  simp
def Er (e : YEp) : Bool := inR e.1 0 4294967295 && (((e.2.1.length : Int) == 32) && (inR e.2.2.1 0 281474976710656 && J5 (e.2.2.2.1, e.2.2.2.2.1, ())))
theorem A1o (e : YEp) (h : e.2.2.2.2.1.length ≤ 4294967296) : Ua e = some (Er e, ()) := by
 unfold Ua Avs Er
 simp (disch := first | exact h) only [Ae, Ag, Ab, C9, Ah, Th, Bfp]
theorem Bav (e : YEp) : Q5 e = some (Er e, ()) := by
 unfold Q5 Avj Er
 simp only [Ae, Ag, Ab, Dm, Ah, Th, Bfq]
def ep0 (e : YEp) : Bool := (e.1 == 0) && (((e.2.1.length : Int) == 0) && ((e.2.2.1 == 0) && ((e.2.2.2.1 == 0) && ((e.2.2.2.2.1.length : Int) == 0))))
theorem A58 (e : YEp) : P4 e = some (ep0 e, ()) := by
 unfold P4 Ad5 ep0
 simp only [Ae, Ab, Th]
theorem A59 (l : List YB) : Ew l [] = ((l.length : Int) == 0) := by
 apply Lj
 unfold Ew Py
 cases l <;> simp
 omega
theorem A4k (l : List YI) : Aaa (l, ()) ([], ()) = some ((l.length : Int) == 0, ()) := by
 unfold Aaa Na
 simp only [Ae, Ag, Ab, A7]
 cases l with
 | nil =>
  rw [Dw (by simp)]
  rw [Ce]
  rfl
 | cons x r =>
  rw [J3 (by simp; omega)]
  simp; omega
theorem A6a (e : YEp) : Sb e ((0 : Int), [], (0 : Int), (0 : Int), [], ()) = some (ep0 e, ()) := by
 unfold Sb Ai8 ep0
 simp only [Ae, Ag, Ab, Qo, A59, A4k, Ah, Th]
def A1p (c : Ak) : Bool := (c.1 == 0) && (((c.2.1.length : Int) == 0) && (ep0 (c.2.2.1, c.2.2.2.1, c.2.2.2.2.1, c.2.2.2.2.2.1, c.2.2.2.2.2.2.1, ()) && (ep0 (c.2.2.2.2.2.2.2.1, c.2.2.2.2.2.2.2.2.1, c.2.2.2.2.2.2.2.2.2.1, c.2.2.2.2.2.2.2.2.2.2.1, c.2.2.2.2.2.2.2.2.2.2.2.1, ()) &&
 (!c.2.2.2.2.2.2.2.2.2.2.2.2.1 && ((c.2.2.2.2.2.2.2.2.2.2.2.2.2.1 == 0) && ((c.2.2.2.2.2.2.2.2.2.2.2.2.2.2.1.length : Int) == 0))))))
theorem Baw (c : Ak) : T9 c = some (A1p c, ()) := by
 unfold T9 T8 A1p
 simp only [Ae, Ag, Ab, A6a, Ah, Th]
theorem Beo (c : Ak) : Wh c = some (A1p c, ()) := by
 unfold Wh Wg A1p
 simp only [Ae, Ag, Ab, A58, Ah, Th]
abbrev F2 (c : Ak) : YEp := (c.2.2.1, c.2.2.2.1, c.2.2.2.2.1, c.2.2.2.2.2.1, c.2.2.2.2.2.2.1, ())
abbrev J6 (c : Ak) : YEp := (c.2.2.2.2.2.2.2.1, c.2.2.2.2.2.2.2.2.1, c.2.2.2.2.2.2.2.2.2.1, c.2.2.2.2.2.2.2.2.2.2.1, c.2.2.2.2.2.2.2.2.2.2.2.1, ())
abbrev Ti (c : Ak) : Bool := c.2.2.2.2.2.2.2.2.2.2.2.2.1
abbrev U1 (c : Ak) : Int := c.2.2.2.2.2.2.2.2.2.2.2.2.2.1
abbrev L6 (c : Ak) : List YB := c.2.2.2.2.2.2.2.2.2.2.2.2.2.2.1
def My (c : Ak) : Bool := bif !Ti c then ep0 (J6 c) && (U1 c == 0) else
 !!Er (J6 c) && (!((J6 c).1 != IntKind.i64.wrap ((F2 c).1 - 1)) && (inR (U1 c) 0 1000005 || ((U1 c == -1) && (c.1 == 1))))
def Cj (c : Ak) : Bool := !!(c.1 == 0 || c.1 == 1) && (!!((c.2.1.length : Int) == 12) && (!!Er (F2 c) && (!!My c && (((L6 c).length : Int) == 0 || ((c.1 == 0) && ((((L6 c).length : Int) == 32) && decide ((F2 c).1 < 4294967295)))))))
theorem Bnu (c : Ak) (h : (J6 c).2.2.2.2.1.length ≤ 4294967296) : Aoq c = some (My c, ()) := by
 unfold Aoq Aop My
 simp (disch := first | exact h) only [Ae, Ag, Ab, A6a, Ah, A1o, C9, Zb, Bool.cond_false_right, Bool.cond_true_left, Bool.cond_false_left]
theorem Q9 (c : Ak) (h1 : (F2 c).2.2.2.2.1.length ≤ 4294967296) (h2 : (J6 c).2.2.2.2.1.length ≤ 4294967296) : G5 c = some (Cj c, ()) := by
 unfold G5 Ajb Cj
 simp (disch := first | exact h1 | exact h2) only [Ae, Ag, Ab, Alo, Rk, Ah, A1o, Bnu, Zb, Bool.cond_false_right, Bool.cond_true_left, Bool.cond_false_left]
theorem N6 (c : Ak) : G4 c = some (Cj c, ()) := by
 obtain ⟨role, sn, n1, k1, q1, t1, b1, n2, k2, q2, t2, b2, has, til, next, _⟩ := c
 unfold G4 Aim Cj My
 simp only [Ae, Ag, Ab, Dm, Ah, Bav, A58, Zb, Bool.cond_false_right, Bool.cond_true_left, Bool.cond_false_left, Asy, F2, J6, Ti, U1, L6]
 refine congrArg (fun b => some (b, ())) ?_
 cases h1 : inR role 0 1 with
 | false => rfl
 | true =>
  have h1 := C6.1 h1
  cases has with
  | false => simp [bne, Bool.and_assoc]
  | true =>
   rcases (show role = 0 ∨ role = 1 by omega) with rfl | rfl
   ·simp [bne, Bool.and_assoc]
   ·have e2 : inR til (-1) 1000005 = (inR til 0 1000005 || til == -1) := by
     apply Lj; simp [inR]; omega
    simp [bne, Bool.and_assoc, e2]
end
end Go.Proofs.YtggdikabbngbaaaGreat

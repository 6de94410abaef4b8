/-
  That the program and the reference answer alike, in plain terms, and that the laws answer true.
-/
import Derived.Test.YtggdikabbngbaaaGreatL10
namespace Go.Proofs.YtggdikabbngbaaaGreat
open Go.RowKit
set_option linter.unusedVariables false
set_option linter.unusedSimpArgs false
set_option maxHeartbeats 4000000
noncomputable section
def Em (r : Int) (sn : List YB) (ep seq : Int) : Bool := inR r 0 1 && (((sn.length : Int) == 12) && (inR ep 0 4294967295 && inR seq 0 281474976710655))
def Cy (r : Int) (sn : List YB) (ep seq : Int) : List YB := bif Em r sn ep seq then (IntKind.u8.wrap r, ()) :: (sn ++ (Fl ep 4 4 ++ Fl seq 6 6)) else []
theorem Axe (r : Int) (sn : List YB) (ep seq : Int) : Q0 (r, ()) (sn, ()) (ep, ()) (seq, ()) = some (Cy r sn ep seq, ()) := by
 unfold Q0 Alb Cy Em
 simp only [Ah, Ak, Ae, Ada, Kj, Cq, Al, Ajd]
 cases inR r 0 1 with
 | false => rfl
 | true =>
  cases hs : ((sn.length : Int) == 12) with
  | false => rfl
  | true =>
   have hs' : sn.length = 12 := by simp at hs; omega
   cases inR ep 0 4294967295 with
   | false => rfl
   | true =>
    cases inR seq 0 281474976710655 with
    | false => rfl
    | true =>
     simp only [Bool.not_true, Ap, Bool.and_true, cond_true]
     rw [Atd _ _ (by simp), Al, Bd8 _ _ (by simp), Al, Jh _ (by simp [cat, Hq]; omega) (by simp), Al]
     simp [cat]
theorem Am4 (r : Int) (sn : List YB) (ep seq : Int) : M8 (r, ()) (sn, ()) (ep, ()) (seq, ()) = some (Cy r sn ep seq, ()) := by
 unfold M8 Aki Cy Em
 simp only [Ah, Ak, Ae, Am, C6, Al, bne]
 cases inR r 0 1 with
 | false => rfl
 | true =>
  cases hs : ((sn.length : Int) == 12) with
  | false => rfl
  | true =>
   have hs' : sn.length = 12 := by simp at hs; omega
   cases inR ep 0 4294967295 with
   | false => rfl
   | true =>
    cases inR seq 0 281474976710655 with
    | false => rfl
    | true =>
     simp only [Bool.not_true, Ap, Bool.and_true, cond_true]
     rw [Ao (by simp; omega), A8, Aak _ _ (by simp; omega), Al, Bmu _ _ (by simp [Hq]; omega), Al]
     simp
theorem Kl (r : Int) (sn : List YB) (ep seq : Int) : (Cy r sn ep seq).length = (bif Em r sn ep seq then 23 else 0) := by
 unfold Cy
 cases h : Em r sn ep seq with
 | false => rfl
 | true =>
  unfold Em at h
  simp at h
  have : sn.length = 12 := by omega
  simp [Hq, this]
def Dv (r : Int) (f : Aa) : List YB := bif inR r 0 1 && (Cd f && inR f.1 4 8) then ((116 : Int), ()) :: (Cy r f.2.2.2.1 f.2.2.2.2.2.2.2.1 f.2.2.2.2.2.2.2.2.1 ++ ((IntKind.u8.wrap f.1, ()) :: f.2.2.2.2.2.2.2.2.2.1)) else []
theorem Rn (r : Int) (f : Aa) (h : An f ≤ 536870912) : Hn (r, ()) f = some (Dv r f, ()) := by
 have hh := Kl r f.2.2.2.1 f.2.2.2.2.2.2.2.1 f.2.2.2.2.2.2.2.2.1
 simp only [An] at h
 unfold Hn Ab1 Dv
 simp only [Ah, Ak, Ae, Ada, Ade, Pz, Al, Ajd, Axe]
 cases inR r 0 1 with
 | false => rfl
 | true =>
  cases inR f.1 4 8 with
  | false => cases Cd f <;> rfl
  | true =>
   cases Cd f with
   | false => rfl
   | true =>
    have hle : (Cy r f.2.2.2.1 f.2.2.2.2.2.2.2.1 f.2.2.2.2.2.2.2.2.1).length ≤ 23 := by rw [hh]; cases Em r f.2.2.2.1 f.2.2.2.2.2.2.2.1 f.2.2.2.2.2.2.2.2.1 <;> simp
    simp only [Bool.not_true, Ap, Bool.and_true, cond_true]
    rw [Jh _ (by simp [cat]; omega) (by simp), Al]
    simp [cat]
theorem Ro (r : Int) (f : Aa) (h : An f ≤ 536870912) : Hg (r, ()) f = some (Dv r f, ()) := by
 have hh := Kl r f.2.2.2.1 f.2.2.2.2.2.2.2.1 f.2.2.2.2.2.2.2.2.1
 simp only [An] at h
 unfold Hg Aa6 Dv
 simp only [Ah, Ak, Ae, Am, C6, Pj, Py, Al, Am4]
 cases inR r 0 1 with
 | false => rfl
 | true =>
  cases Cd f with
  | false => rfl
  | true =>
   cases inR f.1 4 8 with
   | false => rfl
   | true =>
    have hle : (Cy r f.2.2.2.1 f.2.2.2.2.2.2.2.1 f.2.2.2.2.2.2.2.2.1).length ≤ 23 := by rw [hh]; cases Em r f.2.2.2.1 f.2.2.2.2.2.2.2.1 f.2.2.2.2.2.2.2.2.1 <;> simp
    simp only [Bool.not_true, Ap, Bool.and_true, cond_true]
    rw [Ao (by simp; omega), A8, Ao (by simp; omega), A8, Ao (by simp; omega), A8]
    simp
def Mv : List YB := List.replicate 16 ((0 : Int), ())
def J8 (k : List YB) (r : Int) (sn : List YB) (ep seq kind : Int) (p : List YB) : Bool := ((k.length : Int) == 32) && (Em r sn ep seq && (inR kind 4 8 && Hr kind (p.length : Int)))
def Dy : Aa := (0, 0, [], [], 0, [], [], 0, 0, [], [], ())
def Eb (k : List YB) (r : Int) (sn : List YB) (ep seq kind : Int) (p : List YB) : Aa × (Bool × Unit) :=
 bif J8 k r sn ep seq kind p then ((kind, 0, [], sn, 0, [], [], ep, seq, mix k (Cy r sn ep seq) p, V3 k (Dv r (kind, 0, [], sn, 0, [], [], ep, seq, mix k (Cy r sn ep seq) p, Mv, ())), ()), (true, ())) else (Dy, (false, ()))
theorem Bnz (sn : List YB) (ep seq kind : Int) (p : List YB) (hk : inR kind 4 8 = true) : Cd (kind, 0, [], sn, 0, [], [], ep, seq, p, Mv, ()) = (((sn.length : Int) == 12) && (inR ep 0 4294967295 && (inR seq 0 281474976710655 && Hr kind (p.length : Int)))) := by
 unfold Cd
 simp only [hk, cond_true]
 simp [Mv]
theorem Biu (k : List YB) (r : Int) (sn : List YB) (ep seq kind : Int) (p : List YB) (h1 : sn.length ≤ 67108864) (h2 : p.length ≤ 67108864) : Ab3 (k, ()) (r, ()) (sn, ()) (ep, ()) (seq, ()) (kind, ()) (p, ()) = some (Eb k r sn ep seq kind p) := by
 have hm := A1f k (Cy r sn ep seq) p
 unfold Ab3 Av6 Eb J8 Em
 simp only [Ah, Ak, Ae]
 rw [Cz _ (by dsimp only; omega), Al, Cz _ (by dsimp only; omega), Al]
 simp only [Ada, Ade, Pz, Al, Ajd, bne]
 cases ((k.length : Int) == 32) with
 | false => rfl
 | true =>
  cases inR r 0 1 with
  | false => rfl
  | true =>
   cases hk : inR kind 4 8 with
   | false => simp [br]; rfl
   | true =>
    simp only [Bool.not_true, Ap, Bool.true_and]
    rw [show List.replicate (16 : Int).toNat ((0 : Int), ()) = Mv from rfl, Bnz sn ep seq kind p hk, Axe, Al, Bme, Al]
    simp only
    rw [Rn _ _ (by simp only [An]; simp [Mv]; omega), Al, Bgh, Al]
    cases ((sn.length : Int) == 12) <;> cases inR ep 0 4294967295 <;> cases inR seq 0 281474976710655 <;> cases Hr kind (p.length : Int) <;> rfl
theorem Bgj (x : List YB) (r a b : Int) (n1 n2 : List YB) (c : Int) (n3 n4 : List YB) (d e : Int) (n5 n6 : List YB) (kind f : Int) (n7 sn : List YB) (g : Int) (n8 n9 : List YB) (ep seq : Int) (body : List YB) :
  A0 Ku (x, r, (0 : Int), a, b, n1, n2, c, n3, n4, d, e, n5, n6, kind, f, n7, sn, g, n8, n9, ep, seq, body, [], ()) = some (x, r, a, b, n1, n2, c, n3, n4, d, e, n5, n6, kind, f, n7, sn, g, n8, n9, ep, seq, body, Mv, ()) := by
 exact C9 (B := Ku) 16 (fun i => (x, r, (i : Int), a, b, n1, n2, c, n3, n4, d, e, n5, n6, kind, f, n7, sn, g, n8, n9, ep, seq, body, List.replicate i ((0 : Int), ()), ())) _
  (fun i hi => by
   unfold Ku
   simp only [Ah, Am, Ae]
   rw [Ao (by omega), Ay, Ao (by simp; omega), A8, w64 (by omega), ← List.replicate_succ']
   rfl)
  (by unfold Ku; simp only [Ah, Am, Ae]; rfl)
theorem Bn0 (k : List YB) (r : Int) (sn : List YB) (ep seq kind : Int) (p : List YB) (h1 : sn.length ≤ 67108864) (h2 : p.length ≤ 67108864) : Akq (k, ()) (r, ()) (sn, ()) (ep, ()) (seq, ()) (kind, ()) (p, ()) = some (Eb k r sn ep seq kind p) := by
 have hm := A1f k (Cy r sn ep seq) p
 have hh := Kl r sn ep seq
 unfold Akq Aa8 Eb J8
 simp only [Ah, Ak, Ae, Am, List.nil_append, List.length_nil, Nat.zero_add]
 rw [Am4, Al]
 simp only [Pj, Axc, Al, bne]
 cases ((k.length : Int) == 32) with
 | false => rfl
 | true =>
  cases hd : Em r sn ep seq with
  | false =>
   rw [hd] at hh
   have e : ((Cy r sn ep seq).length : Int) == 0 := by rw [hh]; rfl
   rw [e]; rfl
  | true =>
   rw [hd] at hh
   have e : (((Cy r sn ep seq).length : Int) == 0) = false := by rw [hh]; rfl
   rw [e]
   cases hk : inR kind 4 8 with
   | false => rfl
   | true =>
    cases hb : Hr kind (p.length : Int) with
    | false => rfl
    | true =>
     simp only [Bool.not_true, Ap, Bool.true_and, Bool.and_true, cond_true]
     rw [Ao (by omega), A8, Bmf, Al]
     simp only
     rw [Bgj, Al]
     simp only
     rw [Ro _ _ (by simp only [An]; simp [Mv]; omega), Al, Bgi, Al]
theorem Bde (k : List YB) (r : Int) (sn : List YB) (ep seq kind : Int) (p : List YB) : An (Eb k r sn ep seq kind p).1 ≤ sn.length + p.length + 32 := by
 have hm := A1f k (Cy r sn ep seq) p
 have ht := Bed k (Dv r (kind, 0, [], sn, 0, [], [], ep, seq, mix k (Cy r sn ep seq) p, Mv, ()))
 unfold Eb
 cases J8 k r sn ep seq kind p <;> simp [An, Dy]
 omega
theorem Ag9 (r : Int) (f : Aa) : (Dv r f).length ≤ An f + 32 := by
 have hh := Kl r f.2.2.2.1 f.2.2.2.2.2.2.2.1 f.2.2.2.2.2.2.2.2.1
 have hle : (Cy r f.2.2.2.1 f.2.2.2.2.2.2.2.1 f.2.2.2.2.2.2.2.2.1).length ≤ 23 := by rw [hh]; cases Em r f.2.2.2.1 f.2.2.2.2.2.2.2.1 f.2.2.2.2.2.2.2.2.1 <;> simp
 unfold Dv An
 cases (inR r 0 1 && (Cd f && inR f.1 4 8)) <;> simp
 omega
end
end Go.Proofs.YtggdikabbngbaaaGreat

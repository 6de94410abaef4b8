/-
  That the program and the reference answer alike, in plain terms, and that the laws answer true.
-/
import Derived.Test.YtggdikabbngbaaaGreatL10
namespace Go.Proofs.YtggdikabbngbaaaGreat
open Go.RowKit
set_option linter.unusedVariables false
set_option linter.unusedSimpArgs false
set_option maxHeartbeats 4000000
noncomputable section
def Fl (r : Int) (sn : List YB) (ep seq : Int) : Bool := inR r 0 1 && (((sn.length : Int) == 12) && (inR ep 0 4294967295 && inR seq 0 281474976710655))
def Dr (r : Int) (sn : List YB) (ep seq : Int) : List YB := bif Fl r sn ep seq then (IntKind.u8.wrap r, ()) :: (sn ++ (Ft ep 4 4 ++ Ft seq 6 6)) else []
theorem Axh (r : Int) (sn : List YB) (ep seq : Int) : Se (r, ()) (sn, ()) (ep, ()) (seq, ()) = some (Dr r sn ep seq, ()) := by
 unfold Se Ajl Dr Fl
 simp only [Ae, Ag, Ab, Alo, Rk, C9, Ah, Asy]
 cases inR r 0 1 with
 | false => rfl
 | true =>
  cases hs : ((sn.length : Int) == 12) with
  | false => rfl
  | true =>
   have hs' : sn.length = 12 := by simp at hs; omega
   cases inR ep 0 4294967295 with
   | false => rfl
   | true =>
    cases inR seq 0 281474976710655 with
    | false => rfl
    | true =>
     simp only [Bool.not_true, An, Bool.and_true, cond_true]
     rw [Asz _ _ (by simp), Ah, Bfr _ _ (by simp), Ah, N8 _ (by simp [cat, Lk]; omega) (by simp), Ah]
     simp [cat]
theorem Alw (r : Int) (sn : List YB) (ep seq : Int) : Oq (r, ()) (sn, ()) (ep, ()) (seq, ()) = some (Dr r sn ep seq, ()) := by
 unfold Oq Ais Dr Fl
 simp only [Ae, Ag, Ab, Ai, Dm, Ah, bne]
 cases inR r 0 1 with
 | false => rfl
 | true =>
  cases hs : ((sn.length : Int) == 12) with
  | false => rfl
  | true =>
   have hs' : sn.length = 12 := by simp at hs; omega
   cases inR ep 0 4294967295 with
   | false => rfl
   | true =>
    cases inR seq 0 281474976710655 with
    | false => rfl
    | true =>
     simp only [Bool.not_true, An, Bool.and_true, cond_true]
     rw [Ao (by simp; omega), A8, Zm _ _ (by simp; omega), Ah, Bnx _ _ (by simp [Lk]; omega), Ah]
     simp
theorem N9 (r : Int) (sn : List YB) (ep seq : Int) : (Dr r sn ep seq).length = (bif Fl r sn ep seq then 23 else 0) := by
 unfold Dr
 cases h : Fl r sn ep seq with
 | false => rfl
 | true =>
  unfold Fl at h
  simp at h
  have : sn.length = 12 := by omega
  simp [Lk, this]
def Cz (r : Int) (f : Av) : List YB := bif inR r 0 1 && (Ej f && inR f.1 4 8) then ((116 : Int), ()) :: (Dr r f.2.2.2.1 f.2.2.2.2.2.2.2.1 f.2.2.2.2.2.2.2.2.1 ++ ((IntKind.u8.wrap f.1, ()) :: f.2.2.2.2.2.2.2.2.2.1)) else []
theorem Tk (r : Int) (f : Av) (h : A1 f ≤ 536870912) : H2 (r, ()) f = some (Cz r f, ()) := by
 have hh := N9 r f.2.2.2.1 f.2.2.2.2.2.2.2.1 f.2.2.2.2.2.2.2.2.1
 simp only [A1] at h
 unfold H2 Aac Cz
 simp only [Ae, Ag, Ab, Alo, Alq, Ark, Ah, Asy, Axh]
 cases inR r 0 1 with
 | false => rfl
 | true =>
  cases inR f.1 4 8 with
  | false => cases Ej f <;> rfl
  | true =>
   cases Ej f with
   | false => rfl
   | true =>
    have hle : (Dr r f.2.2.2.1 f.2.2.2.2.2.2.2.1 f.2.2.2.2.2.2.2.2.1).length ≤ 23 := by rw [hh]; cases Fl r f.2.2.2.1 f.2.2.2.2.2.2.2.1 f.2.2.2.2.2.2.2.2.1 <;> simp
    simp only [Bool.not_true, An, Bool.and_true, cond_true]
    rw [N8 _ (by simp [cat]; omega) (by simp), Ah]
    simp [cat]
theorem Tl (r : Int) (f : Av) (h : A1 f ≤ 536870912) : Ht (r, ()) f = some (Cz r f, ()) := by
 have hh := N9 r f.2.2.2.1 f.2.2.2.2.2.2.2.1 f.2.2.2.2.2.2.2.2.1
 simp only [A1] at h
 unfold Ht Zu Cz
 simp only [Ae, Ag, Ab, Ai, Dm, U2, Arj, Ah, Alw]
 cases inR r 0 1 with
 | false => rfl
 | true =>
  cases Ej f with
  | false => rfl
  | true =>
   cases inR f.1 4 8 with
   | false => rfl
   | true =>
    have hle : (Dr r f.2.2.2.1 f.2.2.2.2.2.2.2.1 f.2.2.2.2.2.2.2.2.1).length ≤ 23 := by rw [hh]; cases Fl r f.2.2.2.1 f.2.2.2.2.2.2.2.1 f.2.2.2.2.2.2.2.2.1 <;> simp
    simp only [Bool.not_true, An, Bool.and_true, cond_true]
    rw [Ao (by simp; omega), A8, Ao (by simp; omega), A8, Ao (by simp; omega), A8]
    simp
def V8 : List YB := List.replicate 16 ((0 : Int), ())
def Qp (k : List YB) (r : Int) (sn : List YB) (ep seq kind : Int) (p : List YB) : Bool := ((k.length : Int) == 32) && (Fl r sn ep seq && (inR kind 4 8 && Ji kind (p.length : Int)))
def Fi : Av := (0, 0, [], [], 0, [], [], 0, 0, [], [], ())
def G2 (k : List YB) (r : Int) (sn : List YB) (ep seq kind : Int) (p : List YB) : Av × (Bool × Unit) :=
 bif Qp k r sn ep seq kind p then ((kind, 0, [], sn, 0, [], [], ep, seq, mix k (Dr r sn ep seq) p, Aro k (Cz r (kind, 0, [], sn, 0, [], [], ep, seq, mix k (Dr r sn ep seq) p, V8, ())), ()), (true, ())) else (Fi, (false, ()))
theorem Bo5 (sn : List YB) (ep seq kind : Int) (p : List YB) (hk : inR kind 4 8 = true) : Ej (kind, 0, [], sn, 0, [], [], ep, seq, p, V8, ()) = (((sn.length : Int) == 12) && (inR ep 0 4294967295 && (inR seq 0 281474976710655 && Ji kind (p.length : Int)))) := by
 unfold Ej
 simp only [hk, cond_true]
 simp [V8]
theorem Bj5 (k : List YB) (r : Int) (sn : List YB) (ep seq kind : Int) (p : List YB) (h1 : sn.length ≤ 67108864) (h2 : p.length ≤ 67108864) : Aai (k, ()) (r, ()) (sn, ()) (ep, ()) (seq, ()) (kind, ()) (p, ()) = some (G2 k r sn ep seq kind p) := by
 have hm := A1u k (Dr r sn ep seq) p
 unfold Aai Avz G2 Qp Fl
 simp only [Ae, Ag, Ab]
 rw [Dn _ (by dsimp only; omega), Ah, Dn _ (by dsimp only; omega), Ah]
 simp only [Alo, Alq, Ark, Ah, Asy, bne]
 cases ((k.length : Int) == 32) with
 | false => rfl
 | true =>
  cases inR r 0 1 with
  | false => rfl
  | true =>
   cases hk : inR kind 4 8 with
   | false => simp [br]; rfl
   | true =>
    simp only [Bool.not_true, An, Bool.true_and]
    rw [show List.replicate (16 : Int).toNat ((0 : Int), ()) = V8 from rfl, Bo5 sn ep seq kind p hk, Axh, Ah, Bnj, Ah]
    simp only
    rw [Tk _ _ (by simp only [A1]; simp [V8]; omega), Ah, Bnh, Ah]
    cases ((sn.length : Int) == 12) <;> cases inR ep 0 4294967295 <;> cases inR seq 0 281474976710655 <;> cases Ji kind (p.length : Int) <;> rfl
theorem Bhx (x : List YB) (r a b : Int) (n1 n2 : List YB) (c : Int) (n3 n4 : List YB) (d e : Int) (n5 n6 : List YB) (kind f : Int) (n7 sn : List YB) (g : Int) (n8 n9 : List YB) (ep seq : Int) (body : List YB) :
  Ay Lh (x, r, (0 : Int), a, b, n1, n2, c, n3, n4, d, e, n5, n6, kind, f, n7, sn, g, n8, n9, ep, seq, body, [], ()) = some (x, r, a, b, n1, n2, c, n3, n4, d, e, n5, n6, kind, f, n7, sn, g, n8, n9, ep, seq, body, V8, ()) := by
 exact Da (B := Lh) 16 (fun i => (x, r, (i : Int), a, b, n1, n2, c, n3, n4, d, e, n5, n6, kind, f, n7, sn, g, n8, n9, ep, seq, body, List.replicate i ((0 : Int), ()), ())) _
  (fun i hi => by
   unfold Lh
   simp only [Ae, Ai, Ab]
   rw [Ao (by omega), A3, Ao (by simp; omega), A8, w64 (by omega), ← List.replicate_succ']
   rfl)
  (by unfold Lh; simp only [Ae, Ai, Ab]; rfl)
theorem Bo6 (k : List YB) (r : Int) (sn : List YB) (ep seq kind : Int) (p : List YB) (h1 : sn.length ≤ 67108864) (h2 : p.length ≤ 67108864) : Ai3 (k, ()) (r, ()) (sn, ()) (ep, ()) (seq, ()) (kind, ()) (p, ()) = some (G2 k r sn ep seq kind p) := by
 have hm := A1u k (Dr r sn ep seq) p
 have hh := N9 r sn ep seq
 unfold Ai3 Z2 G2 Qp
 simp only [Ae, Ag, Ab, Ai, List.nil_append, List.length_nil, Nat.zero_add]
 rw [Alw, Ah]
 simp only [U2, Axf, Ah, bne]
 cases ((k.length : Int) == 32) with
 | false => rfl
 | true =>
  cases hd : Fl r sn ep seq with
  | false =>
   rw [hd] at hh
   have e : ((Dr r sn ep seq).length : Int) == 0 := by rw [hh]; rfl
   rw [e]; rfl
  | true =>
   rw [hd] at hh
   have e : (((Dr r sn ep seq).length : Int) == 0) = false := by rw [hh]; rfl
   rw [e]
   cases hk : inR kind 4 8 with
   | false => rfl
   | true =>
    cases hb : Ji kind (p.length : Int) with
    | false => rfl
    | true =>
     simp only [Bool.not_true, An, Bool.true_and, Bool.and_true, cond_true]
     rw [Ao (by omega), A8, Bnk, Ah]
     simp only
     rw [Bhx, Ah]
     simp only
     rw [Tl _ _ (by simp only [A1]; simp [V8]; omega), Ah, Bni, Ah]
theorem Beu (k : List YB) (r : Int) (sn : List YB) (ep seq kind : Int) (p : List YB) : A1 (G2 k r sn ep seq kind p).1 ≤ sn.length + p.length + 32 := by
 have hm := A1u k (Dr r sn ep seq) p
 have ht := Bn1 k (Cz r (kind, 0, [], sn, 0, [], [], ep, seq, mix k (Dr r sn ep seq) p, V8, ()))
 unfold G2
 cases Qp k r sn ep seq kind p <;> simp [A1, Fi]
 omega
theorem Au4 (r : Int) (f : Av) : (Cz r f).length ≤ A1 f + 32 := by
 have hh := N9 r f.2.2.2.1 f.2.2.2.2.2.2.2.1 f.2.2.2.2.2.2.2.2.1
 have hle : (Dr r f.2.2.2.1 f.2.2.2.2.2.2.2.1 f.2.2.2.2.2.2.2.2.1).length ≤ 23 := by rw [hh]; cases Fl r f.2.2.2.1 f.2.2.2.2.2.2.2.1 f.2.2.2.2.2.2.2.2.1 <;> simp
 unfold Cz A1
 cases (inR r 0 1 && (Ej f && inR f.1 4 8)) <;> simp
 omega
end
end Go.Proofs.YtggdikabbngbaaaGreat

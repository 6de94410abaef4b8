/-
  That the program and the reference answer alike, in plain terms, and that the laws answer true.
-/
import Derived.Test.YtggdikabbngbaaaGreatL9
namespace Go.Proofs.YtggdikabbngbaaaGreat
open Go.RowKit
set_option linter.unusedVariables false
set_option linter.unusedSimpArgs false
set_option maxHeartbeats 4000000
noncomputable section
theorem Bny (b : List YB) (h : b.length ≤ 1048576) : (sha b).length = 32 := by
 unfold sha
 rw [if_pos h, Am0, (Aje _ Dt _ (Nat.le_refl _) (by decide)).2.1]; rfl
theorem Ajf (b : List YB) : (sha b).length ≤ 32 := by rcases Bec b with h | h <;> omega
def Ar8 (k : List YB) : List YB := k ++ List.replicate (64 - k.length) ((0 : Int), ())
def Du (k : List YB) : List YB := Ar8 (if k.length > 64 then sha k else k)
theorem Ate (k : List YB) (h : k.length ≤ 64) : A0 Dx (k, ()) = some (Ar8 k, ()) := by
 have hr := C9 (B := Dx) (64 - k.length) (fun i => (k ++ List.replicate i ((0 : Int), ()), ())) (Ar8 k, ())
  (fun i hi => by
   unfold Dx
   simp only [Ah, Am, Ae]
   rw [Ao (by simp; omega), Ay, Ao (by simp; omega), A8, List.append_assoc, ← List.replicate_succ'])
  (by
   unfold Dx
   simp only [Ah, Am, Ae]
   rw [Bg (by simp; omega), Ap]; rfl)
 simpa using hr
theorem Bge (k : List YB) (h : k.length ≤ 64) : (Ar8 k).length = 64 := by unfold Ar8; simp; omega
theorem Adh (k : List YB) : (Du k).length = 64 := by
 unfold Du
 refine Bge _ ?_
 split
 ·have := Ajf k; omega
 ·omega
theorem Bgf (k : List YB) (h : k.length ≤ 1048576) : Abr (k, ()) = some (Du k, ()) := by
 unfold Abr Me Du
 simp only [Ah, Ak, Ae]
 rw [Bg (by omega), Ap, Cz _ (by dsimp only; omega), Al]
 by_cases h1 : k.length > 64
 ·have := Ajf k
  rw [Ao (by omega), Ay, Bgd _ (by omega), Al, Ate _ (by omega), if_pos h1]; rfl
 ·rw [Bg (by omega), Ap, Ate _ (by omega), if_neg h1]; rfl
theorem Bgg (k : List YB) (h : k.length ≤ 1048576) : Aay (k, ()) = some (Du k, ()) := by
 unfold Aay L5 Du
 simp only [Ah, Ak, Ae, Am, List.nil_append, List.length_nil, Nat.zero_add]
 rw [Bg (by omega), Ap, Ao (by omega), A8, show Jp = Dx from rfl]
 by_cases h1 : k.length > 64
 ·have := Ajf k
  rw [Ao (by omega), Ay, Bgc, Al, Ate _ (by omega), if_pos h1]; rfl
 ·rw [Bg (by omega), Ap, Ate _ (by omega), if_neg h1]; rfl
def Axd (x c : Int) : YB := (IntKind.u8.wrap ((BitVec.ofInt (IntKind.u8.bits) x ^^^ BitVec.ofInt (IntKind.u8.bits) c).toNat : Nat), ())
def Df (k : List YB) (c : Int) : List YB := k.map fun x => Axd x.1 c
theorem Fw (k : List YB) (c : Int) : (Df k c).length = k.length := by simp [Df]
theorem Ag7 (k : List YB) (x : YB) (c : Int) : Df (k ++ [x]) c = Df k c ++ [Axd x.1 c] := by simp [Df]
theorem A91 (k : List YB) (c : Int) (h : k.length ≤ 1048576) : Zx (k, ()) (c, ()) = some (Df k c, ()) := by
 have hr := C9 (B := Hl) k.length (fun i => (c, Df (k.take i) c, k, (k.length : Int), (i : Int), ())) (Df k c, ())
  (fun i hi => by
   have hx := List.getElem?_eq_getElem hi
   unfold Hl
   simp only [Ah, Ak, Ae, Am, El hi, Ay, Ch hx, Al]
   rw [Ao (by simp [Fw]; omega), A8, w64 (by omega), ← Gu hx, Ag7]
   rfl)
  (by unfold Hl; simp only [Ah, Ae, Gk, Ap, List.take_length])
 unfold Zx Qy
 simp only [Ak, Ae]
 rw [show A0 Hl (c, [], k, (k.length : Int), (0 : Int), ()) = _ from hr]
 rfl
theorem Bmx (m k : List YB) (h : k.length = 64) : A0 Ks (m, k, [], [], (0 : Int), ()) = some (m, Df k 54, Df k 92, ()) := by
 have hr := C9 (B := Ks) 64 (fun i => (m, k, Df (k.take i) 54, Df (k.take i) 92, (i : Int), ())) (m, Df k 54, Df k 92, ())
  (fun i hi => by
   have hx := List.getElem?_eq_getElem (show i < k.length by omega)
   unfold Ks
   simp only [Ah, Ak, Ae, Am]
   rw [Ao (by omega), Ay, Ch hx]
   simp only [Al]
   rw [Ao (by simp [Fw]; omega), A8, Ao (by simp [Fw]; omega), A8, w64 (by omega), ← Gu hx, Ag7, Ag7]
   rfl)
  (by unfold Ks; simp only [Ah, Ae, Ak, Am]; rw [Bg (by omega), Ap, ← h, List.take_length])
 exact hr
def Fm (k m : List YB) : List YB := if k.length > 1048576 then [] else if m.length > 1048512 then [] else sha (Df (Du k) 92 ++ sha (Df (Du k) 54 ++ m))
theorem Ar9 (k m : List YB) : Sb (k, ()) (m, ()) = some (Fm k m, ()) := by
 have hb := Adh k
 unfold Sb Av2 Fm
 simp only [Ah, Ak, Ae]
 by_cases h1 : k.length > 1048576
 ·rw [Ao (by omega), Ay, if_pos h1]
 rw [Bg (by omega), Ap, if_neg h1]
 by_cases h2 : m.length > 1048512
 ·rw [Ao (by omega), Ay, if_pos h2]
 have hs := Ajf (Df (Du k) 54 ++ m)
 rw [Bg (by omega), Ap, if_neg h2, Bgf _ (by omega), Al, A91 _ _ (by omega), Al, A91 _ _ (by omega), Al, Jh _ (by simp [cat, Fw]; omega) (by simp), Al,
  show cat [(Df (Du k) 54, ()), (m, ())] = Df (Du k) 54 ++ m by simp [cat], Bgd _ (by simp [Fw]; omega), Al, Jh _ (by simp [cat, Fw]; omega) (by simp), Al,
  show cat [(Df (Du k) 92, ()), (sha (Df (Du k) 54 ++ m), ())] = Df (Du k) 92 ++ sha (Df (Du k) 54 ++ m) by simp [cat], Bgd _ (by simp [Fw]; omega), Al]
theorem Asa (k m : List YB) : R4 (k, ()) (m, ()) = some (Fm k m, ()) := by
 have hb := Adh k
 unfold R4 Aaz Fm
 simp only [Ah, Ak, Ae, Am]
 by_cases h1 : k.length > 1048576
 ·rw [Ao (by omega), Ay, if_pos h1]
 rw [Bg (by omega), Ap, if_neg h1]
 by_cases h2 : m.length > 1048512
 ·rw [Ao (by omega), Ay, if_pos h2]
 have hs := Ajf (Df (Du k) 54 ++ m)
 rw [Bg (by omega), Ap, if_neg h2, Bgg _ (by omega), Al, Bmx _ _ hb, Al]
 simp only
 rw [Ao (by simp [Fw]; omega), A8, Bgc, Al, Ao (by simp [Fw]; omega), A8, Bgc, Al]
theorem Am1 (k m : List YB) : (Fm k m).length = 32 ∨ (Fm k m).length = 0 := by
 unfold Fm
 split
 ·exact .inr rfl
 split
 ·exact .inr rfl
 exact Bec _
theorem Tf (k m : List YB) (h1 : k.length ≤ 1048576) (h2 : m.length ≤ 1048512) : (Fm k m).length = 32 := by
 have hb := Adh k
 have hs := Ajf (Df (Du k) 54 ++ m)
 unfold Fm
 rw [if_neg (by omega), if_neg (by omega)]
 exact Bny _ (by simp [Fw]; omega)
def V3 (k m : List YB) : List YB := (Fm k m).take 16
theorem Bgh (k m : List YB) : Aht (k, ()) (m, ()) = some (V3 k m, ()) := by
 unfold Aht A2f V3
 simp only [Ah, Ak, Ae, Am, Ar9, Al]
 rcases Am1 k m with h | h
 ·rw [Cg (by simp [h]), Ao (by omega), A8]
  simp only [show (16 : Int).toNat = 16 from rfl, show (0 : Int).toNat = 0 from rfl, List.drop_zero]
  rw [Cz _ (by simp; omega), Al]
 ·rw [Dq (by simp [h]), List.eq_nil_of_length_eq_zero h]; rfl
theorem Bgi (k m : List YB) : Ahp (k, ()) (m, ()) = some (V3 k m, ()) := by
 unfold Ahp A19 V3
 simp only [Ah, Ak, Ae, Am, Asa, Al, List.nil_append, List.length_nil, Nat.zero_add]
 rcases Am1 k m with h | h
 ·rw [Bg (by omega), Ap, Ao (by omega), A8]
  simp only [show (16 : Int).toNat = 16 from rfl, show (0 : Int).toNat = 0 from rfl, List.drop_zero]
  rw [Ao (by simp; omega), A8]
 ·rw [Ao (by omega), Ay, List.eq_nil_of_length_eq_zero h]; rfl
theorem Bed (k m : List YB) : (V3 k m).length ≤ 16 := by unfold V3; simp; omega
def P0 (k n : List YB) (i : Int) : List YB := if inR i 0 6 = true ∧ n.length ≤ 100 then Fm k ((((115 : Int), ()) :: n) ++ Fl i 4 4) else []
theorem Bir (k n : List YB) (i : Int) : Agb (k, ()) (n, ()) (i, ()) = some (P0 k n i, ()) := by
 unfold Agb Aga P0
 simp only [Ah, Ak, Ae, Cq, Al]
 cases hi : inR i 0 6 with
 | false => simp [br]
 | true =>
  simp only [Bool.not_true, Ap]
  by_cases hn : n.length ≤ 100
  ·rw [Bg (by omega), Ap, Jh _ (by simp [cat]; omega) (by simp), Al, show cat [([((115 : Int), ())], ()), (n, ())] = ((115 : Int), ()) :: n by simp [cat], Atd _ _ (by simp; omega), Al, Ar9, Al, if_pos ⟨trivial, hn⟩]
  ·rw [Ao (by omega), Ay, if_neg (fun h => hn h.2)]
theorem Bis (k n : List YB) (i : Int) : Afv (k, ()) (n, ()) (i, ()) = some (P0 k n i, ()) := by
 unfold Afv Afu P0
 simp only [Ah, Ak, Ae, Am, C6, Al]
 cases hi : inR i 0 6 with
 | false => simp [br]
 | true =>
  simp only [Bool.not_true, Ap]
  by_cases hn : n.length ≤ 100
  ·rw [Bg (by omega), Ap, Ao (by simp; omega), A8, Aak _ _ (by simp; omega), Al, Asa, Al, if_pos ⟨trivial, hn⟩]; rfl
  ·rw [Ao (by omega), Ay, if_neg (fun h => hn h.2)]
theorem Am2 (k n : List YB) (i : Int) (h0 : 0 ≤ i) (h1 : i ≤ 6) (hn : n.length ≤ 100) (hk : k.length ≤ 1048576) : (P0 k n i).length = 32 := by
 unfold P0
 rw [if_pos ⟨Bv.2 ⟨h0, h1⟩, hn⟩]
 exact Tf _ _ hk (by simp [Hq]; omega)
def blocks (k n : List YB) (i : Nat) : List YB := (List.range i).flatMap fun (j : Nat) => P0 k n (j : Int)
theorem Ag8 (k n : List YB) (i : Nat) : blocks k n (i + 1) = blocks k n i ++ P0 k n (i : Int) := by unfold blocks; rw [List.range_succ, List.flatMap_append]; simp
theorem Rm (k n : List YB) (i : Nat) (h : i ≤ 7) (hn : n.length ≤ 100) (hk : k.length ≤ 1048576) : (blocks k n i).length = 32 * i := by
 induction i with
 | zero => rfl
 | succ i ih => rw [Ag8, List.length_append, ih (by omega), Am2 _ _ _ (by omega) (by omega) hn hk]; omega
def F2 (k n : List YB) (m : Nat) : List YB := (blocks k n ((m + 31) / 32)).take m
theorem A1e (k n : List YB) (m : Nat) (hm : m ≤ 200) (hn : n.length ≤ 100) (hk : k.length ≤ 1048576) : (F2 k n m).length = m := by
 unfold F2
 rw [List.length_take, Rm _ _ _ (by omega) hn hk]; omega
theorem Bk0 (k n : List YB) (m : Nat) (hm : m ≤ 200) (hn : n.length ≤ 100) (hk : k.length ≤ 1048576) : Alf (k, ()) (n, ()) ((m : Int), ()) = some (F2 k n m, ()) := by
 have hbl := Rm k n ((m + 31) / 32) (by omega) hn hk
 have hr := C9 (B := Hp) ((m + 31) / 32) (fun i => (k, n, (m : Int), blocks k n i, (i : Int), ())) ((m : Int), blocks k n ((m + 31) / 32), ())
  (fun i hi => by
   have hl := Rm k n i (by omega) hn hk
   have hl2 := Am2 k n (i : Int) (by omega) (by omega) hn hk
   unfold Hp
   simp only [Ah, Ak, Ae, Am]
   rw [Ao (by omega), Ay, Bir, Al, Ao (by dsimp only; omega), A8, w64 (by omega), Ag8]
   rfl)
  (by
   unfold Hp
   simp only [Ah, Ak, Ae, Am]
   rw [Bg (by omega), Ap])
 unfold Alf Q2
 simp only [Ah, Ak, Ae, Am, Cq, Al]
 rw [Cg (by simp [inR]; omega), Bg (by omega), Ap, Bg (by omega), Ap, show A0 Hp (k, n, (m : Int), [], (0 : Int), ()) = _ from hr, Al]
 simp only [Int.toNat_natCast, show (0 : Int).toNat = 0 from rfl, List.drop_zero]
 rw [Ao (by omega), A8, Ao (by omega), A8, Cz _ (by simp; omega), Al]
 rfl
theorem Bk1 (k n : List YB) (m : Nat) (hm : m ≤ 200) (hn : n.length ≤ 100) (hk : k.length ≤ 1048576) : Akk (k, ()) (n, ()) ((m : Int), ()) = some (F2 k n m, ()) := by
 have hbl := Rm k n ((m + 31) / 32) (by omega) hn hk
 have hr := C9 (B := Hh) ((m + 31) / 32) (fun i => (k, n, (m : Int), blocks k n i, (i : Int), ())) ((m : Int), blocks k n ((m + 31) / 32), ())
  (fun i hi => by
   have hl := Rm k n i (by omega) hn hk
   have hl2 := Am2 k n (i : Int) (by omega) (by omega) hn hk
   unfold Hh
   simp only [Ah, Ak, Ae, Am]
   rw [Ao (by omega), Ay, Bis, Al, Ao (by dsimp only; omega), A8, w64 (by omega), Ag8]
   rfl)
  (by
   unfold Hh
   simp only [Ah, Ak, Ae, Am]
   rw [Bg (by omega), Ap])
 unfold Akk Qs
 simp only [Ah, Ak, Ae, Am, C6, Al]
 rw [Cg (by simp [inR]; omega), Bg (by omega), Ap, Bg (by omega), Ap, show A0 Hh (k, n, (m : Int), [], (0 : Int), ()) = _ from hr, Al]
 simp only [Int.toNat_natCast, show (0 : Int).toNat = 0 from rfl, List.drop_zero, List.nil_append, List.length_nil, Nat.zero_add]
 rw [Ao (by omega), A8, Ao (by omega), A8, Ao (by simp; omega), A8]
 rfl
def Adi (st p : List YB) (i : Nat) : List YB := (List.range i).map fun j => Axd (st[j]?.getD (0, ())).1 (p[j]?.getD (0, ())).1
theorem A5d (st p : List YB) (i : Nat) : Adi st p (i + 1) = Adi st p i ++ [Axd (st[i]?.getD (0, ())).1 (p[i]?.getD (0, ())).1] := by unfold Adi; rw [List.range_succ, List.map_append]; rfl
theorem Am3 (st p : List YB) (i : Nat) : (Adi st p i).length = i := by simp [Adi]
def mix (k n p : List YB) : List YB := if p.length ≤ 200 ∧ n.length ≤ 100 ∧ k.length ≤ 1048576 then Adi (F2 k n p.length) p p.length else []
theorem A1f (k n p : List YB) : (mix k n p).length ≤ p.length := by
 unfold mix
 split
 ·rw [Am3]; exact Nat.le_refl _
 ·simp
theorem Bme (k n p : List YB) : As3 (k, ()) (n, ()) (p, ()) = some (mix k n p, ()) := by
 unfold As3 Ahu mix
 simp only [Ah, Ak, Ae]
 by_cases h1 : p.length ≤ 200
 ·rw [Bg (by omega), Ap]
  by_cases h2 : n.length ≤ 100
  ·rw [Bg (by omega), Ap]
   by_cases h3 : k.length ≤ 1048576
   ·have hs := A1e k n p.length h1 h2 h3
    have hr := C9 (B := Mg) p.length (fun i => (p, Adi (F2 k n p.length) p i, F2 k n p.length, ((F2 k n p.length).length : Int), (i : Int), ())) (Adi (F2 k n p.length) p p.length, ())
     (fun i hi => by
      have hx := List.getElem?_eq_getElem hi
      have hy := List.getElem?_eq_getElem (show i < (F2 k n p.length).length by omega)
      unfold Mg
      simp only [Ah, Ak, Ae, Am]
      rw [Ao (by omega), Ay, Ch hy, Al, Ch hx, Al, Ao (by simp [Am3]; omega), A8, w64 (by omega), A5d, hx, hy]
      rfl)
     (by
      unfold Mg
      simp only [Ah, Ak, Ae, Am]
      rw [Bg (by omega), Ap])
    rw [Bg (by omega), Ap, Bk0 _ _ _ h1 h2 h3, Al, if_pos ⟨h1, h2, h3⟩]
    simp only
    rw [show A0 Mg (p, [], F2 k n p.length, ((F2 k n p.length).length : Int), (0 : Int), ()) = _ from hr]
    rfl
   ·rw [Ao (by omega), Ay, if_neg (by omega)]
  ·rw [Ao (by omega), Ay, if_neg (by omega)]
 ·rw [Ao (by omega), Ay, if_neg (by omega)]
theorem Bit (a b : Int) : Axd a b = Axd b a := by unfold Axd; rw [BitVec.xor_comm]
theorem Bmf (k n p : List YB) : As2 (k, ()) (n, ()) (p, ()) = some (mix k n p, ()) := by
 unfold As2 Ahq mix
 simp only [Ah, Ak, Ae]
 by_cases h1 : p.length ≤ 200
 ·rw [Bg (by omega), Ap]
  by_cases h2 : n.length ≤ 100
  ·rw [Bg (by omega), Ap]
   by_cases h3 : k.length ≤ 1048576
   ·have hs := A1e k n p.length h1 h2 h3
    have hr := C9 (B := L6) p.length (fun i => (p, Adi (F2 k n p.length) p i, F2 k n p.length, (i : Int), ())) (Adi (F2 k n p.length) p p.length, ())
     (fun i hi => by
      have hx := List.getElem?_eq_getElem hi
      have hy := List.getElem?_eq_getElem (show i < (F2 k n p.length).length by omega)
      unfold L6
      simp only [Ah, Ak, Ae, Am]
      rw [Ao (by omega), Ay, Ch hx, Al, Ch hy, Al, Ao (by simp [Am3]; omega), A8, w64 (by omega), A5d, hx, hy]
      rw [Bit]
      rfl)
     (by
      unfold L6
      simp only [Ah, Ak, Ae, Am]
      rw [Bg (by omega), Ap])
    rw [Bg (by omega), Ap, Bk1 _ _ _ h1 h2 h3, Al, if_pos ⟨h1, h2, h3⟩]
    simp only
    rw [show A0 L6 (p, [], F2 k n p.length, (0 : Int), ()) = _ from hr]
    rfl
   ·rw [Ao (by omega), Ay, if_neg (by omega)]
  ·rw [Ao (by omega), Ay, if_neg (by omega)]
 ·rw [Ao (by omega), Ay, if_neg (by omega)]
end
end Go.Proofs.YtggdikabbngbaaaGreat

/-
  That the program and the reference answer alike, in plain terms, and that the laws answer true.
-/
import Derived.Test.YtggdikabbngbaaaL9
namespace Go.Proofs.Ytggdikabbngbaaa
open Go.RowKit
set_option linter.unusedVariables false
set_option linter.unusedSimpArgs false
set_option maxHeartbeats 4000000
noncomputable section
theorem Awi (b : List YB) (h : b.length ≤ 1048576) : (sha b).length = 32 := by
 unfold sha
 rw [if_pos h, T8, (Sd _ Ce _ (Nat.le_refl _) (by decide)).2.1]; rfl
theorem Se (b : List YB) : (sha b).length ≤ 32 := by rcases Ao5 b with h | h <;> omega
def Xk (k : List YB) : List YB := k ++ List.replicate (64 - k.length) ((0 : Int), ())
def Cf (k : List YB) : List YB := Xk (if k.length > 64 then sha k else k)
theorem Zf (k : List YB) (h : k.length ≤ 64) : Ar Ch (k, ()) = some (Xk k, ()) := by
 have hr := Ck (B := Ch) (64 - k.length) (fun i => (k ++ List.replicate i ((0 : Int), ()), ())) (Xk k, ())
  (fun i hi => by
   unfold Ch
   simp only [Ae, Ah, Ad]
   rw [Ak (by simp; omega), Ax, Ak (by simp; omega), A0, List.append_assoc, ← List.replicate_succ'])
  (by
   unfold Ch
   simp only [Ae, Ah, Ad]
   rw [A2 (by simp; omega), Al]; rfl)
 simpa using hr
theorem Aqn (k : List YB) (h : k.length ≤ 64) : (Xk k).length = 64 := by unfold Xk; simp; omega
theorem O4 (k : List YB) : (Cf k).length = 64 := by
 unfold Cf
 refine Aqn _ ?_
 split
 ·have := Se k; omega
 ·omega
theorem Aqo (k : List YB) (h : k.length ≤ 1048576) : N3 (k, ()) = some (Cf k, ()) := by
 unfold N3 Hw Cf
 simp only [Ae, Af, Ad]
 rw [A2 (by omega), Al, Nl _ (by dsimp only; omega), Ag]
 by_cases h1 : k.length > 64
 ·have := Se k
  rw [Ak (by omega), Ax, Aqm _ (by omega), Ag, Zf _ (by omega), if_pos h1]; rfl
 ·rw [A2 (by omega), Al, Zf _ (by omega), if_neg h1]; rfl
theorem Aqp (k : List YB) (h : k.length ≤ 1048576) : Nu (k, ()) = some (Cf k, ()) := by
 unfold Nu Hq Cf
 simp only [Ae, Af, Ad, Ah, List.nil_append, List.length_nil, Nat.zero_add]
 rw [A2 (by omega), Al, Ak (by omega), A0, show Fw = Ch from rfl]
 by_cases h1 : k.length > 64
 ·have := Se k
  rw [Ak (by omega), Ax, Aql, Ag, Zf _ (by omega), if_pos h1]; rfl
 ·rw [A2 (by omega), Al, Zf _ (by omega), if_neg h1]; rfl
def Acm (x c : Int) : YB := (IntKind.u8.wrap ((BitVec.ofInt (IntKind.u8.bits) x ^^^ BitVec.ofInt (IntKind.u8.bits) c).toNat : Nat), ())
def B9 (k : List YB) (c : Int) : List YB := k.map fun x => Acm x.1 c
theorem Dm (k : List YB) (c : Int) : (B9 k c).length = k.length := by simp [B9]
theorem Q7 (k : List YB) (x : YB) (c : Int) : B9 (k ++ [x]) c = B9 k c ++ [Acm x.1 c] := by simp [B9]
theorem Al4 (k : List YB) (c : Int) (h : k.length ≤ 1048576) : M4 (k, ()) (c, ()) = some (B9 k c, ()) := by
 have hr := Ck (B := Eo) k.length (fun i => (c, B9 (k.take i) c, k, (k.length : Int), (i : Int), ())) (B9 k c, ())
  (fun i hi => by
   have hx := List.getElem?_eq_getElem hi
   unfold Eo
   simp only [Ae, Af, Ad, Ah, Cd hi, Ax, A5 hx, Ag]
   rw [Ak (by simp [Dm]; omega), A0, w64 (by omega), ← Ge hx, Q7]
   rfl)
  (by unfold Eo; simp only [Ae, Ad, Cp, Al, List.take_length])
 unfold M4 Kf
 simp only [Af, Ad]
 rw [show Ar Eo (c, [], k, (k.length : Int), (0 : Int), ()) = _ from hr]
 rfl
theorem Avo (m k : List YB) (h : k.length = 64) : Ar Gm (m, k, [], [], (0 : Int), ()) = some (m, B9 k 54, B9 k 92, ()) := by
 have hr := Ck (B := Gm) 64 (fun i => (m, k, B9 (k.take i) 54, B9 (k.take i) 92, (i : Int), ())) (m, B9 k 54, B9 k 92, ())
  (fun i hi => by
   have hx := List.getElem?_eq_getElem (show i < k.length by omega)
   unfold Gm
   simp only [Ae, Af, Ad, Ah]
   rw [Ak (by omega), Ax, A5 hx]
   simp only [Ag]
   rw [Ak (by simp [Dm]; omega), A0, Ak (by simp [Dm]; omega), A0, w64 (by omega), ← Ge hx, Q7, Q7]
   rfl)
  (by unfold Gm; simp only [Ae, Ad, Af, Ah]; rw [A2 (by omega), Al, ← h, List.take_length])
 exact hr
def Do (k m : List YB) : List YB := if k.length > 1048576 then [] else if m.length > 1048512 then [] else sha (B9 (Cf k) 92 ++ sha (B9 (Cf k) 54 ++ m))
theorem Afe (k m : List YB) : K5 (k, ()) (m, ()) = some (Do k m, ()) := by
 have hb := O4 k
 unfold K5 Abi Do
 simp only [Ae, Af, Ad]
 by_cases h1 : k.length > 1048576
 ·rw [Ak (by omega), Ax, if_pos h1]
 rw [A2 (by omega), Al, if_neg h1]
 by_cases h2 : m.length > 1048512
 ·rw [Ak (by omega), Ax, if_pos h2]
 have hs := Se (B9 (Cf k) 54 ++ m)
 rw [A2 (by omega), Al, if_neg h2, Aqo _ (by omega), Ag, Al4 _ _ (by omega), Ag, Al4 _ _ (by omega), Ag, Jm _ (by simp [cat, Dm]; omega) (by simp), Ag,
  show cat [(B9 (Cf k) 54, ()), (m, ())] = B9 (Cf k) 54 ++ m by simp [cat], Aqm _ (by simp [Dm]; omega), Ag, Jm _ (by simp [cat, Dm]; omega) (by simp), Ag,
  show cat [(B9 (Cf k) 92, ()), (sha (B9 (Cf k) 54 ++ m), ())] = B9 (Cf k) 92 ++ sha (B9 (Cf k) 54 ++ m) by simp [cat], Aqm _ (by simp [Dm]; omega), Ag]
theorem Aff (k m : List YB) : K4 (k, ()) (m, ()) = some (Do k m, ()) := by
 have hb := O4 k
 unfold K4 Nv Do
 simp only [Ae, Af, Ad, Ah]
 by_cases h1 : k.length > 1048576
 ·rw [Ak (by omega), Ax, if_pos h1]
 rw [A2 (by omega), Al, if_neg h1]
 by_cases h2 : m.length > 1048512
 ·rw [Ak (by omega), Ax, if_pos h2]
 have hs := Se (B9 (Cf k) 54 ++ m)
 rw [A2 (by omega), Al, if_neg h2, Aqp _ (by omega), Ag, Avo _ _ hb, Ag]
 simp only
 rw [Ak (by simp [Dm]; omega), A0, Aql, Ag, Ak (by simp [Dm]; omega), A0, Aql, Ag]
theorem Al5 (k m : List YB) : (Do k m).length = 32 ∨ (Do k m).length = 0 := by
 unfold Do
 split
 ·exact .inr rfl
 split
 ·exact .inr rfl
 exact Ao5 _
theorem Ahk (k m : List YB) (h1 : k.length ≤ 1048576) (h2 : m.length ≤ 1048512) : (Do k m).length = 32 := by
 have hb := O4 k
 have hs := Se (B9 (Cf k) 54 ++ m)
 unfold Do
 rw [if_neg (by omega), if_neg (by omega)]
 exact Awi _ (by simp [Dm]; omega)
def Ahl (k m : List YB) : List YB := (Do k m).take 16
theorem Aw8 (k m : List YB) : Agk (k, ()) (m, ()) = some (Ahl k m, ()) := by
 unfold Agk Agj Ahl
 simp only [Ae, Af, Ad, Ah, Afe, Ag]
 rcases Al5 k m with h | h
 ·rw [Ew (by simp [h]), Ak (by omega), A0]
  simp only [show (16 : Int).toNat = 16 from rfl, show (0 : Int).toNat = 0 from rfl, List.drop_zero]
  rw [Nl _ (by simp; omega), Ag]
 ·rw [M7 (by simp [h]), List.eq_nil_of_length_eq_zero h]; rfl
theorem Aw9 (k m : List YB) : Agd (k, ()) (m, ()) = some (Ahl k m, ()) := by
 unfold Agd Agc Ahl
 simp only [Ae, Af, Ad, Ah, Aff, Ag, List.nil_append, List.length_nil, Nat.zero_add]
 rcases Al5 k m with h | h
 ·rw [A2 (by omega), Al, Ak (by omega), A0]
  simp only [show (16 : Int).toNat = 16 from rfl, show (0 : Int).toNat = 0 from rfl, List.drop_zero]
  rw [Ak (by simp; omega), A0]
 ·rw [Ak (by omega), Ax, List.eq_nil_of_length_eq_zero h]; rfl
def J1 (k n : List YB) (i : Int) : List YB := if inR i 0 6 = true ∧ n.length ≤ 100 then Do k ((((115 : Int), ()) :: n) ++ Es i 4 4) else []
theorem Ash (k n : List YB) (i : Int) : Ql (k, ()) (n, ()) (i, ()) = some (J1 k n i, ()) := by
 unfold Ql Qk J1
 simp only [Ae, Af, Ad, Jl, Ag]
 cases hi : inR i 0 6 with
 | false => simp [br]
 | true =>
  simp only [Bool.not_true, Al]
  by_cases hn : n.length ≤ 100
  ·rw [A2 (by omega), Al, Jm _ (by simp [cat]; omega) (by simp), Ag, show cat [([((115 : Int), ())], ()), (n, ())] = ((115 : Int), ()) :: n by simp [cat], Ao2 _ _ (by simp; omega), Ag, Afe, Ag, if_pos ⟨trivial, hn⟩]
  ·rw [Ak (by omega), Ax, if_neg (fun h => hn h.2)]
theorem Asi (k n : List YB) (i : Int) : Qf (k, ()) (n, ()) (i, ()) = some (J1 k n i, ()) := by
 unfold Qf Qe J1
 simp only [Ae, Af, Ad, Ah, Xh, Ag]
 cases hi : inR i 0 6 with
 | false => simp [br]
 | true =>
  simp only [Bool.not_true, Al]
  by_cases hn : n.length ≤ 100
  ·rw [A2 (by omega), Al, Ak (by simp; omega), A0, Ze _ _ (by simp; omega), Ag, Aff, Ag, if_pos ⟨trivial, hn⟩]; rfl
  ·rw [Ak (by omega), Ax, if_neg (fun h => hn h.2)]
theorem T9 (k n : List YB) (i : Int) (h0 : 0 ≤ i) (h1 : i ≤ 6) (hn : n.length ≤ 100) (hk : k.length ≤ 1048576) : (J1 k n i).length = 32 := by
 unfold J1
 rw [if_pos ⟨Sc.2 ⟨h0, h1⟩, hn⟩]
 exact Ahk _ _ hk (by simp [O0]; omega)
def blocks (k n : List YB) (i : Nat) : List YB := (List.range i).flatMap fun (j : Nat) => J1 k n (j : Int)
theorem Q8 (k n : List YB) (i : Nat) : blocks k n (i + 1) = blocks k n i ++ J1 k n (i : Int) := by unfold blocks; rw [List.range_succ, List.flatMap_append]; simp
theorem Kp (k n : List YB) (i : Nat) (h : i ≤ 7) (hn : n.length ≤ 100) (hk : k.length ≤ 1048576) : (blocks k n i).length = 32 * i := by
 induction i with
 | zero => rfl
 | succ i ih => rw [Q8, List.length_append, ih (by omega), T9 _ _ _ (by omega) (by omega) hn hk]; omega
def Dp (k n : List YB) (m : Nat) : List YB := (blocks k n ((m + 31) / 32)).take m
theorem Afg (k n : List YB) (m : Nat) (hm : m ≤ 200) (hn : n.length ≤ 100) (hk : k.length ≤ 1048576) : (Dp k n m).length = m := by
 unfold Dp
 rw [List.length_take, Kp _ _ _ (by omega) hn hk]; omega
theorem Atx (k n : List YB) (m : Nat) (hm : m ≤ 200) (hn : n.length ≤ 100) (hk : k.length ≤ 1048576) : Tg (k, ()) (n, ()) ((m : Int), ()) = some (Dp k n m, ()) := by
 have hbl := Kp k n ((m + 31) / 32) (by omega) hn hk
 have hr := Ck (B := Er) ((m + 31) / 32) (fun i => (k, n, (m : Int), blocks k n i, (i : Int), ())) ((m : Int), blocks k n ((m + 31) / 32), ())
  (fun i hi => by
   have hl := Kp k n i (by omega) hn hk
   have hl2 := T9 k n (i : Int) (by omega) (by omega) hn hk
   unfold Er
   simp only [Ae, Af, Ad, Ah]
   rw [Ak (by omega), Ax, Ash, Ag, Ak (by dsimp only; omega), A0, w64 (by omega), Q8]
   rfl)
  (by
   unfold Er
   simp only [Ae, Af, Ad, Ah]
   rw [A2 (by omega), Al])
 unfold Tg Kh
 simp only [Ae, Af, Ad, Ah, Jl, Ag]
 rw [Ew (by simp [inR]; omega), A2 (by omega), Al, A2 (by omega), Al, show Ar Er (k, n, (m : Int), [], (0 : Int), ()) = _ from hr, Ag]
 simp only [Int.toNat_natCast, show (0 : Int).toNat = 0 from rfl, List.drop_zero]
 rw [Ak (by omega), A0, Ak (by omega), A0, Nl _ (by simp; omega), Ag]
 rfl
theorem Aty (k n : List YB) (m : Nat) (hm : m ≤ 200) (hn : n.length ≤ 100) (hk : k.length ≤ 1048576) : S7 (k, ()) (n, ()) ((m : Int), ()) = some (Dp k n m, ()) := by
 have hbl := Kp k n ((m + 31) / 32) (by omega) hn hk
 have hr := Ck (B := Em) ((m + 31) / 32) (fun i => (k, n, (m : Int), blocks k n i, (i : Int), ())) ((m : Int), blocks k n ((m + 31) / 32), ())
  (fun i hi => by
   have hl := Kp k n i (by omega) hn hk
   have hl2 := T9 k n (i : Int) (by omega) (by omega) hn hk
   unfold Em
   simp only [Ae, Af, Ad, Ah]
   rw [Ak (by omega), Ax, Asi, Ag, Ak (by dsimp only; omega), A0, w64 (by omega), Q8]
   rfl)
  (by
   unfold Em
   simp only [Ae, Af, Ad, Ah]
   rw [A2 (by omega), Al])
 unfold S7 Kc
 simp only [Ae, Af, Ad, Ah, Xh, Ag]
 rw [Ew (by simp [inR]; omega), A2 (by omega), Al, A2 (by omega), Al, show Ar Em (k, n, (m : Int), [], (0 : Int), ()) = _ from hr, Ag]
 simp only [Int.toNat_natCast, show (0 : Int).toNat = 0 from rfl, List.drop_zero, List.nil_append, List.length_nil, Nat.zero_add]
 rw [Ak (by omega), A0, Ak (by omega), A0, Ak (by simp; omega), A0]
 rfl
def Q9 (st p : List YB) (i : Nat) : List YB := (List.range i).map fun j => Acm (st[j]?.getD (0, ())).1 (p[j]?.getD (0, ())).1
theorem Ai8 (st p : List YB) (i : Nat) : Q9 st p (i + 1) = Q9 st p i ++ [Acm (st[i]?.getD (0, ())).1 (p[i]?.getD (0, ())).1] := by unfold Q9; rw [List.range_succ, List.map_append]; rfl
theorem Al6 (st p : List YB) (i : Nat) : (Q9 st p i).length = i := by simp [Q9]
def mix (k n p : List YB) : List YB := if p.length ≤ 200 ∧ n.length ≤ 100 ∧ k.length ≤ 1048576 then Q9 (Dp k n p.length) p p.length else []
theorem Axa (k n p : List YB) : Agl (k, ()) (n, ()) (p, ()) = some (mix k n p, ()) := by
 unfold Agl Rn mix
 simp only [Ae, Af, Ad]
 by_cases h1 : p.length ≤ 200
 ·rw [A2 (by omega), Al]
  by_cases h2 : n.length ≤ 100
  ·rw [A2 (by omega), Al]
   by_cases h3 : k.length ≤ 1048576
   ·have hs := Afg k n p.length h1 h2 h3
    have hr := Ck (B := Hx) p.length (fun i => (p, Q9 (Dp k n p.length) p i, Dp k n p.length, ((Dp k n p.length).length : Int), (i : Int), ())) (Q9 (Dp k n p.length) p p.length, ())
     (fun i hi => by
      have hx := List.getElem?_eq_getElem hi
      have hy := List.getElem?_eq_getElem (show i < (Dp k n p.length).length by omega)
      unfold Hx
      simp only [Ae, Af, Ad, Ah]
      rw [Ak (by omega), Ax, A5 hy, Ag, A5 hx, Ag, Ak (by simp [Al6]; omega), A0, w64 (by omega), Ai8, hx, hy]
      rfl)
     (by
      unfold Hx
      simp only [Ae, Af, Ad, Ah]
      rw [A2 (by omega), Al])
    rw [A2 (by omega), Al, Atx _ _ _ h1 h2 h3, Ag, if_pos ⟨h1, h2, h3⟩]
    simp only
    rw [show Ar Hx (p, [], Dp k n p.length, ((Dp k n p.length).length : Int), (0 : Int), ()) = _ from hr]
    rfl
   ·rw [Ak (by omega), Ax, if_neg (by omega)]
  ·rw [Ak (by omega), Ax, if_neg (by omega)]
 ·rw [Ak (by omega), Ax, if_neg (by omega)]
theorem Asj (a b : Int) : Acm a b = Acm b a := by unfold Acm; rw [BitVec.xor_comm]
theorem Axb (k n p : List YB) : Age (k, ()) (n, ()) (p, ()) = some (mix k n p, ()) := by
 unfold Age Rk mix
 simp only [Ae, Af, Ad]
 by_cases h1 : p.length ≤ 200
 ·rw [A2 (by omega), Al]
  by_cases h2 : n.length ≤ 100
  ·rw [A2 (by omega), Al]
   by_cases h3 : k.length ≤ 1048576
   ·have hs := Afg k n p.length h1 h2 h3
    have hr := Ck (B := Hr) p.length (fun i => (p, Q9 (Dp k n p.length) p i, Dp k n p.length, (i : Int), ())) (Q9 (Dp k n p.length) p p.length, ())
     (fun i hi => by
      have hx := List.getElem?_eq_getElem hi
      have hy := List.getElem?_eq_getElem (show i < (Dp k n p.length).length by omega)
      unfold Hr
      simp only [Ae, Af, Ad, Ah]
      rw [Ak (by omega), Ax, A5 hx, Ag, A5 hy, Ag, Ak (by simp [Al6]; omega), A0, w64 (by omega), Ai8, hx, hy]
      rw [Asj]
      rfl)
     (by
      unfold Hr
      simp only [Ae, Af, Ad, Ah]
      rw [A2 (by omega), Al])
    rw [A2 (by omega), Al, Aty _ _ _ h1 h2 h3, Ag, if_pos ⟨h1, h2, h3⟩]
    simp only
    rw [show Ar Hr (p, [], Dp k n p.length, (0 : Int), ()) = _ from hr]
    rfl
   ·rw [Ak (by omega), Ax, if_neg (by omega)]
  ·rw [Ak (by omega), Ax, if_neg (by omega)]
 ·rw [Ak (by omega), Ax, if_neg (by omega)]
end
end Go.Proofs.Ytggdikabbngbaaa

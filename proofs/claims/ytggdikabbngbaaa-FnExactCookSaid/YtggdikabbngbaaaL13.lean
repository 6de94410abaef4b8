/-
  That the program and the reference answer alike, in plain terms, and that the laws answer true.
-/
import Derived.Test.YtggdikabbngbaaaL12
namespace Go.Proofs.Ytggdikabbngbaaa
open Go.RowKit
set_option linter.unusedVariables false
set_option linter.unusedSimpArgs false
set_option maxRecDepth 100000
set_option maxHeartbeats 4000000
noncomputable section
def Jn (k l : List YB) : List YB × Bool := if l.length ≤ 100 ∧ k.length ≤ 1048576 then (Do k (l ++ [((1 : Int), ())]), true) else ([], false)
theorem Aqq (k l : List YB) : Te (k, ()) (l, ()) ((32 : Int), ()) = some (((Jn k l).1, ()), ((Jn k l).2, ())) := by
 unfold Te Kg Jn
 simp only [Ae, Af, Ad, Ah, Jl, Ag]
 rw [Ew (by decide)]
 by_cases hl : l.length ≤ 100
 ·rw [A2 (by omega), Al]
  by_cases hk : k.length ≤ 1048576
  ·rw [A2 (by omega), Al, if_pos ⟨hl, hk⟩]
   have h32 : (Do k (l ++ [((1 : Int), ())])).length = 32 := Ahk _ _ hk (by simp; omega)
   have e1 : Ep (k, l, (32 : Int), [], [], (1 : Int), ()) = some (.inl (k, l, (32 : Int), Do k (l ++ [((1 : Int), ())]), Do k (l ++ [((1 : Int), ())]), (2 : Int), ())) := by
    unfold Ep
    simp only [Ae, Af, Ad, Ah]
    rw [Ak (by simp), Ax, Jm _ (by simp [cat]; omega) (by simp), Ag, show cat [([], ()), (l, ()), ([(IntKind.u8.wrap 1, ())], ())] = l ++ [((1 : Int), ())] by simp [cat]; rfl, Afe, Ag, Ak (by dsimp only [List.length_nil]; omega), A0, List.nil_append]
    rfl
   have e2 : Ep (k, l, (32 : Int), Do k (l ++ [((1 : Int), ())]), Do k (l ++ [((1 : Int), ())]), (2 : Int), ()) = some (.inr ((32 : Int), Do k (l ++ [((1 : Int), ())]), ())) := by
    unfold Ep
    simp only [Ae, Af, Ad, Ah]
    rw [A2 (by omega), Al]
   rw [Bh, e1]
   simp only
   rw [Bh, e2]
   simp only [Ag]
   rw [Ak (by omega), A0, Ak (by omega), A0, show (32 : Int).toNat = 32 from rfl, show (0 : Int).toNat = 0 from rfl, List.drop_zero, List.take_of_length_le (by omega), Nl _ (by dsimp only; omega), Ag]
  ·rw [Ak (by omega), Ax, if_neg (fun h => hk h.2)]
 ·rw [Ak (by omega), Ax, if_neg (fun h => hl h.1)]
theorem Aqr (k l : List YB) : S5 (k, ()) (l, ()) ((32 : Int), ()) = some (((Jn k l).1, ()), ((Jn k l).2, ())) := by
 unfold S5 Kb Jn
 simp only [Ae, Af, Ad, Ah, Xh, Ag, List.nil_append, List.length_nil, Nat.zero_add]
 rw [Ew (by decide)]
 by_cases hl : l.length ≤ 100
 ·rw [A2 (by omega), Al]
  by_cases hk : k.length ≤ 1048576
  ·rw [A2 (by omega), Al, if_pos ⟨hl, hk⟩]
   have h32 : (Do k (l ++ [((1 : Int), ())])).length = 32 := Ahk _ _ hk (by simp; omega)
   have e1 : El (k, l, (32 : Int), [], [], (1 : Int), ()) = some (.inl (k, l, (32 : Int), Do k (l ++ [((1 : Int), ())]), Do k (l ++ [((1 : Int), ())]), (2 : Int), ())) := by
    unfold El
    simp only [Ae, Af, Ad, Ah, List.nil_append, List.length_nil, Nat.zero_add]
    rw [Ak (by simp), Ax, Ak (by omega), A0, Ak (by omega), A0, Ak (by simp; omega), A0, show (IntKind.u8.wrap 1 : Int) = 1 from rfl, Aff, Ag, Ak (by dsimp only; omega), A0]
    rfl
   have e2 : El (k, l, (32 : Int), Do k (l ++ [((1 : Int), ())]), Do k (l ++ [((1 : Int), ())]), (2 : Int), ()) = some (.inr ((32 : Int), Do k (l ++ [((1 : Int), ())]), ())) := by
    unfold El
    simp only [Ae, Af, Ad, Ah]
    rw [A2 (by omega), Al]
   rw [Bh, e1]
   simp only
   rw [Bh, e2]
   simp only [Ag]
   rw [Ak (by omega), A0, Ak (by omega), A0, show (32 : Int).toNat = 32 from rfl, show (0 : Int).toNat = 0 from rfl, List.drop_zero, List.take_of_length_le (by omega), Ak (by omega), A0]
  ·rw [Ak (by omega), Ax, if_neg (fun h => hk h.2)]
 ·rw [Ak (by omega), Ax, if_neg (fun h => hl h.1)]
def Sf (k l : List YB) : List YB := (Jn k l).1
theorem Atz (k : List YB) (b : ByteArray) (h : b.size ≤ 4294967296) : M5 (k, ()) (b, ()) = some (Sf k (Mf b), ()) := by
 unfold M5 Tf
 simp only [Af, Ad, Ah]
 rw [Ak h, A0, Aqq, Ag]; rfl
theorem At0 (k : List YB) (b : ByteArray) (h : b.size ≤ 4294967296) : Mz (k, ()) (b, ()) = some (Sf k (Mf b), ()) := by
 unfold Mz S6
 simp only [Af, Ad, Ah]
 rw [Ak h, A0, Aqr, Ag]; rfl
def Afh : List YB := Mf (Nw [114, 101, 107, 101, 121])
theorem Ask (k : List YB) : M5 (k, ()) (Nw [114, 101, 107, 101, 121], ()) = some (Sf k Afh, ()) := Atz k _ (by decide)
theorem Asl (k : List YB) : Mz (k, ()) (Nw [114, 101, 107, 101, 121], ()) = some (Sf k Afh, ()) := At0 k _ (by decide)
end
end Go.Proofs.Ytggdikabbngbaaa

/-
  That the program and the reference answer alike, in plain terms, and that the laws answer true.
-/
import Derived.Test.YtggdikabbngbaaaGreatL12
namespace Go.Proofs.YtggdikabbngbaaaGreat
open Go.RowKit
set_option linter.unusedVariables false
set_option linter.unusedSimpArgs false
set_option maxRecDepth 100000
set_option maxHeartbeats 4000000
noncomputable section
def Ob (k l : List YB) : List YB × Bool := if l.length ≤ 100 ∧ k.length ≤ 1048576 then (Ha k (l ++ [((1 : Int), ())]), true) else ([], false)
theorem Bhz (k l : List YB) : Ajw (k, ()) (l, ()) ((32 : Int), ()) = some (((Ob k l).1, ()), ((Ob k l).2, ())) := by
 unfold Ajw Sp Ob
 simp only [Ae, Ag, Ab, Ai, C9, Ah]
 rw [Dw (by decide)]
 by_cases hl : l.length ≤ 100
 ·rw [Bm (by omega), An]
  by_cases hk : k.length ≤ 1048576
  ·rw [Bm (by omega), An, if_pos ⟨hl, hk⟩]
   have h32 : (Ha k (l ++ [((1 : Int), ())])).length = 32 := As2 _ _ hk (by simp; omega)
   have e1 : H6 (k, l, (32 : Int), [], [], (1 : Int), ()) = some (.inl (k, l, (32 : Int), Ha k (l ++ [((1 : Int), ())]), Ha k (l ++ [((1 : Int), ())]), (2 : Int), ())) := by
    unfold H6
    simp only [Ae, Ag, Ab, Ai]
    rw [Ao (by simp), A3, N8 _ (by simp [cat]; omega) (by simp), Ah, show cat [([], ()), (l, ()), ([(IntKind.u8.wrap 1, ())], ())] = l ++ [((1 : Int), ())] by simp [cat]; rfl, Ba6, Ah, Ao (by dsimp only [List.length_nil]; omega), A8, List.nil_append]
    rfl
   have e2 : H6 (k, l, (32 : Int), Ha k (l ++ [((1 : Int), ())]), Ha k (l ++ [((1 : Int), ())]), (2 : Int), ()) = some (.inr ((32 : Int), Ha k (l ++ [((1 : Int), ())]), ())) := by
    unfold H6
    simp only [Ae, Ag, Ab, Ai]
    rw [Bm (by omega), An]
   rw [Ce, e1]
   simp only
   rw [Ce, e2]
   simp only [Ah]
   rw [Ao (by omega), A8, Ao (by omega), A8, show (32 : Int).toNat = 32 from rfl, show (0 : Int).toNat = 0 from rfl, List.drop_zero, List.take_of_length_le (by omega), Dn _ (by dsimp only; omega), Ah]
  ·rw [Ao (by omega), A3, if_neg (fun h => hk h.2)]
 ·rw [Ao (by omega), A3, if_neg (fun h => hl h.1)]
theorem Bh0 (k l : List YB) : Ai1 (k, ()) (l, ()) ((32 : Int), ()) = some (((Ob k l).1, ()), ((Ob k l).2, ())) := by
 unfold Ai1 Sa Ob
 simp only [Ae, Ag, Ab, Ai, Dm, Ah, List.nil_append, List.length_nil, Nat.zero_add]
 rw [Dw (by decide)]
 by_cases hl : l.length ≤ 100
 ·rw [Bm (by omega), An]
  by_cases hk : k.length ≤ 1048576
  ·rw [Bm (by omega), An, if_pos ⟨hl, hk⟩]
   have h32 : (Ha k (l ++ [((1 : Int), ())])).length = 32 := As2 _ _ hk (by simp; omega)
   have e1 : H0 (k, l, (32 : Int), [], [], (1 : Int), ()) = some (.inl (k, l, (32 : Int), Ha k (l ++ [((1 : Int), ())]), Ha k (l ++ [((1 : Int), ())]), (2 : Int), ())) := by
    unfold H0
    simp only [Ae, Ag, Ab, Ai, List.nil_append, List.length_nil, Nat.zero_add]
    rw [Ao (by simp), A3, Ao (by omega), A8, Ao (by omega), A8, Ao (by simp; omega), A8, show (IntKind.u8.wrap 1 : Int) = 1 from rfl, Ba7, Ah, Ao (by dsimp only; omega), A8]
    rfl
   have e2 : H0 (k, l, (32 : Int), Ha k (l ++ [((1 : Int), ())]), Ha k (l ++ [((1 : Int), ())]), (2 : Int), ()) = some (.inr ((32 : Int), Ha k (l ++ [((1 : Int), ())]), ())) := by
    unfold H0
    simp only [Ae, Ag, Ab, Ai]
    rw [Bm (by omega), An]
   rw [Ce, e1]
   simp only
   rw [Ce, e2]
   simp only [Ah]
   rw [Ao (by omega), A8, Ao (by omega), A8, show (32 : Int).toNat = 32 from rfl, show (0 : Int).toNat = 0 from rfl, List.drop_zero, List.take_of_length_le (by omega), Ao (by omega), A8]
  ·rw [Ao (by omega), A3, if_neg (fun h => hk h.2)]
 ·rw [Ao (by omega), A3, if_neg (fun h => hl h.1)]
def Tm (k l : List YB) : List YB := (Ob k l).1
theorem Bl9 (k : List YB) (b : ByteArray) (h : b.size ≤ 4294967296) : Xy (k, ()) (b, ()) = some (Tm k (Wj b), ()) := by
 unfold Xy Ajx
 simp only [Ag, Ab, Ai]
 rw [Ao h, A8, Bhz, Ah]; rfl
theorem Bma (k : List YB) (b : ByteArray) (h : b.size ≤ 4294967296) : Xr (k, ()) (b, ()) = some (Tm k (Wj b), ()) := by
 unfold Xr Ai2
 simp only [Ag, Ab, Ai]
 rw [Ao h, A8, Bh0, Ah]; rfl
def Arq : List YB := Wj (Z1 [114, 101, 107, 101, 121])
theorem Bj7 (k : List YB) : Xy (k, ()) (Z1 [114, 101, 107, 101, 121], ()) = some (Tm k Arq, ()) := Bl9 k _ (by decide)
theorem Bj8 (k : List YB) : Xr (k, ()) (Z1 [114, 101, 107, 101, 121], ()) = some (Tm k Arq, ()) := Bma k _ (by decide)
theorem Axj : Aiz = Xs := by
 have hr := Da (B := Hw) 32 (fun i => ((i : Int), (0 : Int), ([] : List YI), (-1 : Int), List.replicate i ((0 : Int), ()), ())) ((0 : Int), ([] : List YI), (-1 : Int), List.replicate 32 ((0 : Int), ()), ())
  (fun i hi => by
   unfold Hw
   simp only [Ae, Ai, Ab]
   rw [Ao (by omega), A3, Ao (by simp; omega), A8, w64 (by omega), List.replicate_succ']
   rfl)
  (by
   unfold Hw
   simp only [Ae, Ai, Ab]
   rw [Bm (by omega), An])
 unfold Aiz R6 Xs Aji
 simp only [Ag, Ab]
 rw [show Ay Hw ((0 : Int), (0 : Int), ([] : List YI), (-1 : Int), ([] : List YI), ()) = _ from hr, Ah]
 rfl
def A1v : Bo := ((-1 : Int), List.replicate 32 ((0 : Int), ()), ())
theorem Axk : Xs = some A1v := rfl
theorem Bba (n : YI) (k : YBs) : ∃ r, Nd n k = some r ∧ K4 n k = some r ∧ Bb r ≤ 64 := by
 unfold Nd Ab7 K4 Vw
 simp only [Ae, Ag, Ab, Ai, C9, Dm, Ah, Axj, Axk, List.nil_append, List.length_nil, Nat.zero_add]
 cases inR n.1 0 4294967295 with
 | false => exact ⟨_, rfl, rfl, by decide⟩
 | true =>
  simp only [Bool.not_true, An]
  by_cases h : k.1.length = 32
  ·have q : ((k.1.length : Int) != 32) = false := by simp [h]
   rw [q, Dn k (by omega), Ao (by omega)]
   simp only [An, Ah, A8]
   refine ⟨_, rfl, rfl, ?_⟩
   simp only [Bb, A1v, List.length_replicate]; omega
  ·have q : ((k.1.length : Int) != 32) = true := by simp; omega
   rw [q]
   exact ⟨_, rfl, rfl, by decide⟩
end
end Go.Proofs.YtggdikabbngbaaaGreat

/-
  That the program and the reference answer alike, in plain terms, and that the laws answer true.
-/
import Derived.Test.YtggdikabbngbaaaGreatL12
namespace Go.Proofs.YtggdikabbngbaaaGreat
open Go.RowKit
set_option linter.unusedVariables false
set_option linter.unusedSimpArgs false
set_option maxRecDepth 100000
set_option maxHeartbeats 4000000
noncomputable section
def K1 (k l : List YB) : List YB × Bool := if l.length ≤ 100 ∧ k.length ≤ 1048576 then (Fm k (l ++ [((1 : Int), ())]), true) else ([], false)
theorem Bgk (k l : List YB) : Ak7 (k, ()) (l, ()) ((32 : Int), ()) = some (((K1 k l).1, ()), ((K1 k l).2, ())) := by
 unfold Ak7 Qz K1
 simp only [Ah, Ak, Ae, Am, Cq, Al]
 rw [Cg (by decide)]
 by_cases hl : l.length ≤ 100
 ·rw [Bg (by omega), Ap]
  by_cases hk : k.length ≤ 1048576
  ·rw [Bg (by omega), Ap, if_pos ⟨hl, hk⟩]
   have h32 : (Fm k (l ++ [((1 : Int), ())])).length = 32 := Tf _ _ hk (by simp; omega)
   have e1 : Hm (k, l, (32 : Int), [], [], (1 : Int), ()) = some (.inl (k, l, (32 : Int), Fm k (l ++ [((1 : Int), ())]), Fm k (l ++ [((1 : Int), ())]), (2 : Int), ())) := by
    unfold Hm
    simp only [Ah, Ak, Ae, Am]
    rw [Ao (by simp), Ay, Jh _ (by simp [cat]; omega) (by simp), Al, show cat [([], ()), (l, ()), ([(IntKind.u8.wrap 1, ())], ())] = l ++ [((1 : Int), ())] by simp [cat]; rfl, Ar9, Al, Ao (by dsimp only [List.length_nil]; omega), A8, List.nil_append]
    rfl
   have e2 : Hm (k, l, (32 : Int), Fm k (l ++ [((1 : Int), ())]), Fm k (l ++ [((1 : Int), ())]), (2 : Int), ()) = some (.inr ((32 : Int), Fm k (l ++ [((1 : Int), ())]), ())) := by
    unfold Hm
    simp only [Ah, Ak, Ae, Am]
    rw [Bg (by omega), Ap]
   rw [Cj, e1]
   simp only
   rw [Cj, e2]
   simp only [Al]
   rw [Ao (by omega), A8, Ao (by omega), A8, show (32 : Int).toNat = 32 from rfl, show (0 : Int).toNat = 0 from rfl, List.drop_zero, List.take_of_length_le (by omega), Cz _ (by dsimp only; omega), Al]
  ·rw [Ao (by omega), Ay, if_neg (fun h => hk h.2)]
 ·rw [Ao (by omega), Ay, if_neg (fun h => hl h.1)]
theorem Bgl (k l : List YB) : Ake (k, ()) (l, ()) ((32 : Int), ()) = some (((K1 k l).1, ()), ((K1 k l).2, ())) := by
 unfold Ake Qo K1
 simp only [Ah, Ak, Ae, Am, C6, Al, List.nil_append, List.length_nil, Nat.zero_add]
 rw [Cg (by decide)]
 by_cases hl : l.length ≤ 100
 ·rw [Bg (by omega), Ap]
  by_cases hk : k.length ≤ 1048576
  ·rw [Bg (by omega), Ap, if_pos ⟨hl, hk⟩]
   have h32 : (Fm k (l ++ [((1 : Int), ())])).length = 32 := Tf _ _ hk (by simp; omega)
   have e1 : He (k, l, (32 : Int), [], [], (1 : Int), ()) = some (.inl (k, l, (32 : Int), Fm k (l ++ [((1 : Int), ())]), Fm k (l ++ [((1 : Int), ())]), (2 : Int), ())) := by
    unfold He
    simp only [Ah, Ak, Ae, Am, List.nil_append, List.length_nil, Nat.zero_add]
    rw [Ao (by simp), Ay, Ao (by omega), A8, Ao (by omega), A8, Ao (by simp; omega), A8, show (IntKind.u8.wrap 1 : Int) = 1 from rfl, Asa, Al, Ao (by dsimp only; omega), A8]
    rfl
   have e2 : He (k, l, (32 : Int), Fm k (l ++ [((1 : Int), ())]), Fm k (l ++ [((1 : Int), ())]), (2 : Int), ()) = some (.inr ((32 : Int), Fm k (l ++ [((1 : Int), ())]), ())) := by
    unfold He
    simp only [Ah, Ak, Ae, Am]
    rw [Bg (by omega), Ap]
   rw [Cj, e1]
   simp only
   rw [Cj, e2]
   simp only [Al]
   rw [Ao (by omega), A8, Ao (by omega), A8, show (32 : Int).toNat = 32 from rfl, show (0 : Int).toNat = 0 from rfl, List.drop_zero, List.take_of_length_le (by omega), Ao (by omega), A8]
  ·rw [Ao (by omega), Ay, if_neg (fun h => hk h.2)]
 ·rw [Ao (by omega), Ay, if_neg (fun h => hl h.1)]
def Ix (k l : List YB) : List YB := (K1 k l).1
theorem A1g (k l : List YB) : (Ix k l).length = 32 ∨ (Ix k l).length = 0 := by
 unfold Ix K1
 split
 ·exact Am1 _ _
 ·right; rfl
theorem Axg (k : List YB) (b : ByteArray) (h : b.size ≤ 4294967296) : Ky (k, ()) (b, ()) = some (Ix k (Qp b), ()) := by
 unfold Ky Ak8
 simp only [Ak, Ae, Am]
 rw [Ao h, A8, Bgk, Al]; rfl
theorem Axh (k : List YB) (b : ByteArray) (h : b.size ≤ 4294967296) : Kt (k, ()) (b, ()) = some (Ix k (Qp b), ()) := by
 unfold Kt Akf
 simp only [Ak, Ae, Am]
 rw [Ao h, A8, Bgl, Al]; rfl
def A93 : List YB := Qp (Fg [114, 101, 107, 101, 121])
def A94 : List YB := Qp (Fg [101, 112, 111, 99, 104])
theorem Biv (k : List YB) : Ky (k, ()) (Fg [114, 101, 107, 101, 121], ()) = some (Ix k A93, ()) := Axg k _ (by decide)
theorem Biw (k : List YB) : Kt (k, ()) (Fg [114, 101, 107, 101, 121], ()) = some (Ix k A93, ()) := Axh k _ (by decide)
theorem Bix (k : List YB) : Ky (k, ()) (Fg [101, 112, 111, 99, 104], ()) = some (Ix k A94, ()) := Axg k _ (by decide)
theorem Biy (k : List YB) : Kt (k, ()) (Fg [101, 112, 111, 99, 104], ()) = some (Ix k A94, ()) := Axh k _ (by decide)
def Ajg (k : List YB) : Nat → List YB
 | 0 => k
 | n + 1 => Ix (Ajg k n) A93
def Adj (k : List YB) (n : Int) : List YB := if 0 ≤ n ∧ n ≤ 64 then Ajg k n.toNat else []
theorem Bmz (k : List YB) (n : Int) (h : k.length ≤ 4294967296) : Ape (k, ()) (n, ()) = some (Adj k n, ()) := by
 unfold Ape Uu Adj
 simp only [Ah, Ak, Ae, Cq, Al]
 by_cases hn : 0 ≤ n ∧ n ≤ 64
 ·obtain ⟨m, rfl⟩ := Int.eq_ofNat_of_zero_le hn.1
  have hr := C9 (B := Jc) m (fun i => ((m : Int), Ajg k i, (i : Int), ())) (Ajg k m, ())
   (fun i hi => by
    unfold Jc
    simp only [Ah, Ak, Ae]
    rw [Ao (by omega), Ay, Biv, Al, w64 (by omega)]
    rfl)
   (by
    unfold Jc
    simp only [Ah, Ak, Ae]
    rw [Bg (by omega), Ap])
  rw [Cg (by simp [inR]; omega), Cz _ h, Al, if_pos hn]
  rw [show A0 Jc ((m : Int), k, (0 : Int), ()) = _ from hr, Al]
  rfl
 ·rw [if_neg hn, Dq (by simp [inR]; omega)]
theorem Bm0 (k : List YB) (n : Int) (h : k.length ≤ 4294967296) : Ao7 (k, ()) (n, ()) = some (Adj k n, ()) := by
 unfold Ao7 Ug Adj
 simp only [Ah, Ak, Ae, Am, C6, Al, List.nil_append, List.length_nil, Nat.zero_add]
 by_cases hn : 0 ≤ n ∧ n ≤ 64
 ·obtain ⟨m, rfl⟩ := Int.eq_ofNat_of_zero_le hn.1
  have hr := C9 (B := I9) m (fun i => ((m : Int), Ajg k i, (i : Int), ())) (Ajg k m, ())
   (fun i hi => by
    unfold I9
    simp only [Ah, Ak, Ae]
    rw [Ao (by omega), Ay, Biw, Al, w64 (by omega)]
    rfl)
   (by
    unfold I9
    simp only [Ah, Ak, Ae]
    rw [Bg (by omega), Ap])
  rw [Cg (by simp [inR]; omega), Ao h, A8, if_pos hn]
  rw [show A0 I9 ((m : Int), k, (0 : Int), ()) = _ from hr, Al]
  rfl
 ·rw [if_neg hn, Dq (by simp [inR]; omega)]
def Fa (p a b : List YB) : List YB := if inR (p.length : Int) 1 32 = true ∧ a.length = 12 ∧ b.length = 12 then Fm (a ++ b) p else []
theorem Biz (p a b : List YB) : Af5 (p, ()) (a, ()) (b, ()) = some (Fa p a b, ()) := by
 unfold Af5 Af4 Fa Tv Tu
 simp only [Ah, Ak, Ae, A3e, Kj, Al, Ly]
 cases inR (p.length : Int) 1 32 with
 | false => rw [if_neg (by simp)]; rfl
 | true =>
  simp only [Bool.not_true, Ap]
  by_cases h1 : a.length = 12
  ·rw [Cg (by simp [h1])]
   by_cases h2 : b.length = 12
   ·rw [Cg (by simp [h2]), Jh _ (by simp [cat]; omega) (by simp), Al, show cat [(a, ()), (b, ())] = a ++ b by simp [cat], Ar9, if_pos ⟨trivial, h1, h2⟩]; rfl
   ·rw [Dq (by simp; omega), if_neg (fun h => h2 h.2.2)]
  ·rw [Dq (by simp; omega), if_neg (fun h => h1 h.2.1)]
theorem Bi0 (p a b : List YB) : Afo (p, ()) (a, ()) (b, ()) = some (Fa p a b, ()) := by
 unfold Afo Afn Fa Ts Tr
 simp only [Ah, Ak, Ae, Am, A3f, Al, Ly, List.nil_append, List.length_nil, Nat.zero_add]
 cases inR (p.length : Int) 1 32 with
 | false => rw [if_neg (by simp)]; rfl
 | true =>
  simp only [Bool.not_true, Ap]
  by_cases h1 : a.length = 12
  ·rw [Cg (by simp [h1])]
   by_cases h2 : b.length = 12
   ·rw [Cg (by simp [h2]), Ao (by omega), A8, Ao (by omega), A8, Asa, if_pos ⟨trivial, h1, h2⟩]; rfl
   ·rw [Dq (by simp; omega), if_neg (fun h => h2 h.2.2)]
  ·rw [Dq (by simp; omega), if_neg (fun h => h1 h.2.1)]
def Ei (r : List YB) : List YB := if r.length = 32 then Ix r A94 else []
theorem Asc (r : List YB) : (Ei r).length = 32 ∨ (Ei r).length = 0 := by
 unfold Ei
 split
 ·exact A1g _ _
 ·right; rfl
theorem Bgm (r : List YB) : Abx (r, ()) = some (Ei r, ()) := by
 unfold Abx Abw Ei
 simp only [Ah, Ak, Ae, Bix, Al]
 by_cases h : r.length = 32
 ·rw [if_pos h, Cg (by simp [h])]
 ·rw [if_neg h, Dq (by simp; omega)]
theorem Bgn (r : List YB) : Aa3 (r, ()) = some (Ei r, ()) := by
 unfold Aa3 Aa2 Ei
 simp only [Ah, Ak, Ae, Biy, Al]
 by_cases h : r.length = 32
 ·rw [if_pos h, Cg (by simp [h])]
 ·rw [if_neg h, Dq (by simp; omega)]
def Hs (p a b : List YB) (n : Int) : List YB := if (Ei (Fa p a b)).length = 0 then [] else Adj (Ei (Fa p a b)) n
theorem Bgo (p a b : List YB) (n : YI) : Abz (p, ()) (a, ()) (b, ()) n = some (Hs p a b n.1, ()) := by
 have hf := Asc (Fa p a b)
 unfold Abz Aby Hs
 simp only [Ah, Ak, Ae, Biz, Bgm, Al]
 by_cases h : (Ei (Fa p a b)).length = 0
 ·rw [if_pos h, Dq (by simp [h])]
 ·rw [if_neg h, Cg (by simp; intro e; rw [e] at h; exact h rfl), Bmz _ _ (by omega)]; rfl
theorem Bgp (p a b : List YB) (n : YI) : Aa5 (p, ()) (a, ()) (b, ()) n = some (Hs p a b n.1, ()) := by
 have hf := Asc (Fa p a b)
 unfold Aa5 Aa4 Hs
 simp only [Ah, Ak, Ae, Bi0, Bgn, Al]
 by_cases h : (Ei (Fa p a b)).length = 0
 ·rw [if_pos h, Dq (by simp [h]), List.eq_nil_of_length_eq_zero h]
 ·rw [if_neg h, Cg (by simp; intro e; rw [e] at h; exact h rfl), Bm0 _ _ (by omega)]; rfl
theorem Axi : Akg = Zy := by
 have hr := C9 (B := Hf) 32 (fun i => ((i : Int), (0 : Int), ([] : List YI), (-1 : Int), List.replicate i ((0 : Int), ()), ())) ((0 : Int), ([] : List YI), (-1 : Int), List.replicate 32 ((0 : Int), ()), ())
  (fun i hi => by
   unfold Hf
   simp only [Ah, Am, Ae]
   rw [Ao (by omega), Ay, Ao (by simp; omega), A8, w64 (by omega), List.replicate_succ']
   rfl)
  (by
   unfold Hf
   simp only [Ah, Am, Ae]
   rw [Bg (by omega), Ap])
 unfold Akg Qq Zy Ak9
 simp only [Ak, Ae]
 rw [show A0 Hf ((0 : Int), (0 : Int), ([] : List YI), (-1 : Int), ([] : List YI), ()) = _ from hr, Al]
 rfl
def A1h : Bi := ((-1 : Int), List.replicate 32 ((0 : Int), ()), ())
theorem Axj : Zy = some A1h := rfl
theorem A95 (n : YI) (k : YBs) : ∃ r, Mf n k = some r ∧ Kh n k = some r ∧ Bc r ≤ 64 := by
 unfold Mf Ad0 Kh Uh
 simp only [Ah, Ak, Ae, Am, Cq, C6, Al, Axi, Axj, List.nil_append, List.length_nil, Nat.zero_add]
 cases inR n.1 0 4294967295 with
 | false => exact ⟨_, rfl, rfl, by decide⟩
 | true =>
  simp only [Bool.not_true, Ap]
  by_cases h : k.1.length = 32
  ·have q : ((k.1.length : Int) != 32) = false := by simp [h]
   rw [q, Cz k (by omega), Ao (by omega)]
   simp only [Ap, Al, A8]
   refine ⟨_, rfl, rfl, ?_⟩
   simp only [Bc, A1h, List.length_replicate]; omega
  ·have q : ((k.1.length : Int) != 32) = true := by simp; omega
   rw [q]
   exact ⟨_, rfl, rfl, by decide⟩
end
end Go.Proofs.YtggdikabbngbaaaGreat

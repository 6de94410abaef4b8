/-
  That the program and the reference answer alike, in plain terms, and that the laws answer true.
-/
import Derived.Test.YtggdikabbngbaaaGreatL34
namespace Go.Proofs.YtggdikabbngbaaaGreat
open Go.RowKit
set_option linter.unusedVariables false
set_option linter.unusedSimpArgs false
set_option maxRecDepth 100000
set_option maxHeartbeats 8000000
noncomputable section
theorem Bo0 {c : Ab} (h : Cb c = true) : 0 ≤ c.2.2.2.2.1 ∧ c.2.2.2.2.1 ≤ 3 := by
 unfold Cb at h
 cases h0 : (c.2.2.2.2.1 == (0 : Int)) with
 | true => have := eq_of_beq h0; omega
 | false =>
 cases h1 : (c.2.2.2.2.1 == (1 : Int)) with
 | true => have := eq_of_beq h1; omega
 | false =>
 cases h2 : (c.2.2.2.2.1 == (2 : Int)) with
 | true => have := eq_of_beq h2; omega
 | false =>
 cases h3 : (c.2.2.2.2.1 == (3 : Int)) with
 | true => have := eq_of_beq h3; omega
 | false =>
 simp [h0, h1, h2, h3] at h
theorem Bal {p a b : List YB} (k : Ly (p, ()) = true) (h1 : a.length = 12) (h2 : b.length = 12) : (Hs p a b 0).length = 32 := by
 have hroot : (Fa p a b).length = 32 := by
  unfold Fa
  have hp : inR (p.length : Int) 1 32 = true := k
  rw [if_pos ⟨hp, h1, h2⟩]
  have := Bv.1 hp
  exact Tf _ _ (by simp; omega) (by omega)
 have hfirst : (Ei (Fa p a b)).length = 32 := by
  unfold Ei
  rw [if_pos hroot]
  exact Asf (by decide) (by omega)
 unfold Hs
 rw [if_neg (by omega)]
 unfold Adj
 rw [if_pos (by omega)]
 exact hfirst
theorem A7p (c : Ab) (n : YI) (f : Aa) (h : A9 c ≤ 8388608) (h2 : An f ≤ 8388608) (w1 : wfB f.2.2.2.1) (w2 : wfB (Ec c).2.1) :
  ∃ r fs ns, Ng c n f = some (r, (fs, ()), (ns, ())) ∧ R6 c n f = some (r, (fs, ()), (ns, ())) ∧ ClH c f r fs ns := by
 have none : ∃ r fs ns, some (c, (([] : List Aa), ()), (([] : List Af), ())) = some (r, (fs, ()), (ns, ())) ∧ some (c, (([] : List Aa), ()), (([] : List Af), ())) = some (r, (fs, ()), (ns, ())) ∧ ClH c f r fs ns := ⟨c, [], [], rfl, rfl, .none⟩
 have hcn : c.2.2.2.2.2.1.length ≤ A9 c := by simp only [A9]; omega
 have hfs : f.2.2.2.1.length ≤ An f := by simp only [An]; omega
 unfold Ng Sl R6 R5
 simp only [Ah, Ak, Ae, Am, Up, Uq, Ik]
 rw [Adk c (by omega), Bi3 c (by omega), Bgs c (by omega), Bgt c, Cq, C6, Pz, Py, Ade, Pj, T6, Amu]
 simp only [Al]
 cases ho : Cb c with
 | false => exact none
 | true =>
 simp only [Bool.not_true, Ap]
 cases hn : inR n.1 0 1000000 with
 | false => exact none
 | true =>
 simp only [Bool.not_true, Ap]
 cases hf : Cd f with
 | false => exact none
 | true =>
 simp only [Bool.not_true, Ap]
 have hn' := Bv.1 hn
 have seald : ∃ r fs ns, br (inR f.1 4 8) (br (c.2.2.2.2.1 == (2 : Int)) (ob (Dj c n f) fun r => some (r.1, r.2.1, r.2.2)) (br (c.2.2.2.2.1 == (3 : Int)) (ob (Dj c n f) fun r => some (r.1, r.2.1, r.2.2)) (some (c, (([] : List Aa), ()), (([] : List Af), ()))))) (some (c, (([] : List Aa), ()), (([] : List Af), ()))) = some (r, (fs, ()), (ns, ())) ∧
   br (!inR f.1 4 8) (some (c, (([] : List Aa), ()), (([] : List Af), ()))) (br (decide (c.2.2.2.2.1 < (2 : Int))) (some (c, (([] : List Aa), ()), (([] : List Af), ()))) (Ij c n f c).val) = some (r, (fs, ()), (ns, ())) ∧ ClH c f r fs ns := by
  cases hs : inR f.1 4 8 with
  | false => exact none
  | true =>
  simp only [Bool.not_true, Ap, Ay]
  by_cases hst : c.2.2.2.2.1 = 2 ∨ c.2.2.2.2.1 = 3
  ·obtain ⟨r, fs, ns, a1, a2, a3⟩ := A7o c n f h h2 ho hst w1 w2
   rw [a1, a2, Bg (p := c.2.2.2.2.1 < (2 : Int)) (by omega)]
   simp only [Al, Ap]
   rcases hst with hst | hst
   ·rw [hst]; exact ⟨r, fs, ns, rfl, rfl, a3⟩
   ·rw [hst]; exact ⟨r, fs, ns, rfl, rfl, a3⟩
  ·have hr := Bo0 ho
   rw [Ao (p := c.2.2.2.2.1 < (2 : Int)) (by omega), show (c.2.2.2.2.1 == (2 : Int)) = false by simp; omega, show (c.2.2.2.2.1 == (3 : Int)) = false by simp; omega]
   exact none
 by_cases hk : f.1 = 2
 ·have hk' : (f.1 == (2 : Int)) = true := by simpa using hk
  rw [hk', Ay, Ay]
  by_cases hst : c.2.2.2.2.1 = 1
  ·have hst' : (c.2.2.2.2.1 == (1 : Int)) = true := by simpa using hst
   rw [hst', Ay, Ay]
   cases hcc : Dr f.2.2.1 c.2.2.2.2.2.1 with
   | false =>
    rw [Ap, Ap]
    exact seald
   | true =>
    rw [Ay, Ay]
    obtain ⟨r, fs, ns, t, t1, t2, t3, t4, t5, t6⟩ := A7n c n f h h2 ho hn' hf hk hst hcc
    obtain ⟨k1, k2, k3⟩ := Aji ho
    obtain ⟨s1, s2, s3⟩ := Bjm ho hst
    obtain ⟨a1, a2, a3, a4, a5, a6, a7, a8, a9, a10⟩ := Adn hf hk
    obtain ⟨g1, g2, g3⟩ := Aor c.2.1 c.1 f k2 k1 hf hk
    have hek := Bal (p := c.2.1) (a := c.2.2.2.2.2.1) (b := f.2.2.2.1) k2 s1 a2
    obtain ⟨_, n1⟩ := Ave 0 f.2.2.2.1 (Hs c.2.1 c.2.2.2.2.2.1 f.2.2.2.1 0) (.inl rfl) a2 hek
    have hpl := V4 (id := c.1) (cn := f.2.2.1) (sn := f.2.2.2.1) (tick := f.2.2.2.2.1) (ck := f.2.2.2.2.2.1)
    have hpb : (Dm c.1 f.2.2.1 f.2.2.2.1 f.2.2.2.2.1 f.2.2.2.2.2.1).length ≤ 46 := by rw [hpl]; cases Hw c.1 f.2.2.1 f.2.2.2.1 f.2.2.2.2.1 f.2.2.2.2.2.1 <;> simp
    have hfk := Asg c.2.1
    have hpf := A5f c.2.1 c.1 f.2.2.1 f.2.2.2.1 f.2.2.2.2.1 f.2.2.2.2.2.1
    rw [t2, Al]
    refine ⟨r, fs, ns, rfl, ?_, t3⟩
    rw [g2, Bgp, t1]
    simp only [Al]
    rw [n1, Avg]
    simp only [Al]
    rw [show K8 ((Da c.2.1 c.1 f).2.1, ()) ((Da c.2.1 c.1 f).2.2.1, ()) ((Da c.2.1 c.1 f).2.2.2.1, ()) ((Da c.2.1 c.1 f).2.2.2.2.1, ()) ((Da c.2.1 c.1 f).2.2.2.2.2.1, ()) = some (Dm c.1 f.2.2.1 f.2.2.2.1 f.2.2.2.2.1 f.2.2.2.2.2.1, ()) from Avi _ _ _ _ _]
    simp only [Al]
    rw [Bi7 _ _ (by omega) (by omega), Axk _ (by simp only [An, Da, List.length_nil]; omega)]
    simp only [Al]
    rw [t4, t5, t6]
    simp only [List.length_nil, Nat.zero_add, List.nil_append, List.length_cons, List.length_append, Nat.reduceAdd, Nat.reduceLeDiff, decide_true, A8]
    rw [Ao (p := c.2.2.2.2.2.1.length ≤ 4294967296) (by omega), Ao (p := f.2.2.2.1.length ≤ 4294967296) (by omega), A8, A8]
    rfl
  ·have hst' : (c.2.2.2.2.1 == (1 : Int)) = false := by simpa using hst
   rw [hst', Ap, Ap]
   exact seald
 ·have hk' : (f.1 == (2 : Int)) = false := by simpa using hk
  rw [hk', Ap, Ap]
  exact seald
theorem A3j (c : Ab) (n : YI) (f : Aa) (hw : Pv c) (hw2 : Jf f) {e1 e2 e3 e4 e5 e6 e7 e8 e9 e10 e11 e12 e13 e14 e15 e16 e17 e18 e19 e20 : Nat}
  (w : Jg (Sh.int .i64 :: Sh.sl e1 [.int .u8] :: Sh.int .i64 :: Sh.int .i64 :: Sh.int .i64 :: Sh.sl e2 [.int .u8] :: Sh.int .i64 :: Sh.int .i64 :: Sh.sl e3 [.int .u8] :: Sh.sl e4 [.int .u8] :: Sh.int .i64 :: Sh.sl e5 [.int .u8] :: Sh.sl e6 [.int .u8] :: Sh.int .i64 :: Sh.int .i64 :: Sh.sl e7 [.int .u8] :: Sh.sl e8 [.int .u8] :: Sh.int .i64 :: Sh.sl e9 [.int .u8] :: Sh.int .i64 :: Sh.sl e10 [.int .u8] :: Sh.int .i64 :: Sh.int .i64 :: Sh.sl e11 [.int .i64] :: Sh.int .i64 :: Sh.sl e12 [.int .u8] :: Sh.int .i64 :: Sh.int .i64 :: Sh.sl e13 [.int .i64] :: Sh.bool :: Sh.int .i64 :: Sh.sl e14 [.int .u8] :: Sh.bool :: Sh.int .i64 :: Sh.int .i64 :: Sh.int .i64 :: Sh.bool :: Sh.int .i64 :: Sh.int .i64 :: Sh.int .i64 :: Sh.int .i64 :: [] : List Sh) c) (w2 : Jg [.int .i64] n) (w3 : Jg (Sh.int .i64 :: Sh.int .i64 :: Sh.sl e15 [.int .u8] :: Sh.sl e16 [.int .u8] :: Sh.int .i64 :: Sh.sl e17 [.int .u8] :: Sh.sl e18 [.int .u8] :: Sh.int .i64 :: Sh.int .i64 :: Sh.sl e19 [.int .u8] :: Sh.sl e20 [.int .u8] :: [] : List Sh) f) : Pq c n f = some (true, ()) := by
 have k1 : wfB (Ec c).2.1 := Bja w.2.2.2.2.2.2.2.2.2.2.2.2.2.2.2.2.2.2.1
 have k2 : wfB f.2.2.2.1 := Bja w3.2.2.2.1
 clear w w2 w3
 unfold Pq C8
 simp only [Ak, Ah, Ae]
 rw [Bih c _ (by omega) (by omega) hw, Al]
 by_cases h : szR (A9 c) 1048576 < 0
 ·rw [Dq (by simpa using h)]
 ·have hb := Bel h
  have hle : szR (A9 c) 1048576 ≤ 1048576 := Ai9 (by omega) (by omega)
  rw [Cg (by simpa using h), Ac7 f _ (by omega) (by omega) hw2, Al]
  by_cases h' : szR (An f) (szR (A9 c) 1048576) < 0
  ·rw [Dq (by simpa using h')]
  have hb' := Bel h'
  obtain ⟨r, fs, ns, h1, h2, h3, h4, h5, _⟩ := A7p c n f (by omega) (by omega) k2 k1
  have h6 := Ar1 c
  have h7 := Ar1 r
  have h10 := Bc7 f
  have h8 := A3k (f := Ea) (g := Ci) Bif ns
  have h9 := A3k (f := Dk) (g := An) Bf4 fs
  rw [Cg (by simpa using h')]
  simp (disch := first | omega | (dsimp only; omega)) only [Bii, Ac8, Al, h1, h2, A47, K0, A48, Bkt, Ag3, Iu, Au9, Bf6, Ag4, Ava, Bf7, Bool.not_true, Ap, Ot, Cn]
end
end Go.Proofs.YtggdikabbngbaaaGreat

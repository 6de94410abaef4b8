/-
  That the program and the reference answer alike, in plain terms, and that the laws answer true.
-/
import Derived.Test.YtggdikabbngbaaaGreatL32
namespace Go.Proofs.YtggdikabbngbaaaGreat
open Go.RowKit
set_option linter.unusedVariables false
set_option linter.unusedSimpArgs false
set_option maxRecDepth 100000
set_option maxHeartbeats 8000000
noncomputable section
def Jj (c : Ab) (st : Int) (fi : Aa) (ch : Ag) (t r : B9) (la : Int) : Ab := (c.1, c.2.1, c.2.2.1, c.2.2.2.1, st, c.2.2.2.2.2.1, fi.1, fi.2.1, fi.2.2.1, fi.2.2.2.1, fi.2.2.2.2.1, fi.2.2.2.2.2.1, fi.2.2.2.2.2.2.1, fi.2.2.2.2.2.2.2.1, fi.2.2.2.2.2.2.2.2.1, fi.2.2.2.2.2.2.2.2.2.1, fi.2.2.2.2.2.2.2.2.2.2.1, ch.1, ch.2.1, ch.2.2.1, ch.2.2.2.1, ch.2.2.2.2.1, ch.2.2.2.2.2.1, ch.2.2.2.2.2.2.1, ch.2.2.2.2.2.2.2.1, ch.2.2.2.2.2.2.2.2.1, ch.2.2.2.2.2.2.2.2.2.1, ch.2.2.2.2.2.2.2.2.2.2.1, ch.2.2.2.2.2.2.2.2.2.2.2.1, ch.2.2.2.2.2.2.2.2.2.2.2.2.1, ch.2.2.2.2.2.2.2.2.2.2.2.2.2.1, ch.2.2.2.2.2.2.2.2.2.2.2.2.2.2.1, t.1, t.2.1, t.2.2.1, t.2.2.2.1, r.1, r.2.1, r.2.2.1, r.2.2.2.1, la, ())
theorem Aji {c : Ab} (h : Cb c = true) : (1 ≤ c.1 ∧ c.1 ≤ 9) ∧ Ly (c.2.1, ()) = true ∧ Rk (c.2.2.1, c.2.2.2.1, ()) = true := by
 unfold Cb at h
 simp only [Bool.and_eq_true, Bv] at h
 exact ⟨h.1, h.2.1, h.2.2.1⟩
theorem Bjm {c : Ab} (h : Cb c = true) (hs : c.2.2.2.2.1 = 1) : c.2.2.2.2.2.1.length = 12 ∧ Ht (clR c) = true ∧ A96 c = 0 := by
 unfold Cb at h
 rw [hs] at h
 simp only [show ((1 : Int) == 0) = false by decide, show ((1 : Int) == 1) = true by decide, cond_false, cond_true, Bool.and_eq_true, beq_iff_eq] at h
 exact ⟨by omega, h.2.2.2.2.2.2.2.2.1, h.2.2.2.2.2.2.2.2.2⟩
theorem Bjn {c : Ab} (h : Cb c = true) (hs : c.2.2.2.2.1 = 2) : c.2.2.2.2.2.1.length = 12 ∧ By (Ec c) = true ∧ (Ec c).1 = 0 ∧ (C0 (Ec c)).length = 0 ∧ Ht (clR c) = true := by
 unfold Cb at h
 rw [hs] at h
 simp only [show ((2 : Int) == 0) = false by decide, show ((2 : Int) == 1) = false by decide, show ((2 : Int) == 2) = true by decide, cond_false, cond_true, Bool.and_eq_true, beq_iff_eq] at h
 obtain ⟨_, _, _, ⟨a1, _, _, _, _, a6, a7, _, _, _, a11⟩, _, _, b3, _⟩ := h
 exact ⟨by omega, a6, a7, by have : ((C0 (Ec c)).length : Int) = 0 := a11; omega, b3⟩
theorem Bjo {c : Ab} (h : Cb c = true) (hs : c.2.2.2.2.1 = 3) : c.2.2.2.2.2.1.length = 12 ∧ frZ (Fx c) = true ∧ By (Ec c) = true ∧ (Ec c).1 = 0 ∧ Ht (clT c) = true ∧ Fo (clR c) = true ∧ (clR c).1 = decide (((C0 (Ec c)).length : Int) > 0) := by
 unfold Cb at h
 rw [hs] at h
 simp only [show ((3 : Int) == 0) = false by decide, show ((3 : Int) == 1) = false by decide, show ((3 : Int) == 2) = false by decide, show ((3 : Int) == 3) = true by decide, cond_false, cond_true, Bool.and_eq_true, beq_iff_eq] at h
 obtain ⟨_, _, _, a1, a2, a3, a4, a5, a6, a7, _⟩ := h
 exact ⟨by omega, a2, a3, a4, a5, a6, a7⟩
theorem Bgz {c : Ab} {fi : Aa} {ch : Ag} {t r : B9} {la : Int} (h : Cb c = true) (h1 : c.2.2.2.2.2.1.length = 12) (h2 : frZ fi = true) (h3 : By ch = true) (h4 : ch.1 = 0) (h5 : Ht t = true) (h6 : Fo r = true) (h7 : r.1 = decide (((C0 ch).length : Int) > 0)) (h8 : 0 ≤ la ∧ la ≤ 1000000) :
  Cb (Jj c 3 fi ch t r la) = true := by
 obtain ⟨k1, k2, k3⟩ := Aji h
 have e1 : Fx (Jj c 3 fi ch t r la) = fi := rfl
 have e2 : Ec (Jj c 3 fi ch t r la) = ch := rfl
 have e3 : clT (Jj c 3 fi ch t r la) = t := rfl
 have e4 : clR (Jj c 3 fi ch t r la) = r := rfl
 unfold Cb
 rw [e1, e2, e3, e4, h2, h3, h5, h6]
 simp only [Jj, h4, h7, k2, k3, C0, show ((3 : Int) == 0) = false by decide, show ((3 : Int) == 1) = false by decide, show ((3 : Int) == 2) = false by decide, show ((3 : Int) == 3) = true by decide, cond_false, cond_true, Bool.true_and, beq_self_eq_true, Bool.and_eq_true, beq_iff_eq, Bv]
 omega
theorem Bn8 {c : Ab} {fi : Aa} {ch : Ag} {t r : B9} (h : Cb c = true) (h1 : c.2.2.2.2.2.1.length = 12) (h2 : fi.1 = 3 ∧ Cd fi = true ∧ fi.2.1 = c.1 ∧ Dr fi.2.2.1 c.2.2.2.2.2.1 = true) (h3 : By ch = true) (h4 : ch.1 = 0) (h4b : Dr ch.2.1 fi.2.2.2.1 = true) (h5 : ch.2.2.1 = 0 ∧ Rl ch = false ∧ (C0 ch).length = 0) (h6 : t.1 = true ∧ Fo t = true) (h7 : Ht r = true) :
  Cb (Jj c 2 fi ch t r 0) = true := by
 obtain ⟨k1, k2, k3⟩ := Aji h
 have e1 : Fx (Jj c 2 fi ch t r 0) = fi := rfl
 have e2 : Ec (Jj c 2 fi ch t r 0) = ch := rfl
 have e3 : clT (Jj c 2 fi ch t r 0) = t := rfl
 have e4 : clR (Jj c 2 fi ch t r 0) = r := rfl
 have h5b : ch.2.2.2.2.2.2.2.2.2.2.2.2.1 = false := h5.2.1
 have h5c : ch.2.2.2.2.2.2.2.2.2.2.2.2.2.2.1.length = 0 := h5.2.2
 unfold Cb
 rw [e1, e2, e3, e4, h2.2.1, h3, h6.2, h7]
 simp only [Jj, h4, h4b, h2.1, h2.2.2.1, h2.2.2.2, h5.1, h5b, h5c, h6.1, k2, k3, show ((2 : Int) == 0) = false by decide, show ((2 : Int) == 1) = false by decide, show ((2 : Int) == 2) = true by decide, cond_false, cond_true, Bool.true_and, Bool.not_false, beq_self_eq_true, Bool.and_eq_true, beq_iff_eq, Bv, and_true]
 omega
def ClH (c : Ab) (f : Aa) (r : Ab) (fs : List Aa) (ns : List Af) : Prop :=
 A9 r ≤ A9 c + An f + 400 ∧ fs.length + Ad An fs ≤ 2 * (A9 c + An f + 400) ∧ ns.length + Ad Ci ns ≤ 20 * (A9 c + An f + 400) ∧
 (ns = [] → r = c ∧ fs = []) ∧ fs.length ≤ 1 ∧ r.1 = c.1 ∧ r.2.2.1 = c.2.2.1 ∧ r.2.2.2.1 = c.2.2.2.1 ∧ (Cb c = true → Cb r = true) ∧ Axm fs ∧ Fq ns
theorem ClH.none {c : Ab} {f : Aa} : ClH c f c [] [] := ⟨by omega, by simp [Ad], by simp [Ad], fun _ => ⟨rfl, rfl⟩, by simp, rfl, rfl, rfl, fun h => h, fun f h => (by cases h), fun n h => (by cases h)⟩
theorem A7n (c : Ab) (n : YI) (f : Aa) (h : A9 c ≤ 8388608) (h2 : An f ≤ 8388608) (ho : Cb c = true) (hn : 0 ≤ n.1 ∧ n.1 ≤ 1000000) (hf : Cd f = true) (hk : f.1 = 2) (hst : c.2.2.2.2.1 = 1) (hcn : Dr f.2.2.1 c.2.2.2.2.2.1 = true) :
  ∃ r fs ns t, Jq n = some t ∧ Sd c n f = some (r, (fs, ()), (ns, ())) ∧ ClH c f r fs ns ∧
  r = Jj c 2 (Da c.2.1 c.1 f) (Adm 0 f.2.2.2.1 (Hs c.2.1 c.2.2.2.2.2.1 f.2.2.2.1 0)) t (clR c) (A96 c) ∧ fs = [Da c.2.1 c.1 f] ∧
  ns = [((2 : Int), c.1, (0 : Int), c.2.2.2.2.2.1, f.2.2.2.1, (0 : Int), (0 : Int), ([] : List YB), ([] : List YB), (0 : Int), (0 : Int), n.1, ()), T8 (D5 c.2.1) (Dm c.1 f.2.2.1 f.2.2.2.1 f.2.2.2.2.1 f.2.2.2.2.2.1)] := by
 obtain ⟨k1, k2, k3⟩ := Aji ho
 obtain ⟨s1, s2, s3⟩ := Bjm ho hst
 obtain ⟨a1, a2, a3, a4, a5, a6, a7, a8, a9, a10⟩ := Adn hf hk
 obtain ⟨g1, g2, g3⟩ := Aor c.2.1 c.1 f k2 k1 hf hk
 have hek : (Hs c.2.1 c.2.2.2.2.2.1 f.2.2.2.1 0).length = 32 := by
  have hroot : (Fa c.2.1 c.2.2.2.2.2.1 f.2.2.2.1).length = 32 := by
   unfold Fa
   have hp : inR (c.2.1.length : Int) 1 32 = true := k2
   rw [if_pos ⟨hp, s1, a2⟩]
   have := Bv.1 hp
   exact Tf _ _ (by simp; omega) (by omega)
  have hfirst : (Ei (Fa c.2.1 c.2.2.2.2.2.1 f.2.2.2.1)).length = 32 := by
   unfold Ei
   rw [if_pos hroot]
   exact Asf (by decide) (by omega)
  unfold Hs
  rw [if_neg (by omega)]
  unfold Adj
  rw [if_pos (by omega)]
  exact hfirst
 obtain ⟨n1, _⟩ := Ave 0 f.2.2.2.1 (Hs c.2.1 c.2.2.2.2.2.1 f.2.2.2.1 0) (.inl rfl) a2 hek
 have hts : Jq n = some (true, n.1 + 1, (1 : Int), (1 : Int), ()) := by
  unfold Jq Qr
  simp only [Ah, Ak, Ae, C6, Al, Bv.2 hn, Bool.not_true, Ap]
  rw [w64 (by omega)]
 have hpl := V4 (id := c.1) (cn := f.2.2.1) (sn := f.2.2.2.1) (tick := f.2.2.2.2.1) (ck := f.2.2.2.2.2.1)
 have hpb : (Dm c.1 f.2.2.1 f.2.2.2.1 f.2.2.2.2.1 f.2.2.2.2.2.1).length ≤ 46 := by rw [hpl]; cases Hw c.1 f.2.2.1 f.2.2.2.1 f.2.2.2.2.1 f.2.2.2.2.2.1 <;> simp
 have hfk := Asg c.2.1
 have hpf := A5f c.2.1 c.1 f.2.2.1 f.2.2.2.1 f.2.2.2.2.1 f.2.2.2.2.2.1
 refine ⟨_, _, _, _, hts, ?_, ?_, rfl, rfl, rfl⟩
 ·unfold Sd Sc
  simp only [Ah, Ak, Ae]
  rw [Adk c (by omega), g1, Bdf, hts, Bgo]
  simp only [Al, Bool.not_true, Ap]
  rw [n1, Avf]
  simp only [Al]
  rw [Cz _ (by dsimp only; omega), Cz _ (by dsimp only; omega), show La ((Da c.2.1 c.1 f).2.1, ()) ((Da c.2.1 c.1 f).2.2.1, ()) ((Da c.2.1 c.1 f).2.2.2.1, ()) ((Da c.2.1 c.1 f).2.2.2.2.1, ()) ((Da c.2.1 c.1 f).2.2.2.2.2.1, ()) = some (Dm c.1 f.2.2.1 f.2.2.2.1 f.2.2.2.2.1 f.2.2.2.2.2.1, ()) from Avh _ _ _ _ _]
  simp only [Al]
  rw [Bi6 _ _ (by omega) (by omega), Avd _ (by simp only [An, Da, List.length_nil]; omega)]
  simp only [Al]
  rfl
 ·refine ⟨?_, ?_, ?_, fun h => (by cases h), by simp, rfl, rfl, rfl, fun _ => ?_, ?_, ?_⟩
  ·simp only [A9, Jj, Da, Adm, List.length_nil, List.length_replicate]; omega
  ·simp only [Ad, An, Da, List.length_cons, List.length_nil]; omega
  ·simp only [Ad, Ci, T8, List.length_cons, List.length_nil]; omega
  ·have hla : A96 c = 0 := s3
   rw [hla]
   refine Bn8 ho s1 ⟨rfl, g3, rfl, hcn⟩ (Bdk (.inl rfl) a2 hek) rfl (Amx _) ⟨rfl, rfl, rfl⟩ ⟨rfl, ?_⟩ s2
   unfold Fo
   simp only [Bool.not_true, cond_false, Bool.and_eq_true, Bv]
   exact ⟨by omega, by omega, by decide⟩
  ·intro x hx
   simp only [List.mem_singleton] at hx
   rw [hx]; exact g3
  ·intro x hx
   simp only [List.mem_cons, List.not_mem_nil, or_false] at hx
   rcases hx with rfl | rfl
   ·rw [K3]
    simp only [List.length_nil]
    exact ⟨by omega, by omega, by omega, by omega, by omega, by omega, .inr s1, .inr a2, by omega, .inl trivial, Ana⟩
   ·exact Bak (by omega) (by omega)
end
end Go.Proofs.YtggdikabbngbaaaGreat

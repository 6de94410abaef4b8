/-
  That the program and the reference answer alike, in plain terms, and that the laws answer true.
-/
import Derived.Test.YtggdikabbngbaaaGreatL30
namespace Go.Proofs.YtggdikabbngbaaaGreat
open Go.RowKit
set_option linter.unusedVariables false
set_option linter.unusedSimpArgs false
set_option maxRecDepth 100000
set_option maxHeartbeats 4000000
noncomputable section
def Ajh (c : Ag) (e : YEp) : Ag := (c.1, c.2.1, c.2.2.1, c.2.2.2.1, c.2.2.2.2.1, c.2.2.2.2.2.1, c.2.2.2.2.2.2.1, e.1, e.2.1, e.2.2.1, e.2.2.2.1, e.2.2.2.2.1, c.2.2.2.2.2.2.2.2.2.2.2.2.1, c.2.2.2.2.2.2.2.2.2.2.2.2.2.1, c.2.2.2.2.2.2.2.2.2.2.2.2.2.2.1, ())
def U1 (c : Ag) (u : Int) : Ag := (c.1, c.2.1, c.2.2.1, c.2.2.2.1, c.2.2.2.2.1, c.2.2.2.2.2.1, c.2.2.2.2.2.2.1, c.2.2.2.2.2.2.2.1, c.2.2.2.2.2.2.2.2.1, c.2.2.2.2.2.2.2.2.2.1, c.2.2.2.2.2.2.2.2.2.2.1, c.2.2.2.2.2.2.2.2.2.2.2.1, c.2.2.2.2.2.2.2.2.2.2.2.2.1, u, c.2.2.2.2.2.2.2.2.2.2.2.2.2.2.1, ())
def moved (c : Ag) (e : YEp) (u : Int) : Ag := (c.1, c.2.1, e.1, e.2.1, e.2.2.1, e.2.2.2.1, e.2.2.2.2.1, c.2.2.1, c.2.2.2.1, c.2.2.2.2.1, c.2.2.2.2.2.1, c.2.2.2.2.2.2.1, true, u, ([] : List YB), ())
def Bk8 (e : YEp) (n : Int) : YEp := (e.1, e.2.1, e.2.2.1, (Iy (e.2.2.2.1, e.2.2.2.2.1, ()) n).1, (Iy (e.2.2.2.1, e.2.2.2.2.1, ()) n).2.1, ())
theorem Bm5 {e : YEp} {n : Int} (h : Ep e = true) (hm : Hu (e.2.2.2.1, e.2.2.2.2.1, ()) n = true) : Ep (Bk8 e n) = true := by
 have hw := Bjg hm
 unfold Ep at h ⊢
 simp only [Bool.and_eq_true] at h ⊢
 exact ⟨h.1, h.2.1, h.2.2.1, hw⟩
theorem EpO.ok {e : YEp} {r : Int} {f : Aa} {e' : YEp} {p : List YB} {z : Int} (h : EpO e r f e' p z) (hz : z = 0) : Ep e = true ∧ e' = Bk8 e f.2.2.2.2.2.2.2.2.1 ∧ Ep e' = true ∧ f.2.2.2.2.2.2.2.1 = e.1 ∧ p = mix e.2.1 (Cy r f.2.2.2.1 f.2.2.2.2.2.2.2.1 f.2.2.2.2.2.2.2.2.1) f.2.2.2.2.2.2.2.2.2.1 := by
 obtain ⟨h1, h2, h3, h4⟩ := h
 obtain ⟨k1, k2, k3, k4, k5⟩ := h4 hz
 have k2' : e' = Bk8 e f.2.2.2.2.2.2.2.2.1 := k2
 exact ⟨k1, k2', by rw [k2']; exact Bm5 k1 k3, k4, k5⟩
theorem Am8 {f : Aa} (h : Cd f = true) (hs : inR f.1 4 8 = true) : f.2.2.2.1.length = 12 ∧ (0 ≤ f.2.2.2.2.2.2.2.1 ∧ f.2.2.2.2.2.2.2.1 ≤ 4294967295) ∧ (0 ≤ f.2.2.2.2.2.2.2.2.1 ∧ f.2.2.2.2.2.2.2.2.1 ≤ 281474976710655) ∧ Hr f.1 (f.2.2.2.2.2.2.2.2.2.1.length : Int) = true ∧ f.2.2.2.2.2.2.2.2.2.1.length ≤ 40 := by
 unfold Cd at h
 rw [hs] at h
 simp only [cond_true, Bool.and_eq_true, Bv, beq_iff_eq] at h
 have hb := h.2.2.2.2.2.2.2.2.1
 have := Bei hb
 exact ⟨by omega, h.2.2.2.2.2.2.1, h.2.2.2.2.2.2.2.1, hb, by omega⟩
def ChO (c : Ag) (n : Int) (f : Aa) (c' : Ag) (p : List YB) (z : Int) : Prop :=
 Az c' ≤ Az c + 200 ∧ p.length ≤ An f ∧ (z ≠ 0 → c' = c ∧ p = []) ∧
 (z = 0 → By c = true ∧ By c' = true ∧ (0 ≤ n ∧ n ≤ 1000000) ∧ Cd f = true ∧ inR f.1 4 8 = true ∧ f.2.2.2.1 = c.2.1 ∧ c'.1 = c.1 ∧ c'.2.1 = c.2.1 ∧
  p.length = f.2.2.2.2.2.2.2.2.2.1.length ∧ wfB p ∧
  ((c'.2.2.1 = c.2.2.1 ∧ C0 c' = C0 c ∧ c'.2.2.2.2.1 = c.2.2.2.2.1 ∧ c'.2.2.2.1 = c.2.2.2.1) ∨ (c'.2.2.1 = c.2.2.1 + 1 ∧ C0 c' = [] ∧ c'.2.2.2.2.1 = 0 ∧ f.2.2.2.2.2.2.2.1 = c.2.2.1 + 1 ∧ (C0 c).length = 32)))
theorem Bah {c : Ag} {u : Int} (h : By c = true) (hh : Rl c = true) (hu : 0 ≤ u ∧ u ≤ 1000005) : By (U1 c u) = true := by
 unfold By at h ⊢
 simp only [Bool.not_not, Bool.and_eq_true] at h ⊢
 refine ⟨h.1, h.2.1, h.2.2.1, ?_, h.2.2.2.2⟩
 have ho := h.2.2.2.1
 unfold Lx at ho ⊢
 rw [hh] at ho
 have hh' : Rl (U1 c u) = true := hh
 rw [hh']
 simp only [Bool.not_true, cond_false, Bool.not_not, Bool.and_eq_true, Bool.or_eq_true] at ho ⊢
 exact ⟨ho.1, ho.2.1, .inl (Bv.2 hu)⟩
theorem Bgw {c : Ag} {e : YEp} (h : By c = true) (hh : Rl c = true) (he : Ep e = true) (h1 : e.1 = (N0 c).1) : By (Ajh c e) = true := by
 unfold By at h ⊢
 simp only [Bool.not_not, Bool.and_eq_true] at h ⊢
 refine ⟨h.1, h.2.1, h.2.2.1, ?_, h.2.2.2.2⟩
 have ho := h.2.2.2.1
 unfold Lx at ho ⊢
 rw [hh] at ho
 have hh' : Rl (Ajh c e) = true := hh
 rw [hh']
 simp only [Bool.not_true, cond_false, Bool.not_not, Bool.and_eq_true, Bool.or_eq_true] at ho ⊢
 refine ⟨he, ?_, ho.2.2⟩
 have := ho.2.1
 rw [← h1] at this
 exact this
theorem Bk9 {c : Ag} {e : YEp} {u : Int} (h : By c = true) (he : Ep e = true) (h1 : e.1 = c.2.2.1 + 1) (hu : 0 ≤ u ∧ u ≤ 1000005) : By (moved c e u) = true := by
 obtain ⟨f1, f2, f3, f4, f5⟩ := Hv h
 have f6 := (Eh f3).1
 have f7 := (Eh he).1
 unfold By at h ⊢
 simp only [Bool.not_not, Bool.and_eq_true] at h ⊢
 refine ⟨h.1, h.2.1, he, ?_, ?_⟩
 ·unfold Lx
  have hh : Rl (moved c e u) = true := rfl
  rw [hh]
  simp only [Bool.not_true, cond_false, Bool.not_not, Bool.and_eq_true, Bool.or_eq_true, Bool.not_eq_true', bne_eq_false_iff_eq]
  refine ⟨f3, ?_, .inl (Bv.2 hu)⟩
  show c.2.2.1 = IntKind.i64.wrap (e.1 - 1)
  have f6' : 0 ≤ c.2.2.1 ∧ c.2.2.1 ≤ 4294967295 := f6
  rw [w64 (by omega)]; omega
 ·show (((([] : List YB).length : Int) == 0) || _) = true
  rfl
theorem Bgx (c : Ag) (n : YI) (f : Aa) (h : Az c ≤ 67000000) (h2 : An f ≤ 67108864) (w1 : wfB f.2.2.2.1) (w2 : wfB c.2.1) :
  ∃ c' p z, Hj c n f = some (c', (p, ()), (z, ())) ∧ ChO c n.1 f c' p z := by
 have hc := h
 simp only [Az] at hc
 unfold Hj Qu
 simp only [Ah, Ak, Ae]
 rw [Aev c (by omega), Adc c, C6, Pj, Py, Amu]
 simp only [Al]
 have nope : ∀ z : Int, z ≠ 0 → ∃ c' p z', some (c, (([] : List YB), ()), (z, ())) = some (c', (p, ()), (z', ())) ∧ ChO c n.1 f c' p z' := fun z hz =>
  ⟨c, [], z, rfl, by omega, by simp, fun _ => ⟨rfl, rfl⟩, fun h => (hz h).elim⟩
 cases ho : By c with
 | false => exact nope 1 (by decide)
 | true =>
 cases hn : inR n.1 0 1000000 with
 | false => exact nope 1 (by decide)
 | true =>
 simp only [Bool.not_true, Ap]
 cases hfo : Cd f with
 | false => exact nope 1 (by decide)
 | true =>
 simp only [Bool.not_true, Ap]
 cases hse : inR f.1 4 8 with
 | false => exact nope 1 (by decide)
 | true =>
 simp only [Bool.not_true, Ap]
 have hn' := Bv.1 hn
 obtain ⟨b1, b2, b3, b4, b5⟩ := Am8 hfo hse
 obtain ⟨f1, f2, f3, f4, f5⟩ := Hv ho
 obtain ⟨f6, f7, f8⟩ := Eh f3
 have f6 : 0 ≤ c.2.2.1 ∧ c.2.2.1 ≤ 4294967295 := f6
 have hwN : IntKind.i64.wrap (c.2.2.1 + (1 : Int)) = c.2.2.1 + 1 := w64 (by omega)
 have hw5 : IntKind.i64.wrap (n.1 + (5 : Int)) = n.1 + 5 := w64 (by omega)
 have hr : IntKind.i64.wrap ((1 : Int) - c.1) = 1 - c.1 := w64 (by omega)
 obtain ⟨e1, p1, z1, _, s1, E1⟩ := Aey (c.2.2.1, c.2.2.2.1, c.2.2.2.2.1, c.2.2.2.2.2.1, c.2.2.2.2.2.2.1, ()) (1 - c.1) f (by simp only [Bc]; omega) (by omega)
 obtain ⟨e2, p2, z2, _, s2, E2⟩ := Aey (c.2.2.2.2.2.2.2.1, c.2.2.2.2.2.2.2.2.1, c.2.2.2.2.2.2.2.2.2.1, c.2.2.2.2.2.2.2.2.2.2.1, c.2.2.2.2.2.2.2.2.2.2.2.1, ()) (1 - c.1) f (by simp only [Bc]; omega) (by omega)
 obtain ⟨en, n1, n2, n3⟩ := A95 (IntKind.i64.wrap (c.2.2.1 + (1 : Int)), ()) (c.2.2.2.2.2.2.2.2.2.2.2.2.2.2.1, ())
 obtain ⟨e3, p3, z3, _, s3, E3⟩ := Aey en (1 - c.1) f (by omega) (by omega)
 rw [hr, s1, s2, n2]
 simp only [Al]
 rw [s3]
 simp only [Al]
 cases hs : Dr f.2.2.2.1 c.2.1 with
 | false => exact nope 8 (by decide)
 | true =>
 have hsn := Bab w1 w2 hs
 simp only [Bool.not_true, Ap]
 have pl : ∀ {k : List YB} {p : List YB}, k.length = 32 → p = mix k (Cy (1 - c.1) f.2.2.2.1 f.2.2.2.2.2.2.2.1 f.2.2.2.2.2.2.2.2.1) f.2.2.2.2.2.2.2.2.2.1 → p.length = f.2.2.2.2.2.2.2.2.2.1.length ∧ wfB p := fun {k p} hk hp => by
  have hl : (Cy (1 - c.1) f.2.2.2.1 f.2.2.2.2.2.2.2.1 f.2.2.2.2.2.2.2.2.1).length ≤ 23 := by
   rw [Kl]; cases Em (1 - c.1) f.2.2.2.1 f.2.2.2.2.2.2.2.1 f.2.2.2.2.2.2.2.2.1 <;> simp
  rw [hp]
  exact ⟨Bej (by omega) (by omega) (by omega), Bm4 _ _ _⟩
 have hnE1 : Bc e1 = Bc (H0 c) := E1.1
 have hnE2 : Bc e2 = Bc (N0 c) := E2.1
 simp only [Bc, H0] at hnE1
 simp only [Bc, N0] at hnE2
 have hpn : ∀ p : List YB, p.length = f.2.2.2.2.2.2.2.2.2.1.length → p.length ≤ An f := fun p h => by simp only [An]; omega
 cases q1 : (f.2.2.2.2.2.2.2.1 == c.2.2.1) with
 | true =>
  simp only [Ay]
  by_cases hz : z1 = 0
  ·subst hz
   simp only [show ((0 : Int) != (0 : Int)) = false from rfl, Ap]
   obtain ⟨o1, o2, o3, o4, o5⟩ := E1.ok rfl
   obtain ⟨g1, g2⟩ := pl f7 o5
   have hN : e1.1 = c.2.2.1 := by rw [o2]; rfl
   have hcur := A1i ho o3 hN
   have hk : e1.2.1 = c.2.2.2.1 := by rw [o2]; rfl
   have hq : e1.2.2.1 = c.2.2.2.2.1 := by rw [o2]; rfl
   have plain : ChO c n.1 f (Dz c e1) p1 0 := ⟨by simp only [Az, Dz]; omega, hpn _ g1, fun h => (h rfl).elim, fun _ => ⟨ho, hcur, hn', hfo, hse, hsn, rfl, rfl, g1, g2, .inl ⟨hN, rfl, hq, hk⟩⟩⟩
   cases hold : c.2.2.2.2.2.2.2.2.2.2.2.2.1 with
   | true =>
    simp only [Ay]
    cases hu : (c.2.2.2.2.2.2.2.2.2.2.2.2.2.1 == (-1 : Int)) with
    | true =>
     rw [Ay, hw5]
     have hw := Bah (c := Dz c e1) (u := n.1 + 5) hcur hold (by omega)
     refine ⟨_, p1, 0, rfl, ?_⟩
     rw [show ((c.1, c.2.1, e1.1, e1.2.1, e1.2.2.1, e1.2.2.2.1, e1.2.2.2.2.1, c.2.2.2.2.2.2.2.1, c.2.2.2.2.2.2.2.2.1, c.2.2.2.2.2.2.2.2.2.1, c.2.2.2.2.2.2.2.2.2.2.1, c.2.2.2.2.2.2.2.2.2.2.2.1, true, n.1 + 5, c.2.2.2.2.2.2.2.2.2.2.2.2.2.2.1, ()) : Ag) = U1 (Dz c e1) (n.1 + 5) by simp only [U1, Dz, hold]]
     exact ⟨by simp only [Az, Dz, U1]; omega, hpn _ g1, fun h => (h rfl).elim, fun _ => ⟨ho, hw, hn', hfo, hse, hsn, rfl, rfl, g1, g2, .inl ⟨hN, rfl, hq, hk⟩⟩⟩
    | false =>
     rw [Ap]
     refine ⟨_, p1, 0, rfl, ?_⟩
     rw [show ((c.1, c.2.1, e1.1, e1.2.1, e1.2.2.1, e1.2.2.2.1, e1.2.2.2.2.1, c.2.2.2.2.2.2.2.1, c.2.2.2.2.2.2.2.2.1, c.2.2.2.2.2.2.2.2.2.1, c.2.2.2.2.2.2.2.2.2.2.1, c.2.2.2.2.2.2.2.2.2.2.2.1, true, c.2.2.2.2.2.2.2.2.2.2.2.2.2.1, c.2.2.2.2.2.2.2.2.2.2.2.2.2.2.1, ()) : Ag) = Dz c e1 by simp only [Dz, hold]]
     exact plain
   | false =>
    rw [Ap]
    refine ⟨_, p1, 0, rfl, ?_⟩
    rw [show ((c.1, c.2.1, e1.1, e1.2.1, e1.2.2.1, e1.2.2.2.1, e1.2.2.2.2.1, c.2.2.2.2.2.2.2.1, c.2.2.2.2.2.2.2.2.1, c.2.2.2.2.2.2.2.2.2.1, c.2.2.2.2.2.2.2.2.2.2.1, c.2.2.2.2.2.2.2.2.2.2.2.1, false, c.2.2.2.2.2.2.2.2.2.2.2.2.2.1, c.2.2.2.2.2.2.2.2.2.2.2.2.2.2.1, ()) : Ag) = Dz c e1 by simp only [Dz, hold]]
    exact plain
  ·simp only [show (z1 != (0 : Int)) = true by simpa using hz, Ay]
   exact nope z1 hz
 | false =>
  simp only [Ap]
  have nxt : ∃ c' p z, (br (decide ((c.2.2.2.2.2.2.2.2.2.2.2.2.2.2.1.length : Int) > (0 : Int))) (br (f.2.2.2.2.2.2.2.1 == IntKind.i64.wrap (c.2.2.1 + (1 : Int))) (br (z3 != (0 : Int)) (some (c, (([] : List YB), ()), (z3, ()))) (some ((c.1, c.2.1, e3.1, e3.2.1, e3.2.2.1, e3.2.2.2.1, e3.2.2.2.2.1, c.2.2.1, c.2.2.2.1, c.2.2.2.2.1, c.2.2.2.2.2.1, c.2.2.2.2.2.2.1, true, IntKind.i64.wrap (n.1 + (5 : Int)), ([] : List YB), ()), (p3, ()), ((0 : Int), ())))) (some (c, (([] : List YB), ()), ((8 : Int), ())))) (some (c, (([] : List YB), ()), ((8 : Int), ())))) = some (c', (p, ()), (z, ())) ∧ ChO c n.1 f c' p z := by
   cases hnx : decide ((c.2.2.2.2.2.2.2.2.2.2.2.2.2.2.1.length : Int) > (0 : Int)) with
   | false => exact nope 8 (by decide)
   | true =>
   have hnx' : (c.2.2.2.2.2.2.2.2.2.2.2.2.2.2.1.length : Int) > 0 := of_decide_eq_true hnx
   obtain ⟨k1, k2, k3⟩ := f5.resolve_left (by omega)
   simp only [Ay]
   cases q3 : (f.2.2.2.2.2.2.2.1 == IntKind.i64.wrap (c.2.2.1 + (1 : Int))) with
   | false => exact nope 8 (by decide)
   | true =>
   rw [hwN] at q3
   have q3 : f.2.2.2.2.2.2.2.1 = c.2.2.1 + 1 := by simpa using q3
   simp only [Ay]
   by_cases hz : z3 = 0
   ·subst hz
    simp only [show ((0 : Int) != (0 : Int)) = false from rfl, Ap, hw5]
    obtain ⟨o1, o2, o3, o4, o5⟩ := E3.ok rfl
    obtain ⟨g1, g2⟩ := pl (Eh o1).2.1 o5
    have hN : e3.1 = c.2.2.1 + 1 := by rw [o2]; show en.1 = _; rw [← o4, q3]
    have hs0 : e3.2.2.1 = 0 := by
     rw [o2]
     show en.2.2.1 = 0
     unfold Kh Uh at n2
     simp only [Ah, Ak, Ae, Am, C6, Al] at n2
     cases hb : inR (IntKind.i64.wrap (c.2.2.1 + (1 : Int))) 0 4294967295 with
     | false =>
      rw [hb] at n2
      simp only [Bool.not_false, Ay, Option.some.injEq] at n2
      rw [← n2]
     | true =>
      rw [hb] at n2
      simp only [Bool.not_true, Ap] at n2
      rw [Cg (by simp; omega), Axi, Axj] at n2
      simp only [Al] at n2
      rw [Ao (by simp; omega), A8] at n2
      simp only [Option.some.injEq] at n2
      rw [← n2]
    obtain ⟨_, l1, l2⟩ := Eh o3
    have hmv := Bk9 (u := n.1 + 5) ho o3 hN (by omega)
    refine ⟨moved c e3 (n.1 + 5), p3, 0, rfl, ?_, hpn _ g1, fun h => (h rfl).elim, fun _ => ⟨ho, hmv, hn', hfo, hse, hsn, rfl, rfl, g1, g2, .inr ⟨hN, rfl, hs0, q3, k2⟩⟩⟩
    simp only [Az, moved, List.length_nil]; omega
   ·simp only [show (z3 != (0 : Int)) = true by simpa using hz, Ay]
    exact nope z3 hz
  cases hold : c.2.2.2.2.2.2.2.2.2.2.2.2.1 with
  | false => exact nxt
  | true =>
   simp only [Ay]
   obtain ⟨v1, v2, v3⟩ := Ahd f4 hold f6
   have old : ∃ c' p z, (br (z2 != (0 : Int)) (some (c, (([] : List YB), ()), (z2, ()))) (some ((c.1, c.2.1, c.2.2.1, c.2.2.2.1, c.2.2.2.2.1, c.2.2.2.2.2.1, c.2.2.2.2.2.2.1, e2.1, e2.2.1, e2.2.2.1, e2.2.2.2.1, e2.2.2.2.2.1, true, c.2.2.2.2.2.2.2.2.2.2.2.2.2.1, c.2.2.2.2.2.2.2.2.2.2.2.2.2.2.1, ()), (p2, ()), ((0 : Int), ())))) = some (c', (p, ()), (z, ())) ∧ ChO c n.1 f c' p z := by
    by_cases hz : z2 = 0
    ·subst hz
     simp only [show ((0 : Int) != (0 : Int)) = false from rfl, Ap]
     obtain ⟨o1, o2, o3, o4, o5⟩ := E2.ok rfl
     obtain ⟨g1, g2⟩ := pl (Eh o1).2.1 o5
     have hwo := Bgw ho hold o3 (by rw [o2]; rfl)
     refine ⟨_, p2, 0, rfl, ?_⟩
     rw [show ((c.1, c.2.1, c.2.2.1, c.2.2.2.1, c.2.2.2.2.1, c.2.2.2.2.2.1, c.2.2.2.2.2.2.1, e2.1, e2.2.1, e2.2.2.1, e2.2.2.2.1, e2.2.2.2.2.1, true, c.2.2.2.2.2.2.2.2.2.2.2.2.2.1, c.2.2.2.2.2.2.2.2.2.2.2.2.2.2.1, ()) : Ag) = Ajh c e2 by simp only [Ajh, hold]]
     exact ⟨by simp only [Az, Ajh]; omega, hpn _ g1, fun h => (h rfl).elim, fun _ => ⟨ho, hwo, hn', hfo, hse, hsn, rfl, rfl, g1, g2, .inl ⟨rfl, rfl, rfl, rfl⟩⟩⟩
    ·simp only [show (z2 != (0 : Int)) = true by simpa using hz, Ay]
     exact nope z2 hz
   cases q2 : (f.2.2.2.2.2.2.2.1 == c.2.2.2.2.2.2.2.1) with
   | false => exact nxt
   | true =>
    simp only [Ay]
    cases (c.2.2.2.2.2.2.2.2.2.2.2.2.2.1 != (-1 : Int)) with
    | false => exact old
    | true =>
     simp only [Ay]
     cases decide (n.1 > c.2.2.2.2.2.2.2.2.2.2.2.2.2.1) with
     | true => exact nope 9 (by decide)
     | false => exact old
theorem Bdj (c : Ag) (n : YI) (f : Aa) (h : Az c ≤ 67000000) (h2 : An f ≤ 67108864) (w1 : wfB f.2.2.2.1) (w2 : wfB c.2.1) :
  ∃ c' p z, Mh c n f = some (c', (p, ()), (z, ())) ∧ Hj c n f = some (c', (p, ()), (z, ())) ∧ ChO c n.1 f c' p z := by
 obtain ⟨c', p, z, k1, k2⟩ := Bgx c n f h h2 w1 w2
 exact ⟨c', p, z, (Bdi c n f h h2 w1 w2).trans k1, k1, k2⟩
theorem Bjh (c : Ag) (n : YI) (h : Az c ≤ 67000000) : ∃ k b, Zz c n = some ((k, ()), (b, ())) ∧ Zv c n = some ((k, ()), (b, ())) ∧ k.length ≤ Az c ∧ (k.length = 0 ∨ k.length = 32) := by
 have hc := h
 simp only [Az] at hc
 unfold Zz Alj Zv Akp
 simp only [Ah, Ak, Ae, Am, List.length_nil, Nat.zero_add, List.nil_append]
 rw [Adb c (by dsimp only [H0]; omega) (by dsimp only [N0]; omega), Adc c]
 simp only [Al]
 cases ho : By c with
 | false => exact ⟨[], false, rfl, rfl, by simp, .inl rfl⟩
 | true =>
 obtain ⟨f1, f2, f3, f4, f5⟩ := Hv ho
 obtain ⟨f6, f7, f8⟩ := Eh f3
 simp only [Bool.not_true, Ap]
 rw [Cz _ (by dsimp only; omega), Cz _ (by dsimp only; omega), Cz _ (by dsimp only; omega), Ao (p := c.2.2.2.2.2.2.2.2.1.length ≤ 4294967296) (by omega), Ao (p := c.2.2.2.1.length ≤ 4294967296) (by omega), Ao (p := c.2.2.2.2.2.2.2.2.2.2.2.2.2.2.1.length ≤ 4294967296) (by omega)]
 simp only [Al, A8]
 have none : ∃ k b, some ((([] : List YB), ()), (false, ())) = some ((k, ()), (b, ())) ∧ some ((([] : List YB), ()), (false, ())) = some ((k, ()), (b, ())) ∧ k.length ≤ Az c ∧ (k.length = 0 ∨ k.length = 32) := ⟨[], false, rfl, rfl, by simp, .inl rfl⟩
 have rest : ∃ k b, br (n.1 == c.2.2.1) (some ((c.2.2.2.1, ()), (true, ()))) (br (decide ((c.2.2.2.2.2.2.2.2.2.2.2.2.2.2.1.length : Int) > (0 : Int))) (br (n.1 == IntKind.i64.wrap (c.2.2.1 + (1 : Int))) (some ((c.2.2.2.2.2.2.2.2.2.2.2.2.2.2.1, ()), (true, ()))) (some (([], ()), (false, ())))) (some (([], ()), (false, ())))) = some ((k, ()), (b, ())) ∧ br (n.1 == c.2.2.1) (some ((c.2.2.2.1, ()), (true, ()))) (br (decide ((c.2.2.2.2.2.2.2.2.2.2.2.2.2.2.1.length : Int) > (0 : Int))) (br (n.1 == IntKind.i64.wrap (c.2.2.1 + (1 : Int))) (some ((c.2.2.2.2.2.2.2.2.2.2.2.2.2.2.1, ()), (true, ()))) (some (([], ()), (false, ())))) (some (([], ()), (false, ())))) = some ((k, ()), (b, ())) ∧ k.length ≤ Az c ∧ (k.length = 0 ∨ k.length = 32) := by
  cases (n.1 == c.2.2.1) with
  | true => exact ⟨_, true, rfl, rfl, by simp only [Az]; omega, .inr f7⟩
  | false =>
   simp only [Ap]
   cases decide ((c.2.2.2.2.2.2.2.2.2.2.2.2.2.2.1.length : Int) > (0 : Int)) with
   | false => exact none
   | true =>
    simp only [Ay]
    cases (n.1 == IntKind.i64.wrap (c.2.2.1 + (1 : Int))) with
    | false => exact none
    | true => exact ⟨_, true, rfl, rfl, by simp only [Az]; omega, f5.imp id fun q => q.2.1⟩
 cases hold : c.2.2.2.2.2.2.2.2.2.2.2.2.1 with
 | false => exact rest
 | true =>
  simp only [Ay]
  obtain ⟨v1, v2, v3⟩ := Ahd f4 hold f6
  cases (n.1 == c.2.2.2.2.2.2.2.1) with
  | true => exact ⟨_, true, rfl, rfl, by simp only [Az]; omega, .inr (Eh v1).2.1⟩
  | false => exact rest
def Am9 (k s b : List YB) : Af := ((16 : Int), (0 : Int), (0 : Int), [], s, (0 : Int), (0 : Int), b, k, (0 : Int), (0 : Int), (0 : Int), ())
theorem Bn6 (k s b : List YB) (h1 : k.length ≤ 4294967296) (h2 : s.length ≤ 4294967296) (h3 : b.length ≤ 4294967296) : Av5 (k, ()) (s, ()) (b, ()) = some (Am9 k s b) := by
 unfold Av5 Av4
 simp (disch := first | omega | (dsimp only; omega)) only [Ak, Ae, Cz, Al]
 rfl
theorem Bn7 (k s b : List YB) (h1 : k.length ≤ 4294967296) (h2 : s.length ≤ 4294967296) (h3 : b.length ≤ 4294967296) : Avz (k, ()) (s, ()) (b, ()) = some (Am9 k s b) := by
 unfold Avz Avy
 simp only [Am, Ae, List.length_nil, Nat.zero_add, List.nil_append]
 rw [Ao h1, Ao h2, Ao h3]
 rfl
end
end Go.Proofs.YtggdikabbngbaaaGreat

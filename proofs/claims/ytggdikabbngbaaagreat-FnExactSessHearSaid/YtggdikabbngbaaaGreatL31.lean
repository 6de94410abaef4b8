/-
  That the program and the reference answer alike, in plain terms, and that the laws answer true.
-/
import Derived.Test.YtggdikabbngbaaaGreatL30
namespace Go.Proofs.YtggdikabbngbaaaGreat
open Go.RowKit
set_option linter.unusedVariables false
set_option linter.unusedSimpArgs false
set_option maxRecDepth 100000
set_option maxHeartbeats 4000000
noncomputable section
def Ahq (c : Ak) (e : YEp) : Ak := (c.1, c.2.1, c.2.2.1, c.2.2.2.1, c.2.2.2.2.1, c.2.2.2.2.2.1, c.2.2.2.2.2.2.1, e.1, e.2.1, e.2.2.1, e.2.2.2.1, e.2.2.2.2.1, c.2.2.2.2.2.2.2.2.2.2.2.2.1, c.2.2.2.2.2.2.2.2.2.2.2.2.2.1, c.2.2.2.2.2.2.2.2.2.2.2.2.2.2.1, ())
def Wa (c : Ak) (u : Int) : Ak := (c.1, c.2.1, c.2.2.1, c.2.2.2.1, c.2.2.2.2.1, c.2.2.2.2.2.1, c.2.2.2.2.2.2.1, c.2.2.2.2.2.2.2.1, c.2.2.2.2.2.2.2.2.1, c.2.2.2.2.2.2.2.2.2.1, c.2.2.2.2.2.2.2.2.2.2.1, c.2.2.2.2.2.2.2.2.2.2.2.1, c.2.2.2.2.2.2.2.2.2.2.2.2.1, u, c.2.2.2.2.2.2.2.2.2.2.2.2.2.2.1, ())
def moved (c : Ak) (e : YEp) (u : Int) : Ak := (c.1, c.2.1, e.1, e.2.1, e.2.2.1, e.2.2.2.1, e.2.2.2.2.1, c.2.2.1, c.2.2.2.1, c.2.2.2.2.1, c.2.2.2.2.2.1, c.2.2.2.2.2.2.1, true, u, ([] : List YB), ())
def Bmg (e : YEp) (n : Int) : YEp := (e.1, e.2.1, e.2.2.1, (Jk (e.2.2.2.1, e.2.2.2.2.1, ()) n).1, (Jk (e.2.2.2.1, e.2.2.2.2.1, ()) n).2.1, ())
theorem Boa {e : YEp} {n : Int} (h : Er e = true) (hm : Ic (e.2.2.2.1, e.2.2.2.2.1, ()) n = true) : Er (Bmg e n) = true := by
 have hw := Bkh hm
 unfold Er at h ⊢
 simp only [Bool.and_eq_true] at h ⊢
 exact ⟨h.1, h.2.1, h.2.2.1, hw⟩
theorem EpO.ok {e : YEp} {r : Int} {f : Av} {e' : YEp} {p : List YB} {z : Int} (h : EpO e r f e' p z) (hz : z = 0) : Er e = true ∧ e' = Bmg e f.2.2.2.2.2.2.2.2.1 ∧ Er e' = true ∧ f.2.2.2.2.2.2.2.1 = e.1 ∧ p = mix e.2.1 (Dr r f.2.2.2.1 f.2.2.2.2.2.2.2.1 f.2.2.2.2.2.2.2.2.1) f.2.2.2.2.2.2.2.2.2.1 := by
 obtain ⟨h1, h2, h3, h4⟩ := h
 obtain ⟨k1, k2, k3, k4, k5⟩ := h4 hz
 have k2' : e' = Bmg e f.2.2.2.2.2.2.2.2.1 := k2
 exact ⟨k1, k2', by rw [k2']; exact Boa k1 k3, k4, k5⟩
theorem A1x {f : Av} (h : Ej f = true) (hs : inR f.1 4 8 = true) : f.2.2.2.1.length = 12 ∧ (0 ≤ f.2.2.2.2.2.2.2.1 ∧ f.2.2.2.2.2.2.2.1 ≤ 4294967295) ∧ (0 ≤ f.2.2.2.2.2.2.2.2.1 ∧ f.2.2.2.2.2.2.2.2.1 ≤ 281474976710655) ∧ Ji f.1 (f.2.2.2.2.2.2.2.2.2.1.length : Int) = true ∧ f.2.2.2.2.2.2.2.2.2.1.length ≤ 40 := by
 unfold Ej at h
 rw [hs] at h
 simp only [cond_true, Bool.and_eq_true, C6, beq_iff_eq] at h
 have hb := h.2.2.2.2.2.2.2.2.1
 have := Bn8 hb
 exact ⟨by omega, h.2.2.2.2.2.2.1, h.2.2.2.2.2.2.2.1, hb, by omega⟩
def ChO (c : Ak) (n : Int) (f : Av) (c' : Ak) (p : List YB) (z : Int) : Prop :=
 Ar c' ≤ Ar c + 200 ∧ p.length ≤ A1 f ∧ (z ≠ 0 → c' = c ∧ p = []) ∧
 (z = 0 → Cj c = true ∧ Cj c' = true ∧ (0 ≤ n ∧ n ≤ 1000000) ∧ Ej f = true ∧ inR f.1 4 8 = true ∧ f.2.2.2.1 = c.2.1 ∧ c'.1 = c.1 ∧ c'.2.1 = c.2.1 ∧
  p.length = f.2.2.2.2.2.2.2.2.2.1.length ∧ wfB p ∧
  ((c'.2.2.1 = c.2.2.1 ∧ L6 c' = L6 c ∧ c'.2.2.2.2.1 = c.2.2.2.2.1 ∧ c'.2.2.2.1 = c.2.2.2.1) ∨ (c'.2.2.1 = c.2.2.1 + 1 ∧ L6 c' = [] ∧ c'.2.2.2.2.1 = 0 ∧ f.2.2.2.2.2.2.2.1 = c.2.2.1 + 1 ∧ (L6 c).length = 32)))
theorem Bbk {c : Ak} {u : Int} (h : Cj c = true) (hh : Ti c = true) (hu : 0 ≤ u ∧ u ≤ 1000005) : Cj (Wa c u) = true := by
 unfold Cj at h ⊢
 simp only [Bool.not_not, Bool.and_eq_true] at h ⊢
 refine ⟨h.1, h.2.1, h.2.2.1, ?_, h.2.2.2.2⟩
 have ho := h.2.2.2.1
 unfold My at ho ⊢
 rw [hh] at ho
 have hh' : Ti (Wa c u) = true := hh
 rw [hh']
 simp only [Bool.not_true, cond_false, Bool.not_not, Bool.and_eq_true, Bool.or_eq_true] at ho ⊢
 exact ⟨ho.1, ho.2.1, .inl (C6.2 hu)⟩
theorem Bh4 {c : Ak} {e : YEp} (h : Cj c = true) (hh : Ti c = true) (he : Er e = true) (h1 : e.1 = (J6 c).1) : Cj (Ahq c e) = true := by
 unfold Cj at h ⊢
 simp only [Bool.not_not, Bool.and_eq_true] at h ⊢
 refine ⟨h.1, h.2.1, h.2.2.1, ?_, h.2.2.2.2⟩
 have ho := h.2.2.2.1
 unfold My at ho ⊢
 rw [hh] at ho
 have hh' : Ti (Ahq c e) = true := hh
 rw [hh']
 simp only [Bool.not_true, cond_false, Bool.not_not, Bool.and_eq_true, Bool.or_eq_true] at ho ⊢
 refine ⟨he, ?_, ho.2.2⟩
 have := ho.2.1
 rw [← h1] at this
 exact this
theorem Bmh {c : Ak} {e : YEp} {u : Int} (h : Cj c = true) (he : Er e = true) (h1 : e.1 = c.2.2.1 + 1) (hu : 0 ≤ u ∧ u ≤ 1000005) : Cj (moved c e u) = true := by
 obtain ⟨f1, f2, f3, f4, f5⟩ := Id h
 have f6 := (D4 f3).1
 have f7 := (D4 he).1
 unfold Cj at h ⊢
 simp only [Bool.not_not, Bool.and_eq_true] at h ⊢
 refine ⟨h.1, h.2.1, he, ?_, ?_⟩
 ·unfold My
  have hh : Ti (moved c e u) = true := rfl
  rw [hh]
  simp only [Bool.not_true, cond_false, Bool.not_not, Bool.and_eq_true, Bool.or_eq_true, Bool.not_eq_true', bne_eq_false_iff_eq]
  refine ⟨f3, ?_, .inl (C6.2 hu)⟩
  show c.2.2.1 = IntKind.i64.wrap (e.1 - 1)
  have f6' : 0 ≤ c.2.2.1 ∧ c.2.2.1 ≤ 4294967295 := f6
  rw [w64 (by omega)]; omega
 ·show (((([] : List YB).length : Int) == 0) || _) = true
  rfl
theorem Bh5 (c : Ak) (n : YI) (f : Av) (h : Ar c ≤ 67000000) (h2 : A1 f ≤ 67108864) (w1 : wfB f.2.2.2.1) (w2 : wfB c.2.1) :
  ∃ c' p z, Hx c n f = some (c', (p, ()), (z, ())) ∧ ChO c n.1 f c' p z := by
 have hc := h
 simp only [Ar] at hc
 unfold Hx R7
 simp only [Ae, Ag, Ab]
 rw [Oa c (by omega), N6 c, Dm, U2, Arj, Abq]
 simp only [Ah]
 have nope : ∀ z : Int, z ≠ 0 → ∃ c' p z', some (c, (([] : List YB), ()), (z, ())) = some (c', (p, ()), (z', ())) ∧ ChO c n.1 f c' p z' := fun z hz =>
  ⟨c, [], z, rfl, by omega, by simp, fun _ => ⟨rfl, rfl⟩, fun h => (hz h).elim⟩
 cases ho : Cj c with
 | false => exact nope 1 (by decide)
 | true =>
 cases hn : inR n.1 0 1000000 with
 | false => exact nope 1 (by decide)
 | true =>
 simp only [Bool.not_true, An]
 cases hfo : Ej f with
 | false => exact nope 1 (by decide)
 | true =>
 simp only [Bool.not_true, An]
 cases hse : inR f.1 4 8 with
 | false => exact nope 1 (by decide)
 | true =>
 simp only [Bool.not_true, An]
 have hn' := C6.1 hn
 obtain ⟨b1, b2, b3, b4, b5⟩ := A1x hfo hse
 obtain ⟨f1, f2, f3, f4, f5⟩ := Id ho
 obtain ⟨f6, f7, f8⟩ := D4 f3
 have f6 : 0 ≤ c.2.2.1 ∧ c.2.2.1 ≤ 4294967295 := f6
 have hwN : IntKind.i64.wrap (c.2.2.1 + (1 : Int)) = c.2.2.1 + 1 := w64 (by omega)
 have hw5 : IntKind.i64.wrap (n.1 + (5 : Int)) = n.1 + 5 := w64 (by omega)
 have hr : IntKind.i64.wrap ((1 : Int) - c.1) = 1 - c.1 := w64 (by omega)
 obtain ⟨e1, p1, z1, _, s1, E1⟩ := Adb (c.2.2.1, c.2.2.2.1, c.2.2.2.2.1, c.2.2.2.2.2.1, c.2.2.2.2.2.2.1, ()) (1 - c.1) f (by simp only [Bb]; omega) (by omega)
 obtain ⟨e2, p2, z2, _, s2, E2⟩ := Adb (c.2.2.2.2.2.2.2.1, c.2.2.2.2.2.2.2.2.1, c.2.2.2.2.2.2.2.2.2.1, c.2.2.2.2.2.2.2.2.2.2.1, c.2.2.2.2.2.2.2.2.2.2.2.1, ()) (1 - c.1) f (by simp only [Bb]; omega) (by omega)
 obtain ⟨en, n1, n2, n3⟩ := Bba (IntKind.i64.wrap (c.2.2.1 + (1 : Int)), ()) (c.2.2.2.2.2.2.2.2.2.2.2.2.2.2.1, ())
 obtain ⟨e3, p3, z3, _, s3, E3⟩ := Adb en (1 - c.1) f (by omega) (by omega)
 rw [hr, s1, s2, n2]
 simp only [Ah]
 rw [s3]
 simp only [Ah]
 cases hs : Ew f.2.2.2.1 c.2.1 with
 | false => exact nope 8 (by decide)
 | true =>
 have hsn := Bbd w1 w2 hs
 simp only [Bool.not_true, An]
 have pl : ∀ {k : List YB} {p : List YB}, k.length = 32 → p = mix k (Dr (1 - c.1) f.2.2.2.1 f.2.2.2.2.2.2.2.1 f.2.2.2.2.2.2.2.2.1) f.2.2.2.2.2.2.2.2.2.1 → p.length = f.2.2.2.2.2.2.2.2.2.1.length ∧ wfB p := fun {k p} hk hp => by
  have hl : (Dr (1 - c.1) f.2.2.2.1 f.2.2.2.2.2.2.2.1 f.2.2.2.2.2.2.2.2.1).length ≤ 23 := by
   rw [N9]; cases Fl (1 - c.1) f.2.2.2.1 f.2.2.2.2.2.2.2.1 f.2.2.2.2.2.2.2.2.1 <;> simp
  rw [hp]
  exact ⟨Bn9 (by omega) (by omega) (by omega), Bn7 _ _ _⟩
 have hnE1 : Bb e1 = Bb (F2 c) := E1.1
 have hnE2 : Bb e2 = Bb (J6 c) := E2.1
 simp only [Bb, F2] at hnE1
 simp only [Bb, J6] at hnE2
 have hpn : ∀ p : List YB, p.length = f.2.2.2.2.2.2.2.2.2.1.length → p.length ≤ A1 f := fun p h => by simp only [A1]; omega
 cases q1 : (f.2.2.2.2.2.2.2.1 == c.2.2.1) with
 | true =>
  simp only [A3]
  by_cases hz : z1 = 0
  ·subst hz
   simp only [show ((0 : Int) != (0 : Int)) = false from rfl, An]
   obtain ⟨o1, o2, o3, o4, o5⟩ := E1.ok rfl
   obtain ⟨g1, g2⟩ := pl f7 o5
   have hN : e1.1 = c.2.2.1 := by rw [o2]; rfl
   have hcur := A1w ho o3 hN
   have hk : e1.2.1 = c.2.2.2.1 := by rw [o2]; rfl
   have hq : e1.2.2.1 = c.2.2.2.2.1 := by rw [o2]; rfl
   have plain : ChO c n.1 f (Ec c e1) p1 0 := ⟨by simp only [Ar, Ec]; omega, hpn _ g1, fun h => (h rfl).elim, fun _ => ⟨ho, hcur, hn', hfo, hse, hsn, rfl, rfl, g1, g2, .inl ⟨hN, rfl, hq, hk⟩⟩⟩
   cases hold : c.2.2.2.2.2.2.2.2.2.2.2.2.1 with
   | true =>
    simp only [A3]
    cases hu : (c.2.2.2.2.2.2.2.2.2.2.2.2.2.1 == (-1 : Int)) with
    | true =>
     rw [A3, hw5]
     have hw := Bbk (c := Ec c e1) (u := n.1 + 5) hcur hold (by omega)
     refine ⟨_, p1, 0, rfl, ?_⟩
     rw [show ((c.1, c.2.1, e1.1, e1.2.1, e1.2.2.1, e1.2.2.2.1, e1.2.2.2.2.1, c.2.2.2.2.2.2.2.1, c.2.2.2.2.2.2.2.2.1, c.2.2.2.2.2.2.2.2.2.1, c.2.2.2.2.2.2.2.2.2.2.1, c.2.2.2.2.2.2.2.2.2.2.2.1, true, n.1 + 5, c.2.2.2.2.2.2.2.2.2.2.2.2.2.2.1, ()) : Ak) = Wa (Ec c e1) (n.1 + 5) by simp only [Wa, Ec, hold]]
     exact ⟨by simp only [Ar, Ec, Wa]; omega, hpn _ g1, fun h => (h rfl).elim, fun _ => ⟨ho, hw, hn', hfo, hse, hsn, rfl, rfl, g1, g2, .inl ⟨hN, rfl, hq, hk⟩⟩⟩
    | false =>
     rw [An]
     refine ⟨_, p1, 0, rfl, ?_⟩
     rw [show ((c.1, c.2.1, e1.1, e1.2.1, e1.2.2.1, e1.2.2.2.1, e1.2.2.2.2.1, c.2.2.2.2.2.2.2.1, c.2.2.2.2.2.2.2.2.1, c.2.2.2.2.2.2.2.2.2.1, c.2.2.2.2.2.2.2.2.2.2.1, c.2.2.2.2.2.2.2.2.2.2.2.1, true, c.2.2.2.2.2.2.2.2.2.2.2.2.2.1, c.2.2.2.2.2.2.2.2.2.2.2.2.2.2.1, ()) : Ak) = Ec c e1 by simp only [Ec, hold]]
     exact plain
   | false =>
    rw [An]
    refine ⟨_, p1, 0, rfl, ?_⟩
    rw [show ((c.1, c.2.1, e1.1, e1.2.1, e1.2.2.1, e1.2.2.2.1, e1.2.2.2.2.1, c.2.2.2.2.2.2.2.1, c.2.2.2.2.2.2.2.2.1, c.2.2.2.2.2.2.2.2.2.1, c.2.2.2.2.2.2.2.2.2.2.1, c.2.2.2.2.2.2.2.2.2.2.2.1, false, c.2.2.2.2.2.2.2.2.2.2.2.2.2.1, c.2.2.2.2.2.2.2.2.2.2.2.2.2.2.1, ()) : Ak) = Ec c e1 by simp only [Ec, hold]]
    exact plain
  ·simp only [show (z1 != (0 : Int)) = true by simpa using hz, A3]
   exact nope z1 hz
 | false =>
  simp only [An]
  have nxt : ∃ c' p z, (br (decide ((c.2.2.2.2.2.2.2.2.2.2.2.2.2.2.1.length : Int) > (0 : Int))) (br (f.2.2.2.2.2.2.2.1 == IntKind.i64.wrap (c.2.2.1 + (1 : Int))) (br (z3 != (0 : Int)) (some (c, (([] : List YB), ()), (z3, ()))) (some ((c.1, c.2.1, e3.1, e3.2.1, e3.2.2.1, e3.2.2.2.1, e3.2.2.2.2.1, c.2.2.1, c.2.2.2.1, c.2.2.2.2.1, c.2.2.2.2.2.1, c.2.2.2.2.2.2.1, true, IntKind.i64.wrap (n.1 + (5 : Int)), ([] : List YB), ()), (p3, ()), ((0 : Int), ())))) (some (c, (([] : List YB), ()), ((8 : Int), ())))) (some (c, (([] : List YB), ()), ((8 : Int), ())))) = some (c', (p, ()), (z, ())) ∧ ChO c n.1 f c' p z := by
   cases hnx : decide ((c.2.2.2.2.2.2.2.2.2.2.2.2.2.2.1.length : Int) > (0 : Int)) with
   | false => exact nope 8 (by decide)
   | true =>
   have hnx' : (c.2.2.2.2.2.2.2.2.2.2.2.2.2.2.1.length : Int) > 0 := of_decide_eq_true hnx
   obtain ⟨k1, k2, k3⟩ := f5.resolve_left (by omega)
   simp only [A3]
   cases q3 : (f.2.2.2.2.2.2.2.1 == IntKind.i64.wrap (c.2.2.1 + (1 : Int))) with
   | false => exact nope 8 (by decide)
   | true =>
   rw [hwN] at q3
   have q3 : f.2.2.2.2.2.2.2.1 = c.2.2.1 + 1 := by simpa using q3
   simp only [A3]
   by_cases hz : z3 = 0
   ·subst hz
    simp only [show ((0 : Int) != (0 : Int)) = false from rfl, An, hw5]
    obtain ⟨o1, o2, o3, o4, o5⟩ := E3.ok rfl
    obtain ⟨g1, g2⟩ := pl (D4 o1).2.1 o5
    have hN : e3.1 = c.2.2.1 + 1 := by rw [o2]; show en.1 = _; rw [← o4, q3]
    have hs0 : e3.2.2.1 = 0 := by
     rw [o2]
     show en.2.2.1 = 0
     unfold K4 Vw at n2
     simp only [Ae, Ag, Ab, Ai, Dm, Ah] at n2
     cases hb : inR (IntKind.i64.wrap (c.2.2.1 + (1 : Int))) 0 4294967295 with
     | false =>
      rw [hb] at n2
      simp only [Bool.not_false, A3, Option.some.injEq] at n2
      rw [← n2]
     | true =>
      rw [hb] at n2
      simp only [Bool.not_true, An] at n2
      rw [Dw (by simp; omega), Axj, Axk] at n2
      simp only [Ah] at n2
      rw [Ao (by simp; omega), A8] at n2
      simp only [Option.some.injEq] at n2
      rw [← n2]
    obtain ⟨_, l1, l2⟩ := D4 o3
    have hmv := Bmh (u := n.1 + 5) ho o3 hN (by omega)
    refine ⟨moved c e3 (n.1 + 5), p3, 0, rfl, ?_, hpn _ g1, fun h => (h rfl).elim, fun _ => ⟨ho, hmv, hn', hfo, hse, hsn, rfl, rfl, g1, g2, .inr ⟨hN, rfl, hs0, q3, k2⟩⟩⟩
    simp only [Ar, moved, List.length_nil]; omega
   ·simp only [show (z3 != (0 : Int)) = true by simpa using hz, A3]
    exact nope z3 hz
  cases hold : c.2.2.2.2.2.2.2.2.2.2.2.2.1 with
  | false => exact nxt
  | true =>
   simp only [A3]
   obtain ⟨v1, v2, v3⟩ := Afw f4 hold f6
   have old : ∃ c' p z, (br (z2 != (0 : Int)) (some (c, (([] : List YB), ()), (z2, ()))) (some ((c.1, c.2.1, c.2.2.1, c.2.2.2.1, c.2.2.2.2.1, c.2.2.2.2.2.1, c.2.2.2.2.2.2.1, e2.1, e2.2.1, e2.2.2.1, e2.2.2.2.1, e2.2.2.2.2.1, true, c.2.2.2.2.2.2.2.2.2.2.2.2.2.1, c.2.2.2.2.2.2.2.2.2.2.2.2.2.2.1, ()), (p2, ()), ((0 : Int), ())))) = some (c', (p, ()), (z, ())) ∧ ChO c n.1 f c' p z := by
    by_cases hz : z2 = 0
    ·subst hz
     simp only [show ((0 : Int) != (0 : Int)) = false from rfl, An]
     obtain ⟨o1, o2, o3, o4, o5⟩ := E2.ok rfl
     obtain ⟨g1, g2⟩ := pl (D4 o1).2.1 o5
     have hwo := Bh4 ho hold o3 (by rw [o2]; rfl)
     refine ⟨_, p2, 0, rfl, ?_⟩
     rw [show ((c.1, c.2.1, c.2.2.1, c.2.2.2.1, c.2.2.2.2.1, c.2.2.2.2.2.1, c.2.2.2.2.2.2.1, e2.1, e2.2.1, e2.2.2.1, e2.2.2.2.1, e2.2.2.2.2.1, true, c.2.2.2.2.2.2.2.2.2.2.2.2.2.1, c.2.2.2.2.2.2.2.2.2.2.2.2.2.2.1, ()) : Ak) = Ahq c e2 by simp only [Ahq, hold]]
     exact ⟨by simp only [Ar, Ahq]; omega, hpn _ g1, fun h => (h rfl).elim, fun _ => ⟨ho, hwo, hn', hfo, hse, hsn, rfl, rfl, g1, g2, .inl ⟨rfl, rfl, rfl, rfl⟩⟩⟩
    ·simp only [show (z2 != (0 : Int)) = true by simpa using hz, A3]
     exact nope z2 hz
   cases q2 : (f.2.2.2.2.2.2.2.1 == c.2.2.2.2.2.2.2.1) with
   | false => exact nxt
   | true =>
    simp only [A3]
    cases (c.2.2.2.2.2.2.2.2.2.2.2.2.2.1 != (-1 : Int)) with
    | false => exact old
    | true =>
     simp only [A3]
     cases decide (n.1 > c.2.2.2.2.2.2.2.2.2.2.2.2.2.1) with
     | true => exact nope 9 (by decide)
     | false => exact old
theorem Bez (c : Ak) (n : YI) (f : Av) (h : Ar c ≤ 67000000) (h2 : A1 f ≤ 67108864) (w1 : wfB f.2.2.2.1) (w2 : wfB c.2.1) :
  ∃ c' p z, Nk c n f = some (c', (p, ()), (z, ())) ∧ Hx c n f = some (c', (p, ()), (z, ())) ∧ ChO c n.1 f c' p z := by
 obtain ⟨c', p, z, k1, k2⟩ := Bh5 c n f h h2 w1 w2
 exact ⟨c', p, z, (Bey c n f h h2 w1 w2).trans k1, k1, k2⟩
theorem Bki (c : Ak) (n : YI) (h : Ar c ≤ 67000000) : ∃ k b, Xv c n = some ((k, ()), (b, ())) ∧ Xp c n = some ((k, ()), (b, ())) ∧ k.length ≤ Ar c ∧ (k.length = 0 ∨ k.length = 32) := by
 have hc := h
 simp only [Ar] at hc
 unfold Xv Aju Xp Ai0
 simp only [Ae, Ag, Ab, Ai, List.length_nil, Nat.zero_add, List.nil_append]
 rw [Q9 c (by dsimp only [F2]; omega) (by dsimp only [J6]; omega), N6 c]
 simp only [Ah]
 cases ho : Cj c with
 | false => exact ⟨[], false, rfl, rfl, by simp, .inl rfl⟩
 | true =>
 obtain ⟨f1, f2, f3, f4, f5⟩ := Id ho
 obtain ⟨f6, f7, f8⟩ := D4 f3
 simp only [Bool.not_true, An]
 rw [Dn _ (by dsimp only; omega), Dn _ (by dsimp only; omega), Dn _ (by dsimp only; omega), Ao (p := c.2.2.2.2.2.2.2.2.1.length ≤ 4294967296) (by omega), Ao (p := c.2.2.2.1.length ≤ 4294967296) (by omega), Ao (p := c.2.2.2.2.2.2.2.2.2.2.2.2.2.2.1.length ≤ 4294967296) (by omega)]
 simp only [Ah, A8]
 have none : ∃ k b, some ((([] : List YB), ()), (false, ())) = some ((k, ()), (b, ())) ∧ some ((([] : List YB), ()), (false, ())) = some ((k, ()), (b, ())) ∧ k.length ≤ Ar c ∧ (k.length = 0 ∨ k.length = 32) := ⟨[], false, rfl, rfl, by simp, .inl rfl⟩
 have rest : ∃ k b, br (n.1 == c.2.2.1) (some ((c.2.2.2.1, ()), (true, ()))) (br (decide ((c.2.2.2.2.2.2.2.2.2.2.2.2.2.2.1.length : Int) > (0 : Int))) (br (n.1 == IntKind.i64.wrap (c.2.2.1 + (1 : Int))) (some ((c.2.2.2.2.2.2.2.2.2.2.2.2.2.2.1, ()), (true, ()))) (some (([], ()), (false, ())))) (some (([], ()), (false, ())))) = some ((k, ()), (b, ())) ∧ br (n.1 == c.2.2.1) (some ((c.2.2.2.1, ()), (true, ()))) (br (decide ((c.2.2.2.2.2.2.2.2.2.2.2.2.2.2.1.length : Int) > (0 : Int))) (br (n.1 == IntKind.i64.wrap (c.2.2.1 + (1 : Int))) (some ((c.2.2.2.2.2.2.2.2.2.2.2.2.2.2.1, ()), (true, ()))) (some (([], ()), (false, ())))) (some (([], ()), (false, ())))) = some ((k, ()), (b, ())) ∧ k.length ≤ Ar c ∧ (k.length = 0 ∨ k.length = 32) := by
  cases (n.1 == c.2.2.1) with
  | true => exact ⟨_, true, rfl, rfl, by simp only [Ar]; omega, .inr f7⟩
  | false =>
   simp only [An]
   cases decide ((c.2.2.2.2.2.2.2.2.2.2.2.2.2.2.1.length : Int) > (0 : Int)) with
   | false => exact none
   | true =>
    simp only [A3]
    cases (n.1 == IntKind.i64.wrap (c.2.2.1 + (1 : Int))) with
    | false => exact none
    | true => exact ⟨_, true, rfl, rfl, by simp only [Ar]; omega, f5.imp id fun q => q.2.1⟩
 cases hold : c.2.2.2.2.2.2.2.2.2.2.2.2.1 with
 | false => exact rest
 | true =>
  simp only [A3]
  obtain ⟨v1, v2, v3⟩ := Afw f4 hold f6
  cases (n.1 == c.2.2.2.2.2.2.2.1) with
  | true => exact ⟨_, true, rfl, rfl, by simp only [Ar]; omega, .inr (D4 v1).2.1⟩
  | false => exact rest
def Gp (k s b : List YB) : A5 := ((16 : Int), (0 : Int), (0 : Int), [], s, (0 : Int), (0 : Int), b, k, (0 : Int), (0 : Int), (0 : Int), ())
theorem Bpf (k s b : List YB) (h1 : k.length ≤ 4294967296) (h2 : s.length ≤ 4294967296) (h3 : b.length ≤ 4294967296) : Avw (k, ()) (s, ()) (b, ()) = some (Gp k s b) := by
 unfold Avw Avv
 simp (disch := first | omega | (dsimp only; omega)) only [Ag, Ab, Dn, Ah]
 rfl
theorem Bpg (k s b : List YB) (h1 : k.length ≤ 4294967296) (h2 : s.length ≤ 4294967296) (h3 : b.length ≤ 4294967296) : Avn (k, ()) (s, ()) (b, ()) = some (Gp k s b) := by
 unfold Avn Avm
 simp only [Ai, Ab, List.length_nil, Nat.zero_add, List.nil_append]
 rw [Ao h1, Ao h2, Ao h3]
 rfl
end
end Go.Proofs.YtggdikabbngbaaaGreat

/-
  That the program and the reference answer alike, in plain terms, and that the laws answer true.
-/
import Derived.Test.YtggdikabbngbaaaGreatL33
namespace Go.Proofs.YtggdikabbngbaaaGreat
open Go.RowKit
set_option linter.unusedVariables false
set_option linter.unusedSimpArgs false
set_option maxRecDepth 100000
set_option maxHeartbeats 8000000
noncomputable section
theorem A7o (c : Ab) (n : YI) (f : Aa) (h : A9 c ≤ 8388608) (h2 : An f ≤ 8388608) (ho : Cb c = true) (hst : c.2.2.2.2.1 = 2 ∨ c.2.2.2.2.1 = 3) (w1 : wfB f.2.2.2.1) (w2 : wfB (Ec c).2.1) :
  ∃ r fs ns, Dj c n f = some (r, (fs, ()), (ns, ())) ∧ (Ij c n f c).val = some (r, (fs, ()), (ns, ())) ∧ ClH c f r fs ns := by
 have hch := Bi9 c
 obtain ⟨ch, p, z, o1, o2, O1, O2, O3, O4⟩ := Bdj (Ec c) n f (by omega) (by omega) w1 w2
 obtain ⟨k, kb, y1, y2, y3, y4⟩ := Bjh (Ec c) (f.2.2.2.2.2.2.2.1, ()) (by omega)
 have htl := Ahe 1 f
 have hfs : f.2.2.2.1.length ≤ An f := by simp only [An]; omega
 obtain ⟨y, g, z2, g1, g2, G⟩ := Bdg ch 6 p (by omega)
 obtain ⟨e', G1, G2, G3, G4, G5⟩ := G
 have hkn := Axl ch
 have hkn2 := Axl y
 have hkn3 := Axl (Ec c)
 have hsn : ch.2.1.length ≤ Az ch := by simp only [Az]; omega
 have hcn : c.2.2.2.2.2.1.length ≤ A9 c := by simp only [A9]; omega
 have hgs : g.2.2.2.1.length ≤ An g := by simp only [An]; omega
 have hck : c.2.2.2.2.2.2.2.2.2.2.2.2.2.2.2.2.2.2.2.2.1.length ≤ A9 c := by simp only [A9]; omega
 unfold Dj Sj
 simp only [Ah, Ak, Ae, Am, Blc, Aba, Abb, Abc, Abd, Abe, Abf, Abg, Abh, Abi, V8, V9, Wa, Wb, Wc, Wd, We, Wg, Wh, Wi, Wj, Wk, Wl, Wm, Wn, Wo, Wp, Wq, Wr, Ws, Wt, Wu, Wv, Ww, Wx, Wy, Wz, W0, W1, W2, W3, W4, W5, W6, W7, W8, W9, Xa, Xb, Xc, Xd, Xe, Xf, Xg, Xh, Xi, Xj, Xk, Xl, Xm, Xn, Xo, Xp, Xq, Xr, Xs, Xt, Xu, Xv, Xw, Xx, Xy, Xz, X0, X1, X3, X4, X5, X6, X7, X8, X9, Za, Zb, Zc, Zd, Ze, Zf, Zg, Zh, Zi, Zj, Zk, Zl, Zm, Zn, Zo, Zp, Zq, Zr, Ui, Uj, Uk, Ul, Um, Un, Uo, Ij]
 rw [Adk c (by omega)]
 rw [show Mh _ n f = some (ch, (p, ()), (z, ())) from o1, show Hj _ n f = some (ch, (p, ()), (z, ())) from o2, show Zz _ (f.2.2.2.2.2.2.2.1, ()) = some ((k, ()), (kb, ())) from y1, show Zv _ (f.2.2.2.2.2.2.2.1, ()) = some ((k, ()), (kb, ())) from y2, Rn _ _ (by omega), Ro _ _ (by omega)]
 simp only [Al]
 by_cases hz : z = 0
 case neg =>
  rw [Dq (by simpa using hz), Dq (by simpa using hz)]
  exact ⟨c, [], [], rfl, rfl, .none⟩
 case pos =>
 subst hz
 obtain ⟨P1, P2, P3, P4, P5, P6, P7, P8, P9, P10, P11⟩ := O4 rfl
 have hfc : f.2.2.2.1 = ch.2.1 := by rw [P6, P8]
 rw [Cg (by rfl), Cg (by rfl), Bn6 _ _ _ (by omega) (by omega) (by omega), Bn7 _ _ _ (by omega) (by omega) (by omega), g1, g2]
 simp only [Al]
 have lens : ∀ (a : Af) (l : List Af), [a].length ≤ 4294967296 := fun a l => by simp
 simp (disch := first | omega | (dsimp only; omega)) only [Cz, Bk3, Bi8, Al, hfc, List.length_cons, List.length_nil, List.length_append, Nat.zero_add, Nat.reduceAdd, Nat.reduceLeDiff, decide_true, A8]
 have hc0 : By (Ec c) = true ∧ (Ec c).1 = 0 ∧ c.2.2.2.2.2.1.length = 12 := by
  rcases hst with hs | hs
  ·obtain ⟨a1, a2, a3, _⟩ := Bjn ho hs
   exact ⟨a2, a3, a1⟩
  ·obtain ⟨a1, _, a2, a3, _⟩ := Bjo ho hs
   exact ⟨a2, a3, a1⟩
 obtain ⟨q1, q2, q3⟩ := hc0
 obtain ⟨k1, k2, k3⟩ := Aji ho
 obtain ⟨f1, f2, f3, f4, f5⟩ := Hv P2
 obtain ⟨f6, f7, f8⟩ := Eh f3
 have f6 : 0 ≤ ch.2.2.1 ∧ ch.2.2.1 ≤ 4294967295 := f6
 have f7 : ch.2.2.2.1.length = 32 := f7
 have fc := (Eh (Hv P1).2.2.1).2.1
 have fc : c.2.2.2.2.2.2.2.2.2.2.2.2.2.2.2.2.2.2.2.2.1.length = 32 := fc
 obtain ⟨b1, b2, b3, b4, b5⟩ := Am8 P4 P5
 have hsl : ch.2.1.length = 12 := by rw [← hfc]; exact b1
 have hU : J9 ((3 : Int), c.1, (0 : Int), c.2.2.2.2.2.1, ch.2.1, (0 : Int), (0 : Int), ([] : List YB), c.2.2.2.2.2.2.2.2.2.2.2.2.2.2.2.2.2.2.2.2.1, (0 : Int), (0 : Int), (0 : Int), ()) = true := by
  rw [K3]
  simp only [List.length_nil]
  exact ⟨by omega, by omega, by omega, by omega, by omega, by omega, .inr q3, .inr hsl, by omega, .inr fc, Ana⟩
 have hT : J9 ((10 : Int), (0 : Int), (0 : Int), ([] : List YB), ch.2.1, ch.2.2.1, (0 : Int), ([] : List YB), ch.2.2.2.1, (0 : Int), (0 : Int), (0 : Int), ()) = true := by
  rw [K3]
  simp only [List.length_nil]
  exact ⟨by omega, by omega, by omega, by omega, by omega, by omega, .inl trivial, .inr hsl, by omega, .inr f7, Ana⟩
 have hG : J9 ((6 : Int), (0 : Int), (1 : Int), ([] : List YB), ch.2.1, f.2.2.2.2.2.2.2.1, f.2.2.2.2.2.2.2.2.1, p, ([] : List YB), (0 : Int), (0 : Int), n.1, ()) = true := by
  rw [K3]
  simp only [List.length_nil]
  exact ⟨by omega, by omega, by omega, by omega, by omega, P3, .inl trivial, .inr hsl, by omega, .inl trivial, Ana⟩
 have hK : J9 (Am9 k ch.2.1 (Dv 1 f)) = true := Bla y4 (.inr hsl) (by omega)
 have tl := Ahe y.1 g
 have lU : Ci ((3 : Int), c.1, (0 : Int), c.2.2.2.2.2.1, ch.2.1, (0 : Int), (0 : Int), ([] : List YB), c.2.2.2.2.2.2.2.2.2.2.2.2.2.2.2.2.2.2.2.2.1, (0 : Int), (0 : Int), (0 : Int), ()) ≤ 400 := by
  simp only [Ci, List.length_nil]; omega
 have lT : Ci ((10 : Int), (0 : Int), (0 : Int), ([] : List YB), ch.2.1, ch.2.2.1, (0 : Int), ([] : List YB), ch.2.2.2.1, (0 : Int), (0 : Int), (0 : Int), ()) ≤ 400 := by
  simp only [Ci, List.length_nil]; omega
 have lG : Ci ((6 : Int), (0 : Int), (1 : Int), ([] : List YB), ch.2.1, f.2.2.2.2.2.2.2.1, f.2.2.2.2.2.2.2.2.1, p, ([] : List YB), (0 : Int), (0 : Int), n.1, ()) ≤ 400 := by
  simp only [Ci, List.length_nil]; omega
 have lK : Ci (Am9 k ch.2.1 (Dv 1 f)) ≤ 400 := by
  simp only [Ci, Am9, List.length_nil]; omega
 have hseal : z2 = 0 → g.2.2.2.1 = ch.2.1 ∧ By y = true ∧ y.1 = ch.1 ∧ C0 y = C0 ch ∧ Axm [g] ∧ J9 (Aex y g) = true ∧ J9 ((8 : Int), (0 : Int), (0 : Int), ([] : List YB), ch.2.1, g.2.2.2.2.2.2.2.1, (0 : Int), p, ([] : List YB), (0 : Int), (0 : Int), (0 : Int), ()) = true ∧ Ci (Aex y g) ≤ 400 ∧ Ci ((8 : Int), (0 : Int), (0 : Int), ([] : List YB), ch.2.1, g.2.2.2.2.2.2.2.1, (0 : Int), p, ([] : List YB), (0 : Int), (0 : Int), (0 : Int), ()) ≤ 400 := fun hz2 => by
  obtain ⟨w1, w2, w3, w4, w5, w6⟩ := G5 hz2
  have s1 : g.2.2.2.1 = ch.2.1 := by rw [w5]; exact Bjb w6
  have s2 : g.2.2.2.2.2.2.2.1 = ch.2.2.1 := by rw [w5]; unfold Eb; rw [w6]; rfl
  have s3 := A3i w6
  rw [← w5] at s3
  have s4 : y.2.2.2.1 = ch.2.2.2.1 := by rw [G1]; exact w4
  refine ⟨s1, w2, by rw [G1]; rfl, by rw [G1]; rfl, ?_, Blb w2, ?_, ?_, ?_⟩
  ·intro x hx
   simp only [List.mem_singleton] at hx
   rw [hx]; exact s3
  ·rw [K3]
   simp only [List.length_nil]
   exact ⟨by omega, by omega, by omega, by omega, by omega, by omega, .inl trivial, .inr hsl, by omega, .inl trivial, Ana⟩
  ·simp only [Ci, Aex, T8, List.length_nil, s4]; omega
  ·simp only [Ci, List.length_nil]; omega
 have leaf : ∀ {fi : Aa} {X : Ag} {t r : B9} {fs : List Aa} {ns : List Af}, (fi = Dy ∨ fi = Fx c) → Az X ≤ Az ch → (Cb (Jj c 3 fi X t r n.1) = true) → (fs = [] ∨ (fs = [g] ∧ Axm [g])) → ns ≠ [] → ns.length + Ad Ci ns ≤ 2406 → Fq ns → ClH c f (Jj c 3 fi X t r n.1) fs ns := fun {fi X t r fs ns} e1 e2 e3 e4 e5 e6 e7 => by
  refine ⟨?_, ?_, ?_, fun h => (e5 h).elim, ?_, rfl, rfl, rfl, fun _ => e3, ?_, e7⟩
  ·rcases e1 with rfl | rfl
   ·simp only [A9, Jj, Dy, List.length_nil, Az] at *; omega
   ·simp only [A9, Jj, Az] at *; omega
  ·rcases e4 with rfl | ⟨rfl, _⟩
   ·simp [Ad]
   ·simp only [Ad, List.length_cons, List.length_nil]; omega
  ·omega
  ·rcases e4 with rfl | ⟨rfl, _⟩ <;> simp
  ·rcases e4 with rfl | ⟨rfl, e⟩
   ·intro x hx; cases hx
   ·exact e
 have nN : ∀ l : List Af, Fq l ↔ ∀ x ∈ l, J9 x = true := fun _ => Iff.rfl
 have e54 : f.1 = 4 → (f.1 == 5) = false := fun h => by rw [h]; rfl
 have d1 : decide (c.2.2.2.2.2.1.length ≤ 4294967296) = true := Ao (by omega)
 have d2 : decide (ch.2.1.length ≤ 4294967296) = true := Ao (by omega)
 have d3 : decide (c.2.2.2.2.2.2.2.2.2.2.2.2.2.2.2.2.2.2.2.2.1.length ≤ 4294967296) = true := Ao (by omega)
 have d4 : decide (p.length ≤ 4294967296) = true := Ao (by omega)
 have d5 : decide (ch.2.2.2.1.length ≤ 4294967296) = true := Ao (by omega)
 simp only [d1, d2, d3, d4, d5, A8]
 clear w1 w2 o1 o2 y1 y2 g1 g2 O3 O4 d1 d2 d3 d4 d5
 rcases hst with hs | hs
 ·obtain ⟨_, a2, a3, a4, a5⟩ := Bjn ho hs
  have hN : ch.2.2.1 = (Ec c).2.2.1 ∧ C0 ch = C0 (Ec c) := by
   rcases P11 with ⟨x1, x2, _⟩ | ⟨_, _, _, _, x⟩
   ·exact ⟨x1, x2⟩
   ·omega
  have hNN : (ch.2.2.1 == c.2.2.2.2.2.2.2.2.2.2.2.2.2.2.2.2.2.2.2.1) = true := by simpa using hN.1
  have hcl : ∀ X : Ag, By X = true → X.1 = 0 → C0 X = C0 ch → Cb (Jj c 3 Dy X (false, 0, 0, 0, ()) (clR c) n.1) = true := fun X x1 x2 x3 =>
   Bgz ho q3 rfl x1 x2 rfl (by have := Aew (clR c); rw [a5] at this; simp at this; exact this.2) (by rw [x3, hN.2]; have := Aew (clR c); rw [a5] at this; simp at this; have hh : (clR c).1 = false := this.1; rw [hh]; simp; exact List.length_eq_zero_iff.1 a4) P3
  have hch' := hcl ch P2 (by rw [P7, q2]) rfl
  simp only [hs, hNN, bne, show ((2 : Int) == 2) = true by decide, Bool.not_true, Ap, Ay]
  cases h4 : (f.1 == 4) with
  | true =>
   have h5 := e54 (by simpa using h4)
   simp only [h5, Ap, Ay, Bool.not_false]
   refine ⟨_, _, _, rfl, rfl, ?_⟩; exact leaf (fi := Dy) (X := ch) (t := ((false, 0, 0, 0, ()) : B9)) (r := clR c) (.inl rfl) (by omega) hch' (.inl rfl) (by simp) (by simp only [Dw, Ad, List.length_append, List.length_cons, List.length_nil]; omega) (by unfold Fq; simp only [List.forall_mem_append, List.forall_mem_cons, hU, hT, hG, hK, true_and, and_true, List.not_mem_nil, false_imp_iff, implies_true])
  | false =>
   simp only [Ap, Ay]
   cases h5 : (f.1 == 5) with
   | false =>
    simp only [Ap, Ay, Bool.not_false, Bool.not_true]
    refine ⟨_, _, _, rfl, rfl, ?_⟩; exact leaf (fi := Dy) (X := ch) (t := ((false, 0, 0, 0, ()) : B9)) (r := clR c) (.inl rfl) (by omega) hch' (.inl rfl) (by simp) (by simp only [Dw, Ad, List.length_append, List.length_cons, List.length_nil]; omega) (by unfold Fq; simp only [List.forall_mem_append, List.forall_mem_cons, hU, hT, hG, hK, true_and, and_true, List.not_mem_nil, false_imp_iff, implies_true])
   | true =>
    simp only [Ap, Ay, Bool.not_false, Bool.not_true]
    cases hz2 : (z2 == 0) with
    | false =>
     simp only [Ap, Ay, Bool.not_false, Bool.not_true]
     refine ⟨_, _, _, rfl, rfl, ?_⟩; exact leaf (fi := Dy) (X := ch) (t := ((false, 0, 0, 0, ()) : B9)) (r := clR c) (.inl rfl) (by omega) hch' (.inl rfl) (by simp) (by simp only [Dw, Ad, List.length_append, List.length_cons, List.length_nil]; omega) (by unfold Fq; simp only [List.forall_mem_append, List.forall_mem_cons, hU, hT, hG, hK, true_and, and_true, List.not_mem_nil, false_imp_iff, implies_true])
    | true =>
     obtain ⟨s1, s2, s3, s4, s5, s6, s7, s8, s9⟩ := hseal (by simpa using hz2)
     simp only [Ap, Ay, Bool.not_false, Bool.not_true, s1]
     refine ⟨_, _, _, rfl, rfl, ?_⟩; exact leaf (fi := Dy) (X := y) (t := ((false, 0, 0, 0, ()) : B9)) (r := clR c) (.inl rfl) (by omega) (hcl y s2 (by rw [s3, P7, q2]) s4) (.inr ⟨rfl, s5⟩) (by simp) (by simp only [Dw, Ad, List.length_append, List.length_cons, List.length_nil]; omega) (by unfold Fq; simp only [List.forall_mem_append, List.forall_mem_cons, hU, hT, hG, hK, s6, s7, true_and, and_true, List.not_mem_nil, false_imp_iff, implies_true])
 ·obtain ⟨_, a1, a2, a3, a4, a5, a6⟩ := Bjo ho hs
  cases hNN : (ch.2.2.1 == c.2.2.2.2.2.2.2.2.2.2.2.2.2.2.2.2.2.2.2.1) with
  | true =>
   have hN : ch.2.2.1 = (Ec c).2.2.1 ∧ C0 ch = C0 (Ec c) := by
    have hNe : ch.2.2.1 = (Ec c).2.2.1 := by simpa using hNN
    rcases P11 with ⟨x1, x2, _⟩ | ⟨x, _⟩
    ·exact ⟨x1, x2⟩
    ·omega
   have hcl : ∀ X : Ag, By X = true → X.1 = 0 → C0 X = C0 ch → Cb (Jj c 3 (Fx c) X (clT c) (clR c) n.1) = true := fun X x1 x2 x3 =>
    Bgz ho q3 a1 x1 x2 a4 a5 (by rw [x3, hN.2]; exact a6) P3
   have hch' := hcl ch P2 (by rw [P7, q2]) rfl
   simp only [hs, bne, hNN, show ((3 : Int) == 2) = false by decide, Bool.not_true, Ap, Ay]
   cases h4 : (f.1 == 4) with
   | true =>
    have h5 := e54 (by simpa using h4)
    simp only [h5, Ap, Ay, Bool.not_false]
    refine ⟨_, _, _, rfl, rfl, ?_⟩; exact leaf (fi := Fx c) (X := ch) (t := clT c) (r := clR c) (.inr rfl) (by omega) hch' (.inl rfl) (by simp) (by simp only [Dw, Ad, List.length_append, List.length_cons, List.length_nil]; omega) (by unfold Fq; simp only [List.forall_mem_append, List.forall_mem_cons, hU, hT, hG, hK, true_and, and_true, List.not_mem_nil, false_imp_iff, implies_true])
   | false =>
    simp only [Ap, Ay]
    cases h5 : (f.1 == 5) with
    | false =>
     simp only [Ap, Ay, Bool.not_false, Bool.not_true]
     refine ⟨_, _, _, rfl, rfl, ?_⟩; exact leaf (fi := Fx c) (X := ch) (t := clT c) (r := clR c) (.inr rfl) (by omega) hch' (.inl rfl) (by simp) (by simp only [Dw, Ad, List.length_append, List.length_cons, List.length_nil]; omega) (by unfold Fq; simp only [List.forall_mem_append, List.forall_mem_cons, hU, hT, hG, hK, true_and, and_true, List.not_mem_nil, false_imp_iff, implies_true])
    | true =>
     simp only [Ap, Ay, Bool.not_false, Bool.not_true]
     cases hz2 : (z2 == 0) with
     | false =>
      simp only [Ap, Ay, Bool.not_false, Bool.not_true]
      refine ⟨_, _, _, rfl, rfl, ?_⟩; exact leaf (fi := Fx c) (X := ch) (t := clT c) (r := clR c) (.inr rfl) (by omega) hch' (.inl rfl) (by simp) (by simp only [Dw, Ad, List.length_append, List.length_cons, List.length_nil]; omega) (by unfold Fq; simp only [List.forall_mem_append, List.forall_mem_cons, hU, hT, hG, hK, true_and, and_true, List.not_mem_nil, false_imp_iff, implies_true])
     | true =>
      obtain ⟨s1, s2, s3, s4, s5, s6, s7, s8, s9⟩ := hseal (by simpa using hz2)
      simp only [Ap, Ay, Bool.not_false, Bool.not_true, s1]
      refine ⟨_, _, _, rfl, rfl, ?_⟩; exact leaf (fi := Fx c) (X := y) (t := clT c) (r := clR c) (.inr rfl) (by omega) (hcl y s2 (by rw [s3, P7, q2]) s4) (.inr ⟨rfl, s5⟩) (by simp) (by simp only [Dw, Ad, List.length_append, List.length_cons, List.length_nil]; omega) (by unfold Fq; simp only [List.forall_mem_append, List.forall_mem_cons, hU, hT, hG, hK, s6, s7, true_and, and_true, List.not_mem_nil, false_imp_iff, implies_true])
  | false =>
   have hN : C0 ch = [] := by
    have hNe : ch.2.2.1 ≠ (Ec c).2.2.1 := by simpa using hNN
    rcases P11 with ⟨x1, _⟩ | ⟨_, x, _⟩
    ·exact (hNe x1).elim
    ·exact x
   have hcl : ∀ X : Ag, By X = true → X.1 = 0 → C0 X = C0 ch → Cb (Jj c 3 (Fx c) X (clT c) (false, 0, 0, 0, ()) n.1) = true := fun X x1 x2 x3 =>
    Bgz ho q3 a1 x1 x2 a4 rfl (by rw [x3, hN]; rfl) P3
   have hch' := hcl ch P2 (by rw [P7, q2]) rfl
   simp only [hs, bne, hNN, show ((3 : Int) == 2) = false by decide, Bool.not_false, Ap, Ay]
   cases h4 : (f.1 == 4) with
   | true =>
    have h5 := e54 (by simpa using h4)
    simp only [h5, Ap, Ay, Bool.not_false]
    refine ⟨_, _, _, rfl, rfl, ?_⟩; exact leaf (fi := Fx c) (X := ch) (t := clT c) (r := ((false, 0, 0, 0, ()) : B9)) (.inr rfl) (by omega) hch' (.inl rfl) (by simp) (by simp only [Dw, Ad, List.length_append, List.length_cons, List.length_nil]; omega) (by unfold Fq; simp only [List.forall_mem_append, List.forall_mem_cons, hU, hT, hG, hK, true_and, and_true, List.not_mem_nil, false_imp_iff, implies_true])
   | false =>
    simp only [Ap, Ay]
    cases h5 : (f.1 == 5) with
    | false =>
     simp only [Ap, Ay, Bool.not_false, Bool.not_true]
     refine ⟨_, _, _, rfl, rfl, ?_⟩; exact leaf (fi := Fx c) (X := ch) (t := clT c) (r := ((false, 0, 0, 0, ()) : B9)) (.inr rfl) (by omega) hch' (.inl rfl) (by simp) (by simp only [Dw, Ad, List.length_append, List.length_cons, List.length_nil]; omega) (by unfold Fq; simp only [List.forall_mem_append, List.forall_mem_cons, hU, hT, hG, hK, true_and, and_true, List.not_mem_nil, false_imp_iff, implies_true])
    | true =>
     simp only [Ap, Ay, Bool.not_false, Bool.not_true]
     cases hz2 : (z2 == 0) with
     | false =>
      simp only [Ap, Ay, Bool.not_false, Bool.not_true]
      refine ⟨_, _, _, rfl, rfl, ?_⟩; exact leaf (fi := Fx c) (X := ch) (t := clT c) (r := ((false, 0, 0, 0, ()) : B9)) (.inr rfl) (by omega) hch' (.inl rfl) (by simp) (by simp only [Dw, Ad, List.length_append, List.length_cons, List.length_nil]; omega) (by unfold Fq; simp only [List.forall_mem_append, List.forall_mem_cons, hU, hT, hG, hK, true_and, and_true, List.not_mem_nil, false_imp_iff, implies_true])
     | true =>
      obtain ⟨s1, s2, s3, s4, s5, s6, s7, s8, s9⟩ := hseal (by simpa using hz2)
      simp only [Ap, Ay, Bool.not_false, Bool.not_true, s1]
      refine ⟨_, _, _, rfl, rfl, ?_⟩; exact leaf (fi := Fx c) (X := y) (t := clT c) (r := ((false, 0, 0, 0, ()) : B9)) (.inr rfl) (by omega) (hcl y s2 (by rw [s3, P7, q2]) s4) (.inr ⟨rfl, s5⟩) (by simp) (by simp only [Dw, Ad, List.length_append, List.length_cons, List.length_nil]; omega) (by unfold Fq; simp only [List.forall_mem_append, List.forall_mem_cons, hU, hT, hG, hK, s6, s7, true_and, and_true, List.not_mem_nil, false_imp_iff, implies_true])
end
end Go.Proofs.YtggdikabbngbaaaGreat

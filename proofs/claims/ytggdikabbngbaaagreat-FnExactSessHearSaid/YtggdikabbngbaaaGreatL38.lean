/-
  That the program and the reference answer alike, in plain terms, and that the laws answer true.
-/
import Derived.Test.YtggdikabbngbaaaGreatL37
namespace Go.Proofs.YtggdikabbngbaaaGreat
open Go.RowKit
set_option linter.unusedVariables false
set_option linter.unusedSimpArgs false
set_option maxRecDepth 100000
set_option maxHeartbeats 8000000
noncomputable section
def Arw (s : Bi) (X : Ak) (P : A6) (la : Int) : Bi := (s.1, s.2.1, s.2.2.1, X.1, X.2.1, X.2.2.1, X.2.2.2.1, X.2.2.2.2.1, X.2.2.2.2.2.1, X.2.2.2.2.2.2.1, X.2.2.2.2.2.2.2.1, X.2.2.2.2.2.2.2.2.1, X.2.2.2.2.2.2.2.2.2.1, X.2.2.2.2.2.2.2.2.2.2.1, X.2.2.2.2.2.2.2.2.2.2.2.1, X.2.2.2.2.2.2.2.2.2.2.2.2.1, X.2.2.2.2.2.2.2.2.2.2.2.2.2.1, X.2.2.2.2.2.2.2.2.2.2.2.2.2.2.1, P.1, P.2.1, P.2.2.1, s.2.2.2.2.2.2.2.2.2.2.2.2.2.2.2.2.2.2.2.2.2.1, la, s.2.2.2.2.2.2.2.2.2.2.2.2.2.2.2.2.2.2.2.2.2.2.2.1, ())
def SeH (s : Bi) (m : Nat) (r : Bi) (os : List Bg) (ns : List A5) : Prop := Bh r ≤ Bh s + 900 ∧ os.length + Ad Db os ≤ 4 * (Bh s + m + 900) ∧ ns.length + Ad Cv ns ≤ 12 * (Bh s + m + 900)
theorem A6g (s : Bi) (X : Ak) (P : A6) (la : Int) : Bh (Arw s X P la) + Ar (Ku s) + A4 (C7 s) = Bh s + Ar X + A4 P := by
 simp only [Bh, Arw, Ar, Ku, A4, C7]; omega
theorem Be0 (s : Bi) (n : YI) (a : B5) (f : Av) (d : YBs) (h : Bh s ≤ 8388608) (h2 : A1 f ≤ 8388608) (h3 : d.1.length ≤ 8388608) (w1 : wfB f.2.2.2.1) (w2 : wfB (Ku s).2.1) :
  ∃ r os ns k, Sq s n a f d = some (r, (os, ()), (ns, ()), (k, ())) ∧ Z6 s n a f d = some (r, (os, ()), (ns, ()), (k, ())) ∧ SeH s (A1 f + d.1.length) r os ns := by
 have none : ∃ r os ns k, some (s, (([] : List Bg), ()), (([] : List A5), ()), (false, ())) = some (r, (os, ()), (ns, ()), (k, ())) ∧ some (s, (([] : List Bg), ()), (([] : List A5), ()), (false, ())) = some (r, (os, ()), (ns, ()), (k, ())) ∧ SeH s (A1 f + d.1.length) r os ns := ⟨s, [], [], false, rfl, rfl, by omega, by simp [Ad], by simp [Ad]⟩
 have hch := Bev s
 have hpa := Bbe s
 have hck := Fd (Ku s)
 have hsl : s.2.2.1.length ≤ Bh s := by simp only [Bh]; omega
 have htl := Afx 0 f
 obtain ⟨ch, p, z, o1, o2, O1, O2, O3, O4⟩ := Bez (Ku s) n f (by omega) (by omega) w1 w2
 obtain ⟨k, kb, y1, y2, y3, y4⟩ := Bki (Ku s) (f.2.2.2.2.2.2.2.1, ()) (by omega)
 have hchk := Fd ch
 unfold Sq Aak Z6 Z5
 simp only [Ae, Ag, Ab, Ai, Aga, Agb, T6, Agc, Agd, Age, Ou]
 rw [Bhy s (by omega), Bj6 s (by omega), Bl1 s (by omega), Bl2 s (by omega), Alm, Aln]
 simp only [Ah]
 cases ho : Ari s with
 | false => exact none
 | true =>
 simp only [Bool.not_true, An]
 by_cases hd0 : s.2.2.2.2.2.2.2.2.2.2.2.2.2.2.2.2.2.2.2.2.2.2.2.1 = true
 ·rw [J3 hd0, J3 hd0]; exact none
 have hd : s.2.2.2.2.2.2.2.2.2.2.2.2.2.2.2.2.2.2.2.2.2.2.2.1 = false := by simpa using hd0
 rw [Dw hd, Dw hd]
 cases ha : Jh a with
 | false => exact none
 | true =>
 simp only [Bool.not_true, An]
 rw [show Nk _ n f = some (ch, (p, ()), (z, ())) from o1, show Hx _ n f = some (ch, (p, ()), (z, ())) from o2, show Xv _ (f.2.2.2.2.2.2.2.1, ()) = some ((k, ()), (kb, ())) from y1, show Xp _ (f.2.2.2.2.2.2.2.1, ()) = some ((k, ()), (kb, ())) from y2, Tk _ _ (by omega), Tl _ _ (by omega)]
 simp only [Ah]
 by_cases hz : z = 0
 case neg =>
  rw [J3 (by simpa using hz), J3 (by simpa using hz)]
  exact none
 case pos =>
 subst hz
 rw [Dw (by rfl), Dw (by rfl), Bpf _ _ _ (by omega) (by omega) (by omega), Bpg _ _ _ (by omega) (by omega) (by omega)]
 simp only [Ah]
 have d2 : decide (s.2.2.1.length ≤ 4294967296) = true := Ao (by omega)
 have d4 : decide (p.length ≤ 4294967296) = true := Ao (by omega)
 have tail : ∀ (X : Ak) (P : A6) (os : List Bg) (ns : List A5) (p' : A6) (b : Bool) (y : Ak) (g : Av) (zz : Int), Ar X ≤ Ar (Ku s) + 400 → A4 P ≤ A4 (C7 s) + 50 → Ar y ≤ Ar (Ku s) + 400 → A4 p' ≤ A4 (C7 s) + 100 → A1 g ≤ Bh s + d.1.length + 432 →
   os.length + Ad Db os ≤ 2 * (Bh s + (A1 f + d.1.length) + 900) → ns.length + Ad Cv ns ≤ 8 * (Bh s + (A1 f + d.1.length) + 900) →
   ∃ r os' ns' k, br (!b) (some (Arw s X P n.1, (os, ()), (ns, ()), (false, ()))) (br (zz != (0 : Int)) (some (Arw s X P n.1, (os, ()), (ns, ()), (false, ()))) (some (Arw s y p' n.1, (os ++ [(a.1, a.2.1, g.1, g.2.1, g.2.2.1, g.2.2.2.1, g.2.2.2.2.1, g.2.2.2.2.2.1, g.2.2.2.2.2.2.1, g.2.2.2.2.2.2.2.1, g.2.2.2.2.2.2.2.2.1, g.2.2.2.2.2.2.2.2.2.1, g.2.2.2.2.2.2.2.2.2.2.1, ())], ()), (ns ++ [Hb y g], ()), (true, ())))) = some (r, (os', ()), (ns', ()), (k, ())) ∧
    br (!b) (some (Arw s X P n.1, (os, ()), (ns, ()), (false, ()))) (br (zz != (0 : Int)) (some (Arw s X P n.1, (os, ()), (ns, ()), (false, ()))) (some (Arw s y p' n.1, (os ++ [(a.1, a.2.1, g.1, g.2.1, g.2.2.1, g.2.2.2.1, g.2.2.2.2.1, g.2.2.2.2.2.1, g.2.2.2.2.2.2.1, g.2.2.2.2.2.2.2.1, g.2.2.2.2.2.2.2.2.1, g.2.2.2.2.2.2.2.2.2.1, g.2.2.2.2.2.2.2.2.2.2.1, ())], ()), (ns ++ [Hb y g], ()), (true, ())))) = some (r, (os', ()), (ns', ()), (k, ())) ∧ SeH s (A1 f + d.1.length) r os' ns' := by
  intro X P os ns p' b y g zz h1 h2 h3 h4 h5 h6 h7
  have e1 := A6g s X P n.1
  have e2 := A6g s y p' n.1
  have e3 := Afx y.1 g
  have e4 := Fd y
  cases b with
  | false => exact ⟨_, _, _, _, rfl, rfl, by omega, by omega, by omega⟩
  | true =>
   simp only [Bool.not_true, An]
   cases hzz : (zz != (0 : Int)) with
   | true => exact ⟨_, _, _, _, rfl, rfl, by omega, by omega, by omega⟩
   | false =>
    refine ⟨_, _, _, _, rfl, rfl, by omega, ?_, ?_⟩
    ·simp only [Oc, Ad, Db, List.length_append, List.length_nil, List.length_cons]
     simp only [A1] at *
     omega
    ·simp only [Oc, Ad, List.length_append, List.length_nil, List.length_cons]
     have e5 : Cv (Hb y g) = y.2.2.2.1.length + (Cz y.1 g).length := by simp only [Cv, Hb, Ll, List.length_nil]; omega
     omega
 simp only [List.length_nil, List.nil_append, List.length_cons, Nat.zero_add, Nat.reduceLeDiff, decide_true, A8]
 cases h4 : (f.1 == (4 : Int)) with
 | true =>
  simp (disch := first | omega | (dsimp only; omega)) only [A3, Dn]
  obtain ⟨p', b, of1, of2, OF1, OF2, OF3⟩ := Ln (C7 s) n a d (by omega)
  obtain ⟨y, g, zz, g1, g2, e', GS1, GS2, GS3, _⟩ := Ez (ch) 5 d.1 (by omega)
  have hyk := Fd y
  rw [show Dz _ n a d = some (p', (b, ())) from of1, show Dh _ n a d = some (p', (b, ())) from of2, show Cq _ (5, ()) d = some (y, g, (zz, ())) from g1, show Cc _ (5, ()) d = some (y, g, (zz, ())) from g2]
  simp only [Ah]
  rw [J1 y g (by omega) (by omega), Hh y g (by omega) (by omega)]
  simp only [Ah, List.length_nil, List.nil_append, List.append_nil, List.length_cons, List.length_append, Nat.zero_add, Nat.reduceAdd, Nat.reduceLeDiff, decide_true, A8, d2, d4]
  exact tail (ch) (C7 s) ([]) ([Gp k s.2.2.1 (Cz 0 f), ((6 : Int), (0 : Int), (0 : Int), ([] : List YB), s.2.2.1, f.2.2.2.2.2.2.2.1, f.2.2.2.2.2.2.2.2.1, p, ([] : List YB), (0 : Int), (0 : Int), n.1, ())]) p' b y g zz (by omega) (by omega) (by omega) (by omega) (by omega) (by simp only [Ad, Db, List.length_nil, List.length_cons]; simp only [A1] at *; omega) (by simp only [Ad, Cv, Gp, Hb, Ll, List.length_nil, List.length_cons]; omega)
 | false =>
 simp only [An]
 cases h6 : (f.1 == (6 : Int)) with
 | true =>
  simp only [A3]
  obtain ⟨pa, ab, an1, an2, AN1, AN2, AN3⟩ := Bko (C7 s) n a (p, ()) (by omega)
  rw [show Xx _ n a (p, ()) = some (pa, (ab, ())) from an1, show Xq _ n a (p, ()) = some (pa, (ab, ())) from an2]
  simp only [Ah]
  cases ab with
  | true =>
   simp (disch := first | omega | (dsimp only; omega)) only [A3, Dn]
   obtain ⟨p', b, of1, of2, OF1, OF2, OF3⟩ := Ln (pa) n a d (by omega)
   obtain ⟨y, g, zz, g1, g2, e', GS1, GS2, GS3, _⟩ := Ez (ch) 5 d.1 (by omega)
   have hyk := Fd y
   rw [show Dz _ n a d = some (p', (b, ())) from of1, show Dh _ n a d = some (p', (b, ())) from of2, show Cq _ (5, ()) d = some (y, g, (zz, ())) from g1, show Cc _ (5, ()) d = some (y, g, (zz, ())) from g2]
   simp only [Ah]
   rw [J1 y g (by omega) (by omega), Hh y g (by omega) (by omega)]
   simp only [Ah, List.length_nil, List.nil_append, List.append_nil, List.length_cons, List.length_append, Nat.zero_add, Nat.reduceAdd, Nat.reduceLeDiff, decide_true, A8, d2, d4]
   exact tail (ch) (pa) ([]) ([Gp k s.2.2.1 (Cz 0 f), ((9 : Int), (0 : Int), (0 : Int), ([] : List YB), s.2.2.1, (0 : Int), (0 : Int), p, ([] : List YB), a.1, a.2.1, n.1, ())]) p' b y g zz (by omega) (by omega) (by omega) (by omega) (by omega) (by simp only [Ad, Db, List.length_nil, List.length_cons]; simp only [A1] at *; omega) (by simp only [Ad, Cv, Gp, Hb, Ll, List.length_nil, List.length_cons]; omega)
  | false =>
   simp only [An]
   obtain ⟨p', b, of1, of2, OF1, OF2, OF3⟩ := Ln (C7 s) n a d (by omega)
   obtain ⟨y, g, zz, g1, g2, e', GS1, GS2, GS3, _⟩ := Ez (ch) 5 d.1 (by omega)
   have hyk := Fd y
   rw [show Dz _ n a d = some (p', (b, ())) from of1, show Dh _ n a d = some (p', (b, ())) from of2, show Cq _ (5, ()) d = some (y, g, (zz, ())) from g1, show Cc _ (5, ()) d = some (y, g, (zz, ())) from g2]
   simp only [Ah]
   rw [J1 y g (by omega) (by omega), Hh y g (by omega) (by omega)]
   simp only [Ah, List.length_nil, List.nil_append, List.append_nil, List.length_cons, List.length_append, Nat.zero_add, Nat.reduceAdd, Nat.reduceLeDiff, decide_true, A8, d2, d4]
   exact tail (ch) (C7 s) ([]) ([Gp k s.2.2.1 (Cz 0 f)]) p' b y g zz (by omega) (by omega) (by omega) (by omega) (by omega) (by simp only [Ad, Db, List.length_nil, List.length_cons]; simp only [A1] at *; omega) (by simp only [Ad, Cv, Gp, Hb, Ll, List.length_nil, List.length_cons]; omega)
 | false =>
 simp only [An]
 cases h7 : (f.1 == (7 : Int)) with
 | false =>
  simp only [An]
  obtain ⟨p', b, of1, of2, OF1, OF2, OF3⟩ := Ln (C7 s) n a d (by omega)
  obtain ⟨y, g, zz, g1, g2, e', GS1, GS2, GS3, _⟩ := Ez (ch) 5 d.1 (by omega)
  have hyk := Fd y
  rw [show Dz _ n a d = some (p', (b, ())) from of1, show Dh _ n a d = some (p', (b, ())) from of2, show Cq _ (5, ()) d = some (y, g, (zz, ())) from g1, show Cc _ (5, ()) d = some (y, g, (zz, ())) from g2]
  simp only [Ah]
  rw [J1 y g (by omega) (by omega), Hh y g (by omega) (by omega)]
  simp only [Ah, List.length_nil, List.nil_append, List.append_nil, List.length_cons, List.length_append, Nat.zero_add, Nat.reduceAdd, Nat.reduceLeDiff, decide_true, A8, d2, d4]
  exact tail (ch) (C7 s) ([]) ([Gp k s.2.2.1 (Cz 0 f)]) p' b y g zz (by omega) (by omega) (by omega) (by omega) (by omega) (by simp only [Ad, Db, List.length_nil, List.length_cons]; simp only [A1] at *; omega) (by simp only [Ad, Cv, Gp, Hb, Ll, List.length_nil, List.length_cons]; omega)
 | true =>
 simp only [A3]
 obtain ⟨X, zr, r1, r2, R1, R2, R3⟩ := Bbn ch (f.2.2.2.2.2.2.2.1, ()) (p, ()) (by omega)
 have hXk := Fd X
 have d5 : decide (X.2.2.2.1.length ≤ 4294967296) = true := Ao (by omega)
 unfold Amp Wp
 simp only [Ae, Ag, Ab, Ai]
 rw [show Qz _ (f.2.2.2.2.2.2.2.1, ()) (p, ()) = some (X, (zr, ())) from r1, show Qx _ (f.2.2.2.2.2.2.2.1, ()) (p, ()) = some (X, (zr, ())) from r2]
 simp only [Ah, bne]
 cases hzr : (zr == (0 : Int)) with
 | false =>
  simp only [Bool.not_false, A3, An, Ah]
  obtain ⟨p', b, of1, of2, OF1, OF2, OF3⟩ := Ln (C7 s) n a d (by omega)
  obtain ⟨y, g, zz, g1, g2, e', GS1, GS2, GS3, _⟩ := Ez (ch) 5 d.1 (by omega)
  have hyk := Fd y
  rw [show Dz _ n a d = some (p', (b, ())) from of1, show Dh _ n a d = some (p', (b, ())) from of2, show Cq _ (5, ()) d = some (y, g, (zz, ())) from g1, show Cc _ (5, ()) d = some (y, g, (zz, ())) from g2]
  simp only [Ah]
  rw [J1 y g (by omega) (by omega), Hh y g (by omega) (by omega)]
  simp only [Ah, List.length_nil, List.nil_append, List.append_nil, List.length_cons, List.length_append, Nat.zero_add, Nat.reduceAdd, Nat.reduceLeDiff, decide_true, A8, d2, d4]
  exact tail (ch) (C7 s) ([]) ([Gp k s.2.2.1 (Cz 0 f)]) p' b y g zz (by omega) (by omega) (by omega) (by omega) (by omega) (by simp only [Ad, Db, List.length_nil, List.length_cons]; simp only [A1] at *; omega) (by simp only [Ad, Cv, Gp, Hb, Ll, List.length_nil, List.length_cons]; omega)
 | true =>
 simp only [Bool.not_true, A3, An]
 obtain ⟨y', g', za, k1, k2, K1, K2, _⟩ := Bo7 X (by omega)
 have hyk' := Fd y'
 have htl2 := Afx y'.1 g'
 rw [k1, k2]
 simp only [Ah]
 rw [J1 y' g' (by omega) (by omega), Hh y' g' (by omega) (by omega)]
 cases hN : (X.2.2.1 == ch.2.2.1) with
 | false =>
  simp (disch := first | omega | (dsimp only; omega)) only [Bool.not_false, A3, An, Dn, Ah]
  cases hza : (za == (0 : Int)) with
  | true =>
   simp only [Bool.not_true, A3, An, Ah, List.length_nil, List.nil_append, List.length_cons, List.length_append, Nat.zero_add, Nat.reduceAdd, Nat.reduceLeDiff, decide_true, A8, d2, d5]
   obtain ⟨p', b, of1, of2, OF1, OF2, OF3⟩ := Ln (C7 s) n a d (by omega)
   obtain ⟨y, g, zz, g1, g2, e', GS1, GS2, GS3, _⟩ := Ez (y') 5 d.1 (by omega)
   have hyk := Fd y
   rw [show Dz _ n a d = some (p', (b, ())) from of1, show Dh _ n a d = some (p', (b, ())) from of2, show Cq _ (5, ()) d = some (y, g, (zz, ())) from g1, show Cc _ (5, ()) d = some (y, g, (zz, ())) from g2]
   simp only [Ah]
   rw [J1 y g (by omega) (by omega), Hh y g (by omega) (by omega)]
   simp only [Ah, List.length_nil, List.nil_append, List.append_nil, List.length_cons, List.length_append, Nat.zero_add, Nat.reduceAdd, Nat.reduceLeDiff, decide_true, A8, d2, d4]
   exact tail (y') (C7 s) ([(s.2.2.2.2.2.2.2.2.2.2.2.2.2.2.2.2.2.2.1, s.2.2.2.2.2.2.2.2.2.2.2.2.2.2.2.2.2.2.2.1, g'.1, g'.2.1, g'.2.2.1, g'.2.2.2.1, g'.2.2.2.2.1, g'.2.2.2.2.2.1, g'.2.2.2.2.2.2.1, g'.2.2.2.2.2.2.2.1, g'.2.2.2.2.2.2.2.2.1, g'.2.2.2.2.2.2.2.2.2.1, g'.2.2.2.2.2.2.2.2.2.2.1, ())]) ([Gp k s.2.2.1 (Cz 0 f), ((10 : Int), (0 : Int), (1 : Int), ([] : List YB), s.2.2.1, X.2.2.1, (0 : Int), ([] : List YB), X.2.2.2.1, (0 : Int), (0 : Int), (0 : Int), ()), Hb y' g']) p' b y g zz (by omega) (by omega) (by omega) (by omega) (by omega) (by simp only [Ad, Db, List.length_nil, List.length_cons]; simp only [A1] at *; omega) (by simp only [Ad, Cv, Gp, Hb, Ll, List.length_nil, List.length_cons]; omega)
  | false =>
   simp only [Bool.not_false, A3, An, Ah, List.length_nil, List.nil_append, List.length_cons, List.length_append, Nat.zero_add, Nat.reduceAdd, Nat.reduceLeDiff, decide_true, A8, d2, d5]
   obtain ⟨p', b, of1, of2, OF1, OF2, OF3⟩ := Ln (C7 s) n a d (by omega)
   obtain ⟨y, g, zz, g1, g2, e', GS1, GS2, GS3, _⟩ := Ez (X) 5 d.1 (by omega)
   have hyk := Fd y
   rw [show Dz _ n a d = some (p', (b, ())) from of1, show Dh _ n a d = some (p', (b, ())) from of2, show Cq _ (5, ()) d = some (y, g, (zz, ())) from g1, show Cc _ (5, ()) d = some (y, g, (zz, ())) from g2]
   simp only [Ah]
   rw [J1 y g (by omega) (by omega), Hh y g (by omega) (by omega)]
   simp only [Ah, List.length_nil, List.nil_append, List.append_nil, List.length_cons, List.length_append, Nat.zero_add, Nat.reduceAdd, Nat.reduceLeDiff, decide_true, A8, d2, d4]
   exact tail (X) (C7 s) ([]) ([Gp k s.2.2.1 (Cz 0 f), ((10 : Int), (0 : Int), (1 : Int), ([] : List YB), s.2.2.1, X.2.2.1, (0 : Int), ([] : List YB), X.2.2.2.1, (0 : Int), (0 : Int), (0 : Int), ())]) p' b y g zz (by omega) (by omega) (by omega) (by omega) (by omega) (by simp only [Ad, Db, List.length_nil, List.length_cons]; simp only [A1] at *; omega) (by simp only [Ad, Cv, Gp, Hb, Ll, List.length_nil, List.length_cons]; omega)
 | true =>
  simp only [Bool.not_true, A3, An, Ah]
  cases hza : (za == (0 : Int)) with
  | true =>
   simp only [Bool.not_true, A3, An, Ah, List.length_nil, List.nil_append, List.length_cons, List.length_append, Nat.zero_add, Nat.reduceAdd, Nat.reduceLeDiff, decide_true, A8, d2, d5]
   obtain ⟨p', b, of1, of2, OF1, OF2, OF3⟩ := Ln (C7 s) n a d (by omega)
   obtain ⟨y, g, zz, g1, g2, e', GS1, GS2, GS3, _⟩ := Ez (y') 5 d.1 (by omega)
   have hyk := Fd y
   rw [show Dz _ n a d = some (p', (b, ())) from of1, show Dh _ n a d = some (p', (b, ())) from of2, show Cq _ (5, ()) d = some (y, g, (zz, ())) from g1, show Cc _ (5, ()) d = some (y, g, (zz, ())) from g2]
   simp only [Ah]
   rw [J1 y g (by omega) (by omega), Hh y g (by omega) (by omega)]
   simp only [Ah, List.length_nil, List.nil_append, List.append_nil, List.length_cons, List.length_append, Nat.zero_add, Nat.reduceAdd, Nat.reduceLeDiff, decide_true, A8, d2, d4]
   exact tail (y') (C7 s) ([(s.2.2.2.2.2.2.2.2.2.2.2.2.2.2.2.2.2.2.1, s.2.2.2.2.2.2.2.2.2.2.2.2.2.2.2.2.2.2.2.1, g'.1, g'.2.1, g'.2.2.1, g'.2.2.2.1, g'.2.2.2.2.1, g'.2.2.2.2.2.1, g'.2.2.2.2.2.2.1, g'.2.2.2.2.2.2.2.1, g'.2.2.2.2.2.2.2.2.1, g'.2.2.2.2.2.2.2.2.2.1, g'.2.2.2.2.2.2.2.2.2.2.1, ())]) ([Gp k s.2.2.1 (Cz 0 f), Hb y' g']) p' b y g zz (by omega) (by omega) (by omega) (by omega) (by omega) (by simp only [Ad, Db, List.length_nil, List.length_cons]; simp only [A1] at *; omega) (by simp only [Ad, Cv, Gp, Hb, Ll, List.length_nil, List.length_cons]; omega)
  | false =>
   simp only [Bool.not_false, A3, An, Ah, List.length_nil, List.nil_append, List.length_cons, List.length_append, Nat.zero_add, Nat.reduceAdd, Nat.reduceLeDiff, decide_true, A8, d2, d5]
   obtain ⟨p', b, of1, of2, OF1, OF2, OF3⟩ := Ln (C7 s) n a d (by omega)
   obtain ⟨y, g, zz, g1, g2, e', GS1, GS2, GS3, _⟩ := Ez (X) 5 d.1 (by omega)
   have hyk := Fd y
   rw [show Dz _ n a d = some (p', (b, ())) from of1, show Dh _ n a d = some (p', (b, ())) from of2, show Cq _ (5, ()) d = some (y, g, (zz, ())) from g1, show Cc _ (5, ()) d = some (y, g, (zz, ())) from g2]
   simp only [Ah]
   rw [J1 y g (by omega) (by omega), Hh y g (by omega) (by omega)]
   simp only [Ah, List.length_nil, List.nil_append, List.append_nil, List.length_cons, List.length_append, Nat.zero_add, Nat.reduceAdd, Nat.reduceLeDiff, decide_true, A8, d2, d4]
   exact tail (X) (C7 s) ([]) ([Gp k s.2.2.1 (Cz 0 f)]) p' b y g zz (by omega) (by omega) (by omega) (by omega) (by omega) (by simp only [Ad, Db, List.length_nil, List.length_cons]; simp only [A1] at *; omega) (by simp only [Ad, Cv, Gp, Hb, Ll, List.length_nil, List.length_cons]; omega)
end
end Go.Proofs.YtggdikabbngbaaaGreat

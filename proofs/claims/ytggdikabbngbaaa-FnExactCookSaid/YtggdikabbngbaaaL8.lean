/-
  That the program and the reference answer alike, in plain terms, and that the laws answer true.
-/
import Derived.Test.YtggdikabbngbaaaL7
namespace Go.Proofs.Ytggdikabbngbaaa
open Go.RowKit
set_option linter.unusedVariables false
set_option linter.unusedSimpArgs false
set_option maxHeartbeats 4000000
noncomputable section
def kL : List YI := I4.map fun x => (x, ())
theorem Aw4 : Aoo = some (kL, ()) := rfl
theorem Aod (n : YI) : U0 n = some (L4 n.1, ()) := rfl
theorem Aw5 (i : Nat) (h : i < 64) : idx kL (i : Int) = some (L4 (i : Int), ()) := by
 rw [Akj]
 unfold kL L4
 rw [List.getElem?_map, if_pos (by omega), Int.toNat_natCast]
 have : i < I4.length := by simpa [I4] using h
 rw [List.getElem?_eq_getElem this]; rfl
theorem Asc (l : List YI) (hl : l.length ≤ 4294967296) : Qd (l, ()) = some (C9 l && ((l.length : Int) == 8), ()) := by
 have h := Ai5 (B := E5) l (fun i => (l, (i : Int), ())) (fun _ e => !inR e.1 0 4294967295) (false, ()) (l, ())
  (fun i x hi hx => by
   unfold E5
   simp (disch := omega) only [Ae, Af, Ad, Cd hi, Ax, A5 hx, Ag, Xh, w64]
   rfl)
  (by unfold E5; simp only [Ae, Af, Ad, Cp, Al])
 unfold Qd I0
 simp only [Af, A9, Ad]
 rw [show ((0 : Int)) = ((0 : Nat) : Int) from rfl, h]
 unfold C9
 cases T3 (fun _ (e : YI) => !inR e.1 0 4294967295) l <;> rfl
theorem Asd (x : BitVec IntKind.i64.bits) : BitVec.ofInt (IntKind.i64.bits) (4294967295 : Int) ^^^ x = x ^^^ BitVec.ofInt (IntKind.i64.bits) (4294967295 : Int) := BitVec.xor_comm _ _
theorem Aqi {l : List YI} : C9 l = true ↔ ∀ (j : Nat) (x : YI), l[j]? = some x → 0 ≤ x.1 ∧ x.1 ≤ 4294967295 := by
 unfold C9
 rw [Avl]
 simp only [Bool.not_eq_false', Sc]
theorem Ase (h out w : List YI) (hw : w.length = 64) (a b c d e f g z : Int) :
  ∃ a' b' c' d' e' f' g' z', Ar Dh (h, out, w, a, b, c, d, e, f, g, z, (0 : Int), ()) = some (h, out, a', b', c', d', e', f', g', z', ()) ∧
   Ar Dg (h, out, kL, w, a, b, c, d, e, f, g, z, (0 : Int), ()) = some (h, out, a', b', c', d', e', f', g', z', ()) := by
 obtain ⟨o1, o2, h1, h2, hq⟩ := T6 (B1 := Dh) (B2 := Dg)
  (fun i d1 d2 => ∃ a b c d e f g z : Int, d1 = (h, out, w, a, b, c, d, e, f, g, z, (i : Int), ()) ∧ d2 = (h, out, kL, w, a, b, c, d, e, f, g, z, (i : Int), ()))
  (fun o1 o2 => o1 = o2 ∧ ∃ a b c d e f g z : Int, o1 = (h, out, a, b, c, d, e, f, g, z, ())) 64
  (by
   rintro i d1 d2 hi ⟨a, b, c, d, e, f, g, z, rfl, rfl⟩
   left
   obtain ⟨x, hx⟩ : ∃ x, w[i]? = some x := ⟨_, List.getElem?_eq_getElem (by omega)⟩
   have hk := Aw5 i hi
   unfold Dh Dg
   simp only [Ae, Af, Ad, Ah]
   rw [Ak (by omega), Ax, Ax]
   simp (disch := decide) only [Afc, Afd, Ag, Aod, A5 hx, hk, Ao3, Asd]
   rw [w64 (n := (i : Int) + 1) (by omega)]
   refine ⟨_, _, rfl, rfl, _, _, _, _, _, _, _, _, rfl, ?_⟩
   simp only [Prod.mk.injEq, true_and, and_true]
   exact ⟨Atv _ _, Atu _ _, by omega⟩)
  (by
   rintro d1 d2 ⟨a, b, c, d, e, f, g, z, rfl, rfl⟩
   unfold Dh Dg
   simp only [Ae, Af, Ad, Ah]
   exact ⟨_, _, rfl, rfl, rfl, _, _, _, _, _, _, _, _, rfl⟩)
  (d1 := (h, out, w, a, b, c, d, e, f, g, z, (0 : Int), ())) (d2 := (h, out, kL, w, a, b, c, d, e, f, g, z, (0 : Int), ())) ⟨a, b, c, d, e, f, g, z, rfl, rfl⟩
 obtain ⟨rfl, a', b', c', d', e', f', g', z', rfl⟩ := hq
 exact ⟨_, _, _, _, _, _, _, _, h1, h2⟩
theorem Avm (h l : List YI) (hh : h.length = 8) (hl : l.length = 8) : ∃ r : List YI, r.length = 8 ∧ C9 r = true ∧ Ar Cy (h, h, l, (l.length : Int), (0 : Int), ()) = some (r, ()) ∧ Ar Cv (h, h, l, (0 : Int), ()) = some (r, ()) := by
 obtain ⟨o1, o2, h1, h2, hq⟩ := T6 (B1 := Cy) (B2 := Cv)
  (fun i d1 d2 => ∃ out : List YI, out.length = 8 ∧ (∀ j x, j < i → out[j]? = some x → 0 ≤ x.1 ∧ x.1 ≤ 4294967295) ∧ d1 = (h, out, l, (l.length : Int), (i : Int), ()) ∧ d2 = (h, out, l, (i : Int), ()))
  (fun o1 o2 => o1 = o2 ∧ o1.1.length = 8 ∧ C9 o1.1 = true) 8
  (by
   rintro i d1 d2 hi ⟨out, ho, hb, rfl, rfl⟩
   left
   obtain ⟨x, hx⟩ : ∃ x, h[i]? = some x := ⟨_, List.getElem?_eq_getElem (by omega)⟩
   obtain ⟨y, hy⟩ : ∃ y, l[i]? = some y := ⟨_, List.getElem?_eq_getElem (by omega)⟩
   obtain ⟨q, hq⟩ : ∃ q, out[i]? = some q := ⟨_, List.getElem?_eq_getElem (by omega)⟩
   unfold Cy Cv
   simp only [Ae, Af, Ad, Ah]
   rw [Ak (by omega), Ak (by omega), Ax, Ax]
   simp only [A5 hx, A5 hy, A5 hq, Ag, Ao3, Int.toNat_natCast]
   rw [w64 (n := (i : Int) + 1) (by omega)]
   refine ⟨_, _, rfl, rfl, out.set i (m32 (IntKind.i64.wrap (x.1 + y.1)), ()), by simp [ho], fun j v hj hv => ?_, rfl, rfl⟩
   rw [List.getElem?_set] at hv
   split at hv
   ·rename_i e
    subst e
    split at hv
    ·simp at hv; subst hv; exact Aw3 _
    ·cases hv
   ·exact hb j v (by omega) hv)
  (by
   rintro d1 d2 ⟨out, ho, hb, rfl, rfl⟩
   unfold Cy Cv
   simp only [Ae, Af, Ad, Ah]
   rw [A2 (by omega), Al]
   refine ⟨_, _, rfl, rfl, rfl, ho, ?_⟩
   rw [Aqi]
   intro j x hx
   exact hb j x (by have := (List.getElem?_eq_some_iff.1 hx).1; dsimp only at this; omega) hx)
  (d1 := (h, h, l, (l.length : Int), (0 : Int), ())) (d2 := (h, h, l, (0 : Int), ())) ⟨h, hh, fun j x hj => by omega, rfl, rfl⟩
 obtain ⟨rfl, hq1, hq2⟩ := hq
 exact ⟨o1.1, hq1, hq2, h1, h2⟩
theorem Q5 (h : List YI) (b : List YB) (hh : h.length ≤ 1073741824) (hb : b.length ≤ 4294967296) :
  ∃ r, Hv (h, ()) (b, ()) = some (r, ()) ∧ Ka (h, ()) (b, ()) = some (r, ()) ∧ r.length = h.length ∧ (C9 h = true → C9 r = true) := by
 obtain ⟨w, hw1, hw2, hw3⟩ := Aoc b hb
 unfold Hv Hu Ka Ho
 simp only [Ae, Af, Ad, Ah, List.nil_append, List.length_nil, Nat.zero_add]
 rw [Ak (by omega), A0, A0, Afb _ _ (by omega), Asc _ (by omega), Ag, Ag]
 cases hwb : (C9 h && ((h.length : Int) == 8)) with
 | false => exact ⟨h, rfl, rfl, rfl, id⟩
 | true =>
  have hlen : h.length = 8 := by simp at hwb; omega
  have hwd : C9 h = true := by simp at hwb; exact hwb.1
  simp only [Bool.not_true, Al]
  by_cases hb64 : b.length = 64
  ·rw [Ew (by simp [hb64]), Ew (by simp [hb64]), hw1, hw2, Aw4]
   simp only [Ag]
   match h, hlen with
   | [x0, x1, x2, x3, x4, x5, x6, x7], _ =>
    simp only [show idx [x0, x1, x2, x3, x4, x5, x6, x7] (0 : Int) = some x0 from rfl, show idx [x0, x1, x2, x3, x4, x5, x6, x7] (1 : Int) = some x1 from rfl, show idx [x0, x1, x2, x3, x4, x5, x6, x7] (2 : Int) = some x2 from rfl, show idx [x0, x1, x2, x3, x4, x5, x6, x7] (3 : Int) = some x3 from rfl,
     show idx [x0, x1, x2, x3, x4, x5, x6, x7] (4 : Int) = some x4 from rfl, show idx [x0, x1, x2, x3, x4, x5, x6, x7] (5 : Int) = some x5 from rfl, show idx [x0, x1, x2, x3, x4, x5, x6, x7] (6 : Int) = some x6 from rfl, show idx [x0, x1, x2, x3, x4, x5, x6, x7] (7 : Int) = some x7 from rfl, Ag]
    obtain ⟨a', b', c', d', e', f', g', z', q1, q2⟩ := Ase [x0, x1, x2, x3, x4, x5, x6, x7] [x0, x1, x2, x3, x4, x5, x6, x7] w (hw3 hb64) x0.1 x1.1 x2.1 x3.1 x4.1 x5.1 x6.1 x7.1
    rw [q1, q2]
    simp only [Ag]
    obtain ⟨r, r1, r2, r3, r4⟩ := Avm [x0, x1, x2, x3, x4, x5, x6, x7] [(a', ()), (b', ()), (c', ()), (d', ()), (e', ()), (f', ()), (g', ()), (z', ())] rfl rfl
    rw [r3, r4]
    exact ⟨r, rfl, rfl, r1, fun _ => r2⟩
  ·have h' : ¬ ((b.length : Int) = 64) := by omega
   rw [M7 (by simpa using h'), M7 (by simpa using h')]
   exact ⟨h, rfl, rfl, rfl, id⟩
def Dx (h : List YI) (b : List YB) : List YI := match Hv (h, ()) (b, ()) with | some r => r.1 | none => []
theorem Aqj (h : List YI) (b : List YB) (hh : h.length ≤ 1073741824) (hb : b.length ≤ 4294967296) : Hv (h, ()) (b, ()) = some (Dx h b, ()) := by
 obtain ⟨r, h1, h2, _⟩ := Q5 h b hh hb
 unfold Dx; rw [h1]
theorem Aqk (h : List YI) (b : List YB) (hh : h.length ≤ 1073741824) (hb : b.length ≤ 4294967296) : Ka (h, ()) (b, ()) = some (Dx h b, ()) := by
 obtain ⟨r, h1, h2, _⟩ := Q5 h b hh hb
 unfold Dx; rw [h1, h2]
theorem O3 (h : List YI) (b : List YB) (hh : h.length ≤ 1073741824) (hb : b.length ≤ 4294967296) : (Dx h b).length = h.length ∧ (C9 h = true → C9 (Dx h b) = true) := by
 obtain ⟨r, h1, h2, h3, h4⟩ := Q5 h b hh hb
 unfold Dx; rw [h1]; exact ⟨h3, h4⟩
end
end Go.Proofs.Ytggdikabbngbaaa

/-
  That the program and the reference answer alike, in plain terms, and that the laws answer true.
-/
import Derived.Test.YtggdikabbngbaaaGreatL7
namespace Go.Proofs.YtggdikabbngbaaaGreat
open Go.RowKit
set_option linter.unusedVariables false
set_option linter.unusedSimpArgs false
set_option maxHeartbeats 4000000
noncomputable section
def kL : List YI := Oq.map fun x => (x, ())
theorem Bow : Bdu = some (kL, ()) := rfl
theorem Bdc (n : YI) : An3 n = some (Ut n.1, ()) := rfl
theorem Box (i : Nat) (h : i < 64) : idx kL (i : Int) = some (Ut (i : Int), ()) := by
 rw [A7s]
 unfold kL Ut
 rw [List.getElem?_map, if_pos (by omega), Int.toNat_natCast]
 have : i < Oq.length := by simpa [Oq] using h
 rw [List.getElem?_eq_getElem this]; rfl
theorem Bim (l : List YI) (hl : l.length ≤ 4294967296) : Afm (l, ()) = some (Ds l && ((l.length : Int) == 8), ()) := by
 have h := Aeu (B := H3) l (fun i => (l, (i : Int), ())) (fun _ e => !inR e.1 0 4294967295) (false, ()) (l, ())
  (fun i x hi hx => by
   unfold H3
   simp (disch := omega) only [Ah, Ak, Ae, El hi, Ay, Ch hx, Al, C6, w64]
   rfl)
  (by unfold H3; simp only [Ah, Ak, Ae, Gk, Ap])
 unfold Afm Od
 simp only [Ak, Bb, Ae]
 rw [show ((0 : Int)) = ((0 : Nat) : Int) from rfl, h]
 unfold Ds
 cases T7 (fun _ (e : YI) => !inR e.1 0 4294967295) l <;> rfl
theorem Bin (x : BitVec IntKind.i64.bits) : BitVec.ofInt (IntKind.i64.bits) (4294967295 : Int) ^^^ x = x ^^^ BitVec.ofInt (IntKind.i64.bits) (4294967295 : Int) := BitVec.xor_comm _ _
theorem Aaa {l : List YI} : Ds l = true ↔ ∀ (j : Nat) (x : YI), l[j]? = some x → 0 ≤ x.1 ∧ x.1 ≤ 4294967295 := by
 unfold Ds
 rw [Bea]
 simp only [Bool.not_eq_false', Bv]
theorem Bio (h out w : List YI) (hw : w.length = 64) (a b c d e f g z : Int) :
  ∃ a' b' c' d' e' f' g' z', A0 Fh (h, out, w, a, b, c, d, e, f, g, z, (0 : Int), ()) = some (h, out, a', b', c', d', e', f', g', z', ()) ∧
   A0 Ff (h, out, kL, w, a, b, c, d, e, f, g, z, (0 : Int), ()) = some (h, out, a', b', c', d', e', f', g', z', ()) := by
 obtain ⟨o1, o2, h1, h2, hq⟩ := Adf (B1 := Fh) (B2 := Ff)
  (fun i d1 d2 => ∃ a b c d e f g z : Int, d1 = (h, out, w, a, b, c, d, e, f, g, z, (i : Int), ()) ∧ d2 = (h, out, kL, w, a, b, c, d, e, f, g, z, (i : Int), ()))
  (fun o1 o2 => o1 = o2 ∧ ∃ a b c d e f g z : Int, o1 = (h, out, a, b, c, d, e, f, g, z, ())) 64
  (by
   rintro i d1 d2 hi ⟨a, b, c, d, e, f, g, z, rfl, rfl⟩
   left
   obtain ⟨x, hx⟩ : ∃ x, w[i]? = some x := ⟨_, List.getElem?_eq_getElem (by omega)⟩
   have hk := Box i hi
   unfold Fh Ff
   simp only [Ah, Ak, Ae, Am]
   rw [Ao (by omega), Ay, Ay]
   simp (disch := decide) only [A1c, A1d, Al, Bdc, Ch hx, hk, Bd9, Bin]
   rw [w64 (n := (i : Int) + 1) (by omega)]
   refine ⟨_, _, rfl, rfl, _, _, _, _, _, _, _, _, rfl, ?_⟩
   simp only [Prod.mk.injEq, true_and, and_true]
   exact ⟨Bky _ _, Bkx _ _, by omega⟩)
  (by
   rintro d1 d2 ⟨a, b, c, d, e, f, g, z, rfl, rfl⟩
   unfold Fh Ff
   simp only [Ah, Ak, Ae, Am]
   exact ⟨_, _, rfl, rfl, rfl, _, _, _, _, _, _, _, _, rfl⟩)
  (d1 := (h, out, w, a, b, c, d, e, f, g, z, (0 : Int), ())) (d2 := (h, out, kL, w, a, b, c, d, e, f, g, z, (0 : Int), ())) ⟨a, b, c, d, e, f, g, z, rfl, rfl⟩
 obtain ⟨rfl, a', b', c', d', e', f', g', z', rfl⟩ := hq
 exact ⟨_, _, _, _, _, _, _, _, h1, h2⟩
theorem Bmv (h l : List YI) (hh : h.length = 8) (hl : l.length = 8) : ∃ r : List YI, r.length = 8 ∧ Ds r = true ∧ A0 Ev (h, h, l, (l.length : Int), (0 : Int), ()) = some (r, ()) ∧ A0 Eu (h, h, l, (0 : Int), ()) = some (r, ()) := by
 obtain ⟨o1, o2, h1, h2, hq⟩ := Adf (B1 := Ev) (B2 := Eu)
  (fun i d1 d2 => ∃ out : List YI, out.length = 8 ∧ (∀ j x, j < i → out[j]? = some x → 0 ≤ x.1 ∧ x.1 ≤ 4294967295) ∧ d1 = (h, out, l, (l.length : Int), (i : Int), ()) ∧ d2 = (h, out, l, (i : Int), ()))
  (fun o1 o2 => o1 = o2 ∧ o1.1.length = 8 ∧ Ds o1.1 = true) 8
  (by
   rintro i d1 d2 hi ⟨out, ho, hb, rfl, rfl⟩
   left
   obtain ⟨x, hx⟩ : ∃ x, h[i]? = some x := ⟨_, List.getElem?_eq_getElem (by omega)⟩
   obtain ⟨y, hy⟩ : ∃ y, l[i]? = some y := ⟨_, List.getElem?_eq_getElem (by omega)⟩
   obtain ⟨q, hq⟩ : ∃ q, out[i]? = some q := ⟨_, List.getElem?_eq_getElem (by omega)⟩
   unfold Ev Eu
   simp only [Ah, Ak, Ae, Am]
   rw [Ao (by omega), Ao (by omega), Ay, Ay]
   simp only [Ch hx, Ch hy, Ch hq, Al, Bd9, Int.toNat_natCast]
   rw [w64 (n := (i : Int) + 1) (by omega)]
   refine ⟨_, _, rfl, rfl, out.set i (m32 (IntKind.i64.wrap (x.1 + y.1)), ()), by simp [ho], fun j v hj hv => ?_, rfl, rfl⟩
   rw [List.getElem?_set] at hv
   split at hv
   ·rename_i e
    subst e
    split at hv
    ·simp at hv; subst hv; exact Bou _
    ·cases hv
   ·exact hb j v (by omega) hv)
  (by
   rintro d1 d2 ⟨out, ho, hb, rfl, rfl⟩
   unfold Ev Eu
   simp only [Ah, Ak, Ae, Am]
   rw [Bg (by omega), Ap]
   refine ⟨_, _, rfl, rfl, rfl, ho, ?_⟩
   rw [Aaa]
   intro j x hx
   exact hb j x (by have := (List.getElem?_eq_some_iff.1 hx).1; dsimp only at this; omega) hx)
  (d1 := (h, h, l, (l.length : Int), (0 : Int), ())) (d2 := (h, h, l, (0 : Int), ())) ⟨h, hh, fun j x hj => by omega, rfl, rfl⟩
 obtain ⟨rfl, hq1, hq2⟩ := hq
 exact ⟨o1.1, hq1, hq2, h1, h2⟩
theorem Ag5 (h : List YI) (b : List YB) (hh : h.length ≤ 1073741824) (hb : b.length ≤ 4294967296) :
  ∃ r, Md (h, ()) (b, ()) = some (r, ()) ∧ Qn (h, ()) (b, ()) = some (r, ()) ∧ r.length = h.length ∧ (Ds h = true → Ds r = true) := by
 obtain ⟨w, hw1, hw2, hw3⟩ := Bdb b hb
 unfold Md Mc Qn L3
 simp only [Ah, Ak, Ae, Am, List.nil_append, List.length_nil, Nat.zero_add]
 rw [Ao (by omega), A8, A8, Amv _ _ (by omega), Bim _ (by omega), Al, Al]
 cases hwb : (Ds h && ((h.length : Int) == 8)) with
 | false => exact ⟨h, rfl, rfl, rfl, id⟩
 | true =>
  have hlen : h.length = 8 := by simp at hwb; omega
  have hwd : Ds h = true := by simp at hwb; exact hwb.1
  simp only [Bool.not_true, Ap]
  by_cases hb64 : b.length = 64
  ·rw [Cg (by simp [hb64]), Cg (by simp [hb64]), hw1, hw2, Bow]
   simp only [Al]
   match h, hlen with
   | [x0, x1, x2, x3, x4, x5, x6, x7], _ =>
    simp only [show idx [x0, x1, x2, x3, x4, x5, x6, x7] (0 : Int) = some x0 from rfl, show idx [x0, x1, x2, x3, x4, x5, x6, x7] (1 : Int) = some x1 from rfl, show idx [x0, x1, x2, x3, x4, x5, x6, x7] (2 : Int) = some x2 from rfl, show idx [x0, x1, x2, x3, x4, x5, x6, x7] (3 : Int) = some x3 from rfl,
     show idx [x0, x1, x2, x3, x4, x5, x6, x7] (4 : Int) = some x4 from rfl, show idx [x0, x1, x2, x3, x4, x5, x6, x7] (5 : Int) = some x5 from rfl, show idx [x0, x1, x2, x3, x4, x5, x6, x7] (6 : Int) = some x6 from rfl, show idx [x0, x1, x2, x3, x4, x5, x6, x7] (7 : Int) = some x7 from rfl, Al]
    obtain ⟨a', b', c', d', e', f', g', z', q1, q2⟩ := Bio [x0, x1, x2, x3, x4, x5, x6, x7] [x0, x1, x2, x3, x4, x5, x6, x7] w (hw3 hb64) x0.1 x1.1 x2.1 x3.1 x4.1 x5.1 x6.1 x7.1
    rw [q1, q2]
    simp only [Al]
    obtain ⟨r, r1, r2, r3, r4⟩ := Bmv [x0, x1, x2, x3, x4, x5, x6, x7] [(a', ()), (b', ()), (c', ()), (d', ()), (e', ()), (f', ()), (g', ()), (z', ())] rfl rfl
    rw [r3, r4]
    exact ⟨r, rfl, rfl, r1, fun _ => r2⟩
  ·have h' : ¬ ((b.length : Int) = 64) := by omega
   rw [Dq (by simpa using h'), Dq (by simpa using h')]
   exact ⟨h, rfl, rfl, rfl, id⟩
def Gf (h : List YI) (b : List YB) : List YI := match Md (h, ()) (b, ()) with | some r => r.1 | none => []
theorem Bga (h : List YI) (b : List YB) (hh : h.length ≤ 1073741824) (hb : b.length ≤ 4294967296) : Md (h, ()) (b, ()) = some (Gf h b, ()) := by
 obtain ⟨r, h1, h2, _⟩ := Ag5 h b hh hb
 unfold Gf; rw [h1]
theorem Bgb (h : List YI) (b : List YB) (hh : h.length ≤ 1073741824) (hb : b.length ≤ 4294967296) : Qn (h, ()) (b, ()) = some (Gf h b, ()) := by
 obtain ⟨r, h1, h2, _⟩ := Ag5 h b hh hb
 unfold Gf; rw [h1, h2]
theorem Adg (h : List YI) (b : List YB) (hh : h.length ≤ 1073741824) (hb : b.length ≤ 4294967296) : (Gf h b).length = h.length ∧ (Ds h = true → Ds (Gf h b) = true) := by
 obtain ⟨r, h1, h2, h3, h4⟩ := Ag5 h b hh hb
 unfold Gf; rw [h1]; exact ⟨h3, h4⟩
end
end Go.Proofs.YtggdikabbngbaaaGreat

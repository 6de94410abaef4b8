/-
  That the program and the reference answer alike, in plain terms, and that the laws answer true.
-/
import Derived.Test.YtggdikabbngbaaaGreatL7
namespace Go.Proofs.YtggdikabbngbaaaGreat
open Go.RowKit
set_option linter.unusedVariables false
set_option linter.unusedSimpArgs false
set_option maxHeartbeats 4000000
noncomputable section
def kL : List YI := Qm.map fun x => (x, ())
theorem Bp3 : Bfa = some (kL, ()) := rfl
theorem Bes (n : YI) : Amo n = some (Vz n.1, ()) := rfl
theorem Bp4 (i : Nat) (h : i < 64) : idx kL (i : Int) = some (Vz (i : Int), ()) := by
 rw [A8r]
 unfold kL Vz
 rw [List.getElem?_map, if_pos (by omega), Int.toNat_natCast]
 have : i < Qm.length := by simpa [Qm] using h
 rw [List.getElem?_eq_getElem this]; rfl
theorem Bjx (l : List YI) (hl : l.length ≤ 4294967296) : Ad8 (l, ()) = some (D6 l && ((l.length : Int) == 8), ()) := by
 have h := K7 (B := Im) l (fun i => (l, (i : Int), ())) (fun _ e => !inR e.1 0 4294967295) (false, ()) (l, ())
  (fun i x hi hx => by
   unfold Im
   simp (disch := omega) only [Ae, Ag, Ab, Ci hi, A3, Bq hx, Ah, Dm, w64]
   rfl)
  (by unfold Im; simp only [Ae, Ag, Ab, C0, An])
 unfold Ad8 P6
 simp only [Ag, A7, Ab]
 rw [show ((0 : Int)) = ((0 : Nat) : Int) from rfl, h]
 unfold D6
 cases G8 (fun _ (e : YI) => !inR e.1 0 4294967295) l <;> rfl
theorem Bjy (x : BitVec IntKind.i64.bits) : BitVec.ofInt (IntKind.i64.bits) (4294967295 : Int) ^^^ x = x ^^^ BitVec.ofInt (IntKind.i64.bits) (4294967295 : Int) := BitVec.xor_comm _ _
theorem Zc {l : List YI} : D6 l = true ↔ ∀ (j : Nat) (x : YI), l[j]? = some x → 0 ≤ x.1 ∧ x.1 ≤ 4294967295 := by
 unfold D6
 rw [As0]
 simp only [Bool.not_eq_false', C6]
theorem Bjz (h out w : List YI) (hw : w.length = 64) (a b c d e f g z : Int) :
  ∃ a' b' c' d' e' f' g' z', Ay Fq (h, out, w, a, b, c, d, e, f, g, z, (0 : Int), ()) = some (h, out, a', b', c', d', e', f', g', z', ()) ∧
   Ay Fo (h, out, kL, w, a, b, c, d, e, f, g, z, (0 : Int), ()) = some (h, out, a', b', c', d', e', f', g', z', ()) := by
 obtain ⟨o1, o2, h1, h2, hq⟩ := Abr (B1 := Fq) (B2 := Fo)
  (fun i d1 d2 => ∃ a b c d e f g z : Int, d1 = (h, out, w, a, b, c, d, e, f, g, z, (i : Int), ()) ∧ d2 = (h, out, kL, w, a, b, c, d, e, f, g, z, (i : Int), ()))
  (fun o1 o2 => o1 = o2 ∧ ∃ a b c d e f g z : Int, o1 = (h, out, a, b, c, d, e, f, g, z, ())) 64
  (by
   rintro i d1 d2 hi ⟨a, b, c, d, e, f, g, z, rfl, rfl⟩
   left
   obtain ⟨x, hx⟩ : ∃ x, w[i]? = some x := ⟨_, List.getElem?_eq_getElem (by omega)⟩
   have hk := Bp4 i hi
   unfold Fq Fo
   simp only [Ae, Ag, Ab, Ai]
   rw [Ao (by omega), A3, A3]
   simp (disch := decide) only [A1r, A1s, Ah, Bes, Bq hx, hk, Bfs, Bjy]
   rw [w64 (n := (i : Int) + 1) (by omega)]
   refine ⟨_, _, rfl, rfl, _, _, _, _, _, _, _, _, rfl, ?_⟩
   simp only [Prod.mk.injEq, true_and, and_true]
   exact ⟨Bl5 _ _, Bl4 _ _, by omega⟩)
  (by
   rintro d1 d2 ⟨a, b, c, d, e, f, g, z, rfl, rfl⟩
   unfold Fq Fo
   simp only [Ae, Ag, Ab, Ai]
   exact ⟨_, _, rfl, rfl, rfl, _, _, _, _, _, _, _, _, rfl⟩)
  (d1 := (h, out, w, a, b, c, d, e, f, g, z, (0 : Int), ())) (d2 := (h, out, kL, w, a, b, c, d, e, f, g, z, (0 : Int), ())) ⟨a, b, c, d, e, f, g, z, rfl, rfl⟩
 obtain ⟨rfl, a', b', c', d', e', f', g', z', rfl⟩ := hq
 exact ⟨_, _, _, _, _, _, _, _, h1, h2⟩
theorem Bny (h l : List YI) (hh : h.length = 8) (hl : l.length = 8) : ∃ r : List YI, r.length = 8 ∧ D6 r = true ∧ Ay E6 (h, h, l, (l.length : Int), (0 : Int), ()) = some (r, ()) ∧ Ay E0 (h, h, l, (0 : Int), ()) = some (r, ()) := by
 obtain ⟨o1, o2, h1, h2, hq⟩ := Abr (B1 := E6) (B2 := E0)
  (fun i d1 d2 => ∃ out : List YI, out.length = 8 ∧ (∀ j x, j < i → out[j]? = some x → 0 ≤ x.1 ∧ x.1 ≤ 4294967295) ∧ d1 = (h, out, l, (l.length : Int), (i : Int), ()) ∧ d2 = (h, out, l, (i : Int), ()))
  (fun o1 o2 => o1 = o2 ∧ o1.1.length = 8 ∧ D6 o1.1 = true) 8
  (by
   rintro i d1 d2 hi ⟨out, ho, hb, rfl, rfl⟩
   left
   obtain ⟨x, hx⟩ : ∃ x, h[i]? = some x := ⟨_, List.getElem?_eq_getElem (by omega)⟩
   obtain ⟨y, hy⟩ : ∃ y, l[i]? = some y := ⟨_, List.getElem?_eq_getElem (by omega)⟩
   obtain ⟨q, hq⟩ : ∃ q, out[i]? = some q := ⟨_, List.getElem?_eq_getElem (by omega)⟩
   unfold E6 E0
   simp only [Ae, Ag, Ab, Ai]
   rw [Ao (by omega), Ao (by omega), A3, A3]
   simp only [Bq hx, Bq hy, Bq hq, Ah, Bfs, Int.toNat_natCast]
   rw [w64 (n := (i : Int) + 1) (by omega)]
   refine ⟨_, _, rfl, rfl, out.set i (m32 (IntKind.i64.wrap (x.1 + y.1)), ()), by simp [ho], fun j v hj hv => ?_, rfl, rfl⟩
   rw [List.getElem?_set] at hv
   split at hv
   ·rename_i e
    subst e
    split at hv
    ·simp at hv; subst hv; exact Bp1 _
    ·cases hv
   ·exact hb j v (by omega) hv)
  (by
   rintro d1 d2 ⟨out, ho, hb, rfl, rfl⟩
   unfold E6 E0
   simp only [Ae, Ag, Ab, Ai]
   rw [Bm (by omega), An]
   refine ⟨_, _, rfl, rfl, rfl, ho, ?_⟩
   rw [Zc]
   intro j x hx
   exact hb j x (by have := (List.getElem?_eq_some_iff.1 hx).1; dsimp only at this; omega) hx)
  (d1 := (h, h, l, (l.length : Int), (0 : Int), ())) (d2 := (h, h, l, (0 : Int), ())) ⟨h, hh, fun j x hj => by omega, rfl, rfl⟩
 obtain ⟨rfl, hq1, hq2⟩ := hq
 exact ⟨o1.1, hq1, hq2, h1, h2⟩
theorem Afn (h : List YI) (b : List YB) (hh : h.length ≤ 1073741824) (hb : b.length ≤ 4294967296) :
  ∃ r, Nh (h, ()) (b, ()) = some (r, ()) ∧ R0 (h, ()) (b, ()) = some (r, ()) ∧ r.length = h.length ∧ (D6 h = true → D6 r = true) := by
 obtain ⟨w, hw1, hw2, hw3⟩ := Ber b hb
 unfold Nh Ng R0 M5
 simp only [Ae, Ag, Ab, Ai, List.nil_append, List.length_nil, Nat.zero_add]
 rw [Ao (by omega), A8, A8, Alp _ _ (by omega), Bjx _ (by omega), Ah, Ah]
 cases hwb : (D6 h && ((h.length : Int) == 8)) with
 | false => exact ⟨h, rfl, rfl, rfl, id⟩
 | true =>
  have hlen : h.length = 8 := by simp at hwb; omega
  have hwd : D6 h = true := by simp at hwb; exact hwb.1
  simp only [Bool.not_true, An]
  by_cases hb64 : b.length = 64
  ·rw [Dw (by simp [hb64]), Dw (by simp [hb64]), hw1, hw2, Bp3]
   simp only [Ah]
   match h, hlen with
   | [x0, x1, x2, x3, x4, x5, x6, x7], _ =>
    simp only [show idx [x0, x1, x2, x3, x4, x5, x6, x7] (0 : Int) = some x0 from rfl, show idx [x0, x1, x2, x3, x4, x5, x6, x7] (1 : Int) = some x1 from rfl, show idx [x0, x1, x2, x3, x4, x5, x6, x7] (2 : Int) = some x2 from rfl, show idx [x0, x1, x2, x3, x4, x5, x6, x7] (3 : Int) = some x3 from rfl,
     show idx [x0, x1, x2, x3, x4, x5, x6, x7] (4 : Int) = some x4 from rfl, show idx [x0, x1, x2, x3, x4, x5, x6, x7] (5 : Int) = some x5 from rfl, show idx [x0, x1, x2, x3, x4, x5, x6, x7] (6 : Int) = some x6 from rfl, show idx [x0, x1, x2, x3, x4, x5, x6, x7] (7 : Int) = some x7 from rfl, Ah]
    obtain ⟨a', b', c', d', e', f', g', z', q1, q2⟩ := Bjz [x0, x1, x2, x3, x4, x5, x6, x7] [x0, x1, x2, x3, x4, x5, x6, x7] w (hw3 hb64) x0.1 x1.1 x2.1 x3.1 x4.1 x5.1 x6.1 x7.1
    rw [q1, q2]
    simp only [Ah]
    obtain ⟨r, r1, r2, r3, r4⟩ := Bny [x0, x1, x2, x3, x4, x5, x6, x7] [(a', ()), (b', ()), (c', ()), (d', ()), (e', ()), (f', ()), (g', ()), (z', ())] rfl rfl
    rw [r3, r4]
    exact ⟨r, rfl, rfl, r1, fun _ => r2⟩
  ·have h' : ¬ ((b.length : Int) = 64) := by omega
   rw [J3 (by simpa using h'), J3 (by simpa using h')]
   exact ⟨h, rfl, rfl, rfl, id⟩
def Gv (h : List YI) (b : List YB) : List YI := match Nh (h, ()) (b, ()) with | some r => r.1 | none => []
theorem Bhq (h : List YI) (b : List YB) (hh : h.length ≤ 1073741824) (hb : b.length ≤ 4294967296) : Nh (h, ()) (b, ()) = some (Gv h b, ()) := by
 obtain ⟨r, h1, h2, _⟩ := Afn h b hh hb
 unfold Gv; rw [h1]
theorem Bhr (h : List YI) (b : List YB) (hh : h.length ≤ 1073741824) (hb : b.length ≤ 4294967296) : R0 (h, ()) (b, ()) = some (Gv h b, ()) := by
 obtain ⟨r, h1, h2, _⟩ := Afn h b hh hb
 unfold Gv; rw [h1, h2]
theorem Abs (h : List YI) (b : List YB) (hh : h.length ≤ 1073741824) (hb : b.length ≤ 4294967296) : (Gv h b).length = h.length ∧ (D6 h = true → D6 (Gv h b) = true) := by
 obtain ⟨r, h1, h2, h3, h4⟩ := Afn h b hh hb
 unfold Gv; rw [h1]; exact ⟨h3, h4⟩
end
end Go.Proofs.YtggdikabbngbaaaGreat

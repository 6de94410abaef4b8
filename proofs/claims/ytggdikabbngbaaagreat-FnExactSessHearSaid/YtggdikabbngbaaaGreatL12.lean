/-
  That the program and the reference answer alike, in plain terms, and that the laws answer true.
-/
import Derived.Test.YtggdikabbngbaaaGreatL11
namespace Go.Proofs.YtggdikabbngbaaaGreat
open Go.RowKit
set_option linter.unusedVariables false
set_option linter.unusedSimpArgs false
set_option maxRecDepth 100000
set_option maxHeartbeats 4000000
noncomputable section
theorem Arp (d : Bo) (h : Bj d ≤ 4294967296) : Vf d = some d := by
 simp only [Bj] at h
 unfold Vf Aee
 simp only [Ai, Ab, List.length_nil, Nat.zero_add, List.nil_append]
 rw [Ao h]; rfl
theorem Ba9 (d : Bo) (h : Bj d ≤ 4294967296) : Aik d = some d := Arp d h
theorem Axi (d : YEp) (h : Bb d ≤ 4294967296) : Ov d = some d := by
 simp only [Bb] at h
 unfold Ov Ai6
 simp (disch := first | omega | (dsimp only; omega) | (simp only [Bj]; omega)) only [Ag, Ab, Dn, Arp, Ah]
theorem Alx (d : YEp) (h : Bb d ≤ 4294967296) : Om d = some d := by
 simp only [Bb] at h
 unfold Om Ail
 simp (disch := first | omega | (dsimp only; omega) | (simp only [Bj]; omega)) only [Ag, Ai, Ab, Ba9, Ah, List.length_nil, Nat.zero_add, List.nil_append, Ao, A8]
theorem Bn2 (d : YEp) (b : Bool × Unit) (h : Bb d ≤ 4294967296) : Aol d b = some d := by
 have h' := h
 simp only [Bb] at h
 unfold Aol Aok
 simp (disch := first | omega | (dsimp only; omega)) only [Ae, Ag, Ai, Ab, Alx, Ah, List.length_nil, Nat.zero_add, List.nil_append, Ao, A8]
 cases b.1 <;> rfl
theorem Ps (d : Ak) (h : Ar d ≤ 4294967296) : E4 d = some d := by
 simp only [Ar] at h
 unfold E4 Z7
 simp (disch := first | omega | (dsimp only; omega) | (simp only [Bb]; omega)) only [Ag, Ai, Ab, Dn, Axi, Ah]
theorem Oa (d : Ak) (h : Ar d ≤ 4294967296) : Fv d = some d := by
 simp only [Ar] at h
 unfold Fv Ad1
 simp (disch := first | omega | (dsimp only; omega) | (simp only [Bb]; omega)) only [Ag, Ai, Ab, Alx, Bn2, Ah, List.length_nil, Nat.zero_add, List.nil_append, Ao, A8]
theorem Vp (d : A6) (h : A4 d ≤ 4294967296) : Dk d = some d := by
 obtain ⟨a, b, l, ⟨⟩⟩ := d
 simp only [A4] at h
 have hl := Da (B := E5) l.length (fun i => (l, (l.length : Int), (i : Int), (0 : Int), (0 : Int), ([] : List Aj), a, b, l.take i, ())) ((0 : Int), (0 : Int), ([] : List Aj), a, b, l, ())
  (fun i hi => by
   have hx := List.getElem?_eq_getElem hi
   have h2 := Pq (f := Bd) hx
   simp only [Bd] at h2
   unfold E5
   simp only [Ae, Ag, Ab, Ai, Ci hi, A3, Bq hx, Ah]
   rw [Dn _ (by dsimp only; omega), Ah, Ao (by simp; omega), A8, w64 (by omega)]
   exact congrArg (fun t => some (Sum.inl (l, (l.length : Int), (i : Int) + 1, (0 : Int), (0 : Int), ([] : List Aj), a, b, t, ()))) (Eu hx))
  (by unfold E5; simp only [Ae, Ab, C0, An, List.take_length])
 unfold Dk Lu
 simp only [Ag, Ab]
 rw [show Ay E5 (l, (l.length : Int), (0 : Int), (0 : Int), (0 : Int), ([] : List Aj), a, b, ([] : List Aj), ()) = _ from hl]
 rfl
theorem Ada (d : Aj) (h : Bd d ≤ 4294967296) : L9 d = some d := by
 simp only [Bd] at h
 unfold L9 Ad2
 simp only [Ai, Ab, List.length_nil, Nat.zero_add, List.nil_append]
 rw [Ao h]; rfl
theorem Rm (d : A6) (h : A4 d ≤ 4294967296) : Cu d = some d := by
 obtain ⟨a, b, l, ⟨⟩⟩ := d
 simp only [A4] at h
 have hl := Da (B := Gr) l.length (fun i => ((i : Int), a, b, l, (0 : Int), (0 : Int), ([] : List Aj), a, b, l.take i, ())) ((0 : Int), (0 : Int), ([] : List Aj), a, b, l, ())
  (fun i hi => by
   have hx := List.getElem?_eq_getElem hi
   have h2 := Pq (f := Bd) hx
   unfold Gr
   simp only [Ae, Ag, Ab, Ai, Ci hi, A3, Bq hx, Ah]
   rw [Ada _ (by omega), Ah, Ao (by simp; omega), A8, w64 (by omega)]
   exact congrArg (fun t => some (Sum.inl ((i : Int) + 1, a, b, l, (0 : Int), (0 : Int), ([] : List Aj), a, b, t, ()))) (Eu hx))
  (by unfold Gr; simp only [Ae, Ab, C0, An, List.take_length])
 unfold Cu P3
 simp only [Ag, Ab]
 rw [show Ay Gr ((0 : Int), a, b, l, (0 : Int), (0 : Int), ([] : List Aj), a, b, ([] : List Aj), ()) = _ from hl]
 rfl
theorem Bhy (d : Bi) (h : Bh d ≤ 4294967296) : Z9 d = some d := by
 simp only [Bh] at h
 unfold Z9 Z8
 simp (disch := first | omega | (dsimp only; omega) | (simp only [Ar]; omega) | (simp only [A4]; omega)) only [Ag, Ai, Ab, Dn, Ps, Vp, Ah]
theorem Bj6 (d : Bi) (h : Bh d ≤ 4294967296) : Ad4 d = some d := by
 simp only [Bh] at h
 unfold Ad4 Ad3
 simp (disch := first | omega | (dsimp only; omega) | (simp only [Ar]; omega) | (simp only [A4]; omega)) only [Ag, Ai, Ab, Oa, Rm, Ah, List.length_nil, Nat.zero_add, List.nil_append, Ao, A8]
end
end Go.Proofs.YtggdikabbngbaaaGreat

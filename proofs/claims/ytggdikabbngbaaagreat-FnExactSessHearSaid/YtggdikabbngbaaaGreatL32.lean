/-
  That the program and the reference answer alike, in plain terms, and that the laws answer true.
-/
import Derived.Test.YtggdikabbngbaaaGreatL31
namespace Go.Proofs.YtggdikabbngbaaaGreat
open Go.RowKit
set_option linter.unusedVariables false
set_option linter.unusedSimpArgs false
set_option maxRecDepth 100000
set_option maxHeartbeats 4000000
noncomputable section
theorem A6e : Fu (List.replicate 32 ((0 : Int), ())) := ⟨rfl, fun q x hx => by
 rw [List.getElem?_replicate] at hx
 split at hx
 ·simp only [Option.some.injEq] at hx; subst hx; exact ⟨by decide, by decide⟩
 ·cases hx⟩
theorem Bob (r : Nat) : U5 (List.replicate 32 ((0 : Int), ())) r = false := by
 unfold U5
 rw [List.getElem?_replicate]
 split <;> simp
theorem Bkj : J5 A1v = true := by
 unfold J5
 simp only [Bool.and_eq_true]
 refine ⟨by decide, ⟨Zc.2 fun q x hx => by have := A6e.2 q x hx; omega, by rfl⟩, Afv.2 fun i hi => ?_, by rfl⟩
 rw [Zn (w := A1v) A6e (by show (0 : Int) ≤ -1 + 1 + (i : Nat); omega)]
 exact Bob _
def Aru (n : Int) (k : List YB) : YEp := (n, k, (0 : Int), (-1 : Int), List.replicate 32 ((0 : Int), ()), ())
theorem Bkk {n : Int} {k : List YB} (hn : 0 ≤ n ∧ n ≤ 4294967295) (hk : k.length = 32) : Er (Aru n k) = true := by
 unfold Er
 simp only [Bool.and_eq_true]
 exact ⟨C6.2 hn, by show ((k.length : Int) == 32) = true; rw [hk]; rfl, (show inR 0 0 281474976710656 = true by decide), Bkj⟩
theorem Bkl (n : Int) (k : List YB) (hn : 0 ≤ n ∧ n ≤ 4294967295) (hk : k.length = 32) : Nd (n, ()) (k, ()) = some (Aru n k) ∧ K4 (n, ()) (k, ()) = some (Aru n k) := by
 have q : ((k.length : Int) != 32) = false := by simp [hk]
 have r : inR n 0 4294967295 = true := C6.2 hn
 unfold Nd Ab7 K4 Vw
 simp only [Ae, Ag, Ab, Ai, C9, Dm, Ah, Axj, Axk, List.nil_append, List.length_nil, Nat.zero_add, r, Bool.not_true, An, q]
 rw [Dn _ (by dsimp only; omega), Ao (by omega)]
 exact ⟨rfl, rfl⟩
theorem Bkm {k l : List YB} (h1 : l.length ≤ 100) (h2 : k.length ≤ 1048576) : (Tm k l).length = 32 := by
 unfold Tm Ob
 rw [if_pos ⟨h1, h2⟩]
 exact As2 _ _ h2 (by simp; omega)
theorem Afx (r : Int) (f : Av) : (Cz r f).length ≤ 65 := by
 have hh := N9 r f.2.2.2.1 f.2.2.2.2.2.2.2.1 f.2.2.2.2.2.2.2.2.1
 have hle : (Dr r f.2.2.2.1 f.2.2.2.2.2.2.2.1 f.2.2.2.2.2.2.2.2.1).length ≤ 23 := by rw [hh]; cases Fl r f.2.2.2.1 f.2.2.2.2.2.2.2.1 f.2.2.2.2.2.2.2.2.1 <;> simp
 unfold Cz
 cases h : (inR r 0 1 && (Ej f && inR f.1 4 8)) with
 | false => simp
 | true =>
  simp only [Bool.and_eq_true] at h
  have := A1x h.2.1 h.2.2
  simp; omega
end
end Go.Proofs.YtggdikabbngbaaaGreat

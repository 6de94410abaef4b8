/-
  That the program and the reference answer alike, in plain terms, and that the laws answer true.
-/
import Derived.Test.YtggdikabbngbaaaGreatL11
namespace Go.Proofs.YtggdikabbngbaaaGreat
open Go.RowKit
set_option linter.unusedVariables false
set_option linter.unusedSimpArgs false
set_option maxRecDepth 100000
set_option maxHeartbeats 4000000
noncomputable section
theorem Asb (d : Bi) (h : Bk d ≤ 4294967296) : Tt d = some d := by
 simp only [Bk] at h
 unfold Tt Afz
 simp only [Am, Ae, List.length_nil, Nat.zero_add, List.nil_append]
 rw [Ao h]; rfl
theorem A92 (d : Bi) (h : Bk d ≤ 4294967296) : Aj7 d = some d := Asb d h
theorem Axf (d : YEp) (h : Bc d ≤ 4294967296) : Nb d = some d := by
 simp only [Bc] at h
 unfold Nb Ak3
 simp (disch := first | omega | (dsimp only; omega) | (simp only [Bk]; omega)) only [Ak, Ae, Cz, Asb, Al]
theorem Am5 (d : YEp) (h : Bc d ≤ 4294967296) : M6 d = some d := by
 simp only [Bc] at h
 unfold M6 Aj8
 simp (disch := first | omega | (dsimp only; omega) | (simp only [Bk]; omega)) only [Ak, Am, Ae, A92, Al, List.length_nil, Nat.zero_add, List.nil_append, Ao, A8]
theorem Bmy (d : YEp) (b : Bool × Unit) (h : Bc d ≤ 4294967296) : Ao1 d b = some d := by
 have h' := h
 simp only [Bc] at h
 unfold Ao1 Ao0
 simp (disch := first | omega | (dsimp only; omega)) only [Ah, Ak, Am, Ae, Am5, Al, List.length_nil, Nat.zero_add, List.nil_append, Ao, A8]
 cases b.1 <;> rfl
theorem Am6 (d : Ag) (h : Az d ≤ 4294967296) : Ma d = some d := by
 simp only [Az] at h
 unfold Ma Abo
 simp (disch := first | omega | (dsimp only; omega) | (simp only [Bc]; omega)) only [Ak, Am, Ae, Cz, Axf, Al]
theorem Aev (d : Ag) (h : Az d ≤ 4294967296) : Ob d = some d := by
 simp only [Az] at h
 unfold Ob Afg
 simp (disch := first | omega | (dsimp only; omega) | (simp only [Bc]; omega)) only [Ak, Am, Ae, Am5, Bmy, Al, List.length_nil, Nat.zero_add, List.nil_append, Ao, A8]
def Ly (b : YBs) : Bool := inR (b.1.length : Int) 1 32
theorem A3e (b : YBs) : Ur b = some (Ly b, ()) := by
 unfold Ur Ao8
 simp only [Ak, Ae, Cq, Al]; rfl
theorem A3f (b : YBs) : Uc b = some (Ly b, ()) := by
 unfold Uc Ao2
 simp only [Ak, Ae, C6, Al]; rfl
end
end Go.Proofs.YtggdikabbngbaaaGreat

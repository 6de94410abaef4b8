/-
  That the program and the reference answer alike, in plain terms, and that the laws answer true.
-/
import Derived.Test.YtggdikabbngbaaaL1
namespace Go.Proofs.Ytggdikabbngbaaa
open Go.RowKit
set_option linter.unusedVariables false
set_option linter.unusedSimpArgs false
set_option maxHeartbeats 4000000
noncomputable section
def C9 (l : List YI) : Bool := T3 (fun _ e => !inR e.1 0 4294967295) l
theorem Afb (l : List YI) (n : Int) (hl : l.length ≤ 4294967296) : Ke (l, ()) (n, ()) = some (C9 l && ((l.length : Int) == n), ()) := by
 have h := Ai5 (B := Ed) l (fun i => (l, n, l, (l.length : Int), (i : Int), ())) (fun _ e => !inR e.1 0 4294967295) (false, ()) (l, n, ())
  (fun i x hi hx => by
   unfold Ed
   simp (disch := omega) only [Ae, Af, Ad, Cd hi, Ax, A5 hx, Ag, Jl, w64]
   rfl)
  (by unfold Ed; simp only [Ae, Af, Ad, Cp, Al])
 unfold Ke Hs
 simp only [Af, A9, Ad]
 rw [show ((0 : Int)) = ((0 : Nat) : Int) from rfl, h]
 unfold C9
 cases T3 (fun _ (e : YI) => !inR e.1 0 4294967295) l <;> rfl
theorem Sc {n lo hi : Int} : inR n lo hi = true ↔ lo ≤ n ∧ n ≤ hi := by simp [inR]
end
end Go.Proofs.Ytggdikabbngbaaa

/-
  That the program and the reference answer alike, in plain terms, and that the laws answer true.
-/
import Derived.Test.YtggdikabbngbaaaGreatL3
namespace Go.Proofs.YtggdikabbngbaaaGreat
open Go.RowKit
set_option linter.unusedVariables false
set_option linter.unusedSimpArgs false
set_option maxHeartbeats 4000000
noncomputable section
def Bax {E : Type} (q : E → Bool) (l : List E) : Int := (N7 (fun _ x => q x) l 0).elim (-1) fun i => (i : Int)
theorem Bo1 {E : Type} (q : E → Bool) (l : List E) : (sm ((N7 (fun _ x => q x) l 0).elim (Sum.inr ()) fun i => Sum.inl ((i : Int), ())) (fun c : Int × Unit => some (c.1, ())) fun _ : Unit => some ((-1 : Int), ())) = some (Bax q l, ()) := by
 unfold Bax
 cases N7 (fun _ x => q x) l 0 <;> rfl
theorem A1q (a : List YB) : Ew a a = true := by simp [Ew]
end
end Go.Proofs.YtggdikabbngbaaaGreat

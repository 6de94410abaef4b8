/-
  That the program and the reference answer alike, in plain terms, and that the laws answer true.
-/
import Derived.Test.YtdlcjpjflckdlaaGreatL12
namespace Go.Proofs.YtdlcjpjflckdlaaGreat
open Go.RowKit
set_option linter.unusedVariables false
set_option linter.unusedSimpArgs false
set_option maxRecDepth 100000
set_option maxHeartbeats 4000000
noncomputable section
/-! ## A table with a session put -/
theorem sumN_set {E : Type} {f : E → Nat} : ∀ {l : List E} {i : Nat} {x : E}, sumN f (l.set i x) ≤ sumN f l + f x
  | [], _, _ => by simp [sumN]
  | a :: r, 0, x => by simp only [List.set_cons_zero, sumN]; omega
  | a :: r, i + 1, x => by have := sumN_set (f := f) (l := r) (i := i) (x := x); simp only [List.set_cons_succ, sumN]; omega
end
end Go.Proofs.YtdlcjpjflckdlaaGreat

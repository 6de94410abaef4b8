/-
  That the program and the reference answer alike, in plain terms, and that the laws answer true.
-/
import Derived.Test.YtdlcjpjflckdlaaGreatL17
namespace Go.Proofs.YtdlcjpjflckdlaaGreat
open Go.RowKit
set_option linter.unusedVariables false
set_option linter.unusedSimpArgs false
set_option maxRecDepth 100000
set_option maxHeartbeats 4000000
noncomputable section
/-! ## What a client sends -/
theorem clCh_need (c : YClient) : need_Chan (clCh c) ≤ need_Client c := by simp only [need_Chan, clCh, need_Client]; omega
theorem clFin_need (c : YClient) : need_Frame (clFin c) ≤ need_Client c := by simp only [need_Frame, clFin, need_Client]; omega
def ClR (c : YClient) (m : Nat) (r : YClient) (fs : List YFrame) (ns : List YNote) : Prop :=
  need_Client r ≤ need_Client c + 64 ∧ fs.length + sumN need_Frame fs ≤ need_Client c + m + 99 ∧ ns.length + sumN need_Note ns ≤ 4 * (need_Client c + m + 99)
theorem key_need (c : YChan) : c.2.2.2.1.length ≤ need_Chan c := by simp only [need_Chan]; omega
end
end Go.Proofs.YtdlcjpjflckdlaaGreat

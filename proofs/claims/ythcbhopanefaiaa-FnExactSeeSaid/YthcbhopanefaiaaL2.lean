/-
  That the program and the reference answer alike, in plain terms, and that the laws answer true.
-/
import Derived.Test.YthcbhopanefaiaaL1
namespace Go.Proofs.Ythcbhopanefaiaa
open Go.RowKit
set_option linter.unusedVariables false
set_option linter.unusedSimpArgs false
set_option maxHeartbeats 4000000
noncomputable section
/-! ## Answers that are true or false -/
theorem br_and (b c : Bool) : br b (some (c, ())) (some (false, ())) = some (b && c, ()) := by cases b <;> rfl
theorem br_cc (b c d : Bool) : br b (some (c, ())) (some (d, ())) = some (bif b then c else d, ()) := by cases b <;> rfl
def addrOk (a : YAddr) : Bool := inR a.1 0 4294967295 && inR a.2.1 0 65535
theorem i_AddrOk (a : YAddr) : V_i_AddrOk a = some (addrOk a, ()) := by
  unfold V_i_AddrOk T_i_AddrOk addrOk
  simp only [val_br, val_ob, val_leaf, i_within, ob_s, br_and]
theorem s_AddrOk (a : YAddr) : V_s_AddrOk a = some (addrOk a, ()) := by
  unfold V_s_AddrOk T_s_AddrOk addrOk
  simp only [val_br, val_ob, val_leaf, s_l1In, ob_s, br_and]
theorem i_isNonce (a : YBs) : V_i_isNonce a = some ((a.1.length : Int) == 12, ()) := rfl
theorem sameB_nil (l : List YB) : sameB l [] = ((l.length : Int) == 0) := by
  apply beq_of_iff
  unfold sameB bstr
  cases l <;> simp
  omega
end
end Go.Proofs.Ythcbhopanefaiaa

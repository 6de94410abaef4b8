/-
  That the program and the reference answer alike, in plain terms, and that the laws answer true.
-/
import Derived.Test.YtmhhajdeafijmaaL21
namespace Go.Proofs.Ytmhhajdeafijmaa
open Go.RowKit
set_option linter.unusedVariables false
set_option linter.unusedSimpArgs false
set_option maxRecDepth 100000
set_option maxHeartbeats 4000000
noncomputable section
def orx (d x y:Int):Int:=IntKind.i64.wrap ((BitVec.ofInt (IntKind.i64.bits) d ||| BitVec.ofInt (IntKind.i64.bits) ((IntKind.i64.wrap ((IntKind.u8.wrap ((BitVec.ofInt (IntKind.u8.bits) x ^^^ BitVec.ofInt (IntKind.u8.bits) y).toNat:Nat)))))).toNat:Nat)
end
end Go.Proofs.Ytmhhajdeafijmaa

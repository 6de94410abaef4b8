/-
  No cell of these rows narrows 'for every input' (looked for: loops, veiled, ifaces, maps, wideKeys, modest, calm, conditions, laid).
  DERIVED. THE GIVEN ROWS OF THIS SEAT. 6 by the template 'for every input the law returns true; each argument reads behind the call as it read before'; 0 by the template 'total and deterministic' (their statements: YtddpdlggnbkpbaaTotals.lean).
  GIVEN WITH THE SEED: the statements are not yours to turn. If you find one false, say at which input.
  Laid BY PROGRAM, IN A SANDBOX (cutbox-rows.mjs): the forced cells as the released guide's own fill.sh prints them over the translation d6c6a61400e9fd97… (all of the seat's roots in one cut). By AI agents, Wed Nov 11 2026. No macro, syntax, notation, axiom, sorry.
-/
import Derived.Test.YtddpdlggnbkpbaaChecked
import GoSem.Claim
import GoSem.ClaimJoined
import GoSem.ClaimMapViews
import Derived.JoinedTies
import Derived.KernelRfl
namespace Go.Proofs.Ytddpdlggnbkpbaa
/- THE CELL 'sum', in the pinned program and in every row, IS THE sha256 OF THE DUMP (.gsa) THAT YtddpdlggnbkpbaaProg.lean LOADS. Nothing in Lean hashes anything: it is a label: what it is worth is what the hold of that sum in a sandbox is worth. -/
noncomputable def Try.pinned : Pinned := { name := "ytddpdlggnbkpbaa", sum := "d6c6a61400e9fd9757625cc333682e70dda022877d66040db0874c75f9849686", checked := Try.checked }
namespace Rows
def none {H : Type} : Left H := { results := [], args := [] }

/-- 'laws.FnExactStepOk': WHATEVER THE INPUT: true; the input reads as it did. -/
def fnExactStepOkSpec : ChangeSpec := { name := "fnExactStepOk", fn := fun _ => fun
  | [d] => { results := [.lit (.bool true)], args := [d] }
  | _ => none }
def fnExactStepOkRow : OpenClaim := { program := "ytddpdlggnbkpbaa", sum := "d6c6a61400e9fd9757625cc333682e70dda022877d66040db0874c75f9849686", func := "loop.example/g00478/laws.FnExactStepOk", spec := "fnExactStepOk", apart := false }
def FnExactStepOkSaid : Prop := fnExactStepOkRow.holds Try.pinned (OpenSpec.ofChange fnExactStepOkSpec)

/-- ITS FALSE NEIGHBOUR: 'it returns false'. Refute it at one input. -/
def fnExactStepOkWrong : ChangeSpec := { name := "fnExactStepOk", fn := fun _ => fun
  | [d] => { results := [.lit (.bool false)], args := [d] }
  | _ => none }
def FnExactStepOkWrongFalsely : Prop := fnExactStepOkRow.holds Try.pinned (OpenSpec.ofChange fnExactStepOkWrong)

/-- 'laws.FnExactWireOk': WHATEVER THE INPUT: true; the input reads as it did. -/
def fnExactWireOkSpec : ChangeSpec := { name := "fnExactWireOk", fn := fun _ => fun
  | [d] => { results := [.lit (.bool true)], args := [d] }
  | _ => none }
def fnExactWireOkRow : OpenClaim := { program := "ytddpdlggnbkpbaa", sum := "d6c6a61400e9fd9757625cc333682e70dda022877d66040db0874c75f9849686", func := "loop.example/g00478/laws.FnExactWireOk", spec := "fnExactWireOk", apart := false }
def FnExactWireOkSaid : Prop := fnExactWireOkRow.holds Try.pinned (OpenSpec.ofChange fnExactWireOkSpec)

/-- ITS FALSE NEIGHBOUR: 'it returns false'. Refute it at one input. -/
def fnExactWireOkWrong : ChangeSpec := { name := "fnExactWireOk", fn := fun _ => fun
  | [d] => { results := [.lit (.bool false)], args := [d] }
  | _ => none }
def FnExactWireOkWrongFalsely : Prop := fnExactWireOkRow.holds Try.pinned (OpenSpec.ofChange fnExactWireOkWrong)

/-- 'laws.FnExactWiresOk': WHATEVER THE INPUT: true; the input reads as it did. -/
def fnExactWiresOkSpec : ChangeSpec := { name := "fnExactWiresOk", fn := fun _ => fun
  | [d] => { results := [.lit (.bool true)], args := [d] }
  | _ => none }
def fnExactWiresOkRow : OpenClaim := { program := "ytddpdlggnbkpbaa", sum := "d6c6a61400e9fd9757625cc333682e70dda022877d66040db0874c75f9849686", func := "loop.example/g00478/laws.FnExactWiresOk", spec := "fnExactWiresOk", apart := false }
def FnExactWiresOkSaid : Prop := fnExactWiresOkRow.holds Try.pinned (OpenSpec.ofChange fnExactWiresOkSpec)

/-- ITS FALSE NEIGHBOUR: 'it returns false'. Refute it at one input. -/
def fnExactWiresOkWrong : ChangeSpec := { name := "fnExactWiresOk", fn := fun _ => fun
  | [d] => { results := [.lit (.bool false)], args := [d] }
  | _ => none }
def FnExactWiresOkWrongFalsely : Prop := fnExactWiresOkRow.holds Try.pinned (OpenSpec.ofChange fnExactWiresOkWrong)

/-- 'laws.FnExactBetween': WHATEVER THE INPUT: true; the input reads as it did. -/
def fnExactBetweenSpec : ChangeSpec := { name := "fnExactBetween", fn := fun _ => fun
  | [d1, d2, d3] => { results := [.lit (.bool true)], args := [d1, d2, d3] }
  | _ => none }
def fnExactBetweenRow : OpenClaim := { program := "ytddpdlggnbkpbaa", sum := "d6c6a61400e9fd9757625cc333682e70dda022877d66040db0874c75f9849686", func := "loop.example/g00478/laws.FnExactBetween", spec := "fnExactBetween", apart := false }
def FnExactBetweenSaid : Prop := fnExactBetweenRow.holds Try.pinned (OpenSpec.ofChange fnExactBetweenSpec)

/-- ITS FALSE NEIGHBOUR: 'it returns false'. Refute it at one input. -/
def fnExactBetweenWrong : ChangeSpec := { name := "fnExactBetween", fn := fun _ => fun
  | [d1, d2, d3] => { results := [.lit (.bool false)], args := [d1, d2, d3] }
  | _ => none }
def FnExactBetweenWrongFalsely : Prop := fnExactBetweenRow.holds Try.pinned (OpenSpec.ofChange fnExactBetweenWrong)

/-- 'laws.FnExactSee': WHATEVER THE INPUT: true; the input reads as it did. -/
def fnExactSeeSpec : ChangeSpec := { name := "fnExactSee", fn := fun _ => fun
  | [d1, d2] => { results := [.lit (.bool true)], args := [d1, d2] }
  | _ => none }
def fnExactSeeRow : OpenClaim := { program := "ytddpdlggnbkpbaa", sum := "d6c6a61400e9fd9757625cc333682e70dda022877d66040db0874c75f9849686", func := "loop.example/g00478/laws.FnExactSee", spec := "fnExactSee", apart := false }
def FnExactSeeSaid : Prop := fnExactSeeRow.holds Try.pinned (OpenSpec.ofChange fnExactSeeSpec)

/-- ITS FALSE NEIGHBOUR: 'it returns false'. Refute it at one input. -/
def fnExactSeeWrong : ChangeSpec := { name := "fnExactSee", fn := fun _ => fun
  | [d1, d2] => { results := [.lit (.bool false)], args := [d1, d2] }
  | _ => none }
def FnExactSeeWrongFalsely : Prop := fnExactSeeRow.holds Try.pinned (OpenSpec.ofChange fnExactSeeWrong)

/-- 'laws.FnExactWireFrom': WHATEVER THE INPUT: true; the input reads as it did. -/
def fnExactWireFromSpec : ChangeSpec := { name := "fnExactWireFrom", fn := fun _ => fun
  | [d1, d2, d3] => { results := [.lit (.bool true)], args := [d1, d2, d3] }
  | _ => none }
def fnExactWireFromRow : OpenClaim := { program := "ytddpdlggnbkpbaa", sum := "d6c6a61400e9fd9757625cc333682e70dda022877d66040db0874c75f9849686", func := "loop.example/g00478/laws.FnExactWireFrom", spec := "fnExactWireFrom", apart := false }
def FnExactWireFromSaid : Prop := fnExactWireFromRow.holds Try.pinned (OpenSpec.ofChange fnExactWireFromSpec)

/-- ITS FALSE NEIGHBOUR: 'it returns false'. Refute it at one input. -/
def fnExactWireFromWrong : ChangeSpec := { name := "fnExactWireFrom", fn := fun _ => fun
  | [d1, d2, d3] => { results := [.lit (.bool false)], args := [d1, d2, d3] }
  | _ => none }
def FnExactWireFromWrongFalsely : Prop := fnExactWireFromRow.holds Try.pinned (OpenSpec.ofChange fnExactWireFromWrong)

/- THE SECOND FORM. 'bulk': how many values and letters a reading holds, each counted each time it is reached (what is shared counts as often as it is met; a slice's spare places count too). A statement '..UptoSaid' is the law's where the arguments, and the package variables that the reading takes, are together of bulk at most 1048576: NARROWER than '..Said'. Prove '..Said' where nothing that the law and all that it calls make is longer than what came in: it says more and counts as full. Else prove '..UptoSaid'. A law counts once. -/
mutual
def uptoBulk {H : Type} : DataW H → Nat
  | .lit (.string bytes) => bytes.length + 1
  | .lit _ => 1
  | .nil => 1
  | .ptr d => uptoBulk d + 1
  | .slice elems spare => uptoBulkAll elems + uptoBulkAll spare + 1
  | .agg parts => uptoBulkAll parts + 1
  | .iface _ d => uptoBulk d + 1
  | .map entries => uptoBulkEntries entries + 1
  | .held _ => 1
def uptoBulkAll {H : Type} : List (DataW H) → Nat
  | [] => 0
  | d :: r => uptoBulk d + uptoBulkAll r
def uptoBulkEntries {H : Type} : List (Lit × DataW H) → Nat
  | [] => 0
  | x :: r => uptoBulkEntry x + uptoBulkEntries r
def uptoBulkEntry {H : Type} : Lit × DataW H → Nat
  | (.string bytes, d) => bytes.length + uptoBulk d + 1
  | (_, d) => uptoBulk d + 1
 end
def uptoSmall : (H : Type) → List (DataW H) → Bool := fun _ ds => decide (uptoBulkAll ds ≤ 1048576)
def OpenSpec.upto (s : _root_.Go.ChangeSpec) : _root_.Go.OpenSpec := { _root_.Go.OpenSpec.ofChange s with cond := some uptoSmall }

/-- 'laws.FnExactStepOk', WHERE WHAT IT READS IS OF BULK AT MOST 1048576: true; the input reads as it did. -/
def fnExactStepOkUptoRow : OpenClaim := { program := "ytddpdlggnbkpbaa", sum := "d6c6a61400e9fd9757625cc333682e70dda022877d66040db0874c75f9849686", func := "loop.example/g00478/laws.FnExactStepOk", spec := "fnExactStepOk", apart := false, narrowed := true }
def FnExactStepOkUptoSaid : Prop := fnExactStepOkUptoRow.holds Try.pinned (OpenSpec.upto fnExactStepOkSpec)

/-- 'laws.FnExactWireOk', WHERE WHAT IT READS IS OF BULK AT MOST 1048576: true; the input reads as it did. -/
def fnExactWireOkUptoRow : OpenClaim := { program := "ytddpdlggnbkpbaa", sum := "d6c6a61400e9fd9757625cc333682e70dda022877d66040db0874c75f9849686", func := "loop.example/g00478/laws.FnExactWireOk", spec := "fnExactWireOk", apart := false, narrowed := true }
def FnExactWireOkUptoSaid : Prop := fnExactWireOkUptoRow.holds Try.pinned (OpenSpec.upto fnExactWireOkSpec)

/-- 'laws.FnExactWiresOk', WHERE WHAT IT READS IS OF BULK AT MOST 1048576: true; the input reads as it did. -/
def fnExactWiresOkUptoRow : OpenClaim := { program := "ytddpdlggnbkpbaa", sum := "d6c6a61400e9fd9757625cc333682e70dda022877d66040db0874c75f9849686", func := "loop.example/g00478/laws.FnExactWiresOk", spec := "fnExactWiresOk", apart := false, narrowed := true }
def FnExactWiresOkUptoSaid : Prop := fnExactWiresOkUptoRow.holds Try.pinned (OpenSpec.upto fnExactWiresOkSpec)

/-- 'laws.FnExactBetween', WHERE WHAT IT READS IS OF BULK AT MOST 1048576: true; the input reads as it did. -/
def fnExactBetweenUptoRow : OpenClaim := { program := "ytddpdlggnbkpbaa", sum := "d6c6a61400e9fd9757625cc333682e70dda022877d66040db0874c75f9849686", func := "loop.example/g00478/laws.FnExactBetween", spec := "fnExactBetween", apart := false, narrowed := true }
def FnExactBetweenUptoSaid : Prop := fnExactBetweenUptoRow.holds Try.pinned (OpenSpec.upto fnExactBetweenSpec)

/-- 'laws.FnExactSee', WHERE WHAT IT READS IS OF BULK AT MOST 1048576: true; the input reads as it did. -/
def fnExactSeeUptoRow : OpenClaim := { program := "ytddpdlggnbkpbaa", sum := "d6c6a61400e9fd9757625cc333682e70dda022877d66040db0874c75f9849686", func := "loop.example/g00478/laws.FnExactSee", spec := "fnExactSee", apart := false, narrowed := true }
def FnExactSeeUptoSaid : Prop := fnExactSeeUptoRow.holds Try.pinned (OpenSpec.upto fnExactSeeSpec)

/-- 'laws.FnExactWireFrom', WHERE WHAT IT READS IS OF BULK AT MOST 1048576: true; the input reads as it did. -/
def fnExactWireFromUptoRow : OpenClaim := { program := "ytddpdlggnbkpbaa", sum := "d6c6a61400e9fd9757625cc333682e70dda022877d66040db0874c75f9849686", func := "loop.example/g00478/laws.FnExactWireFrom", spec := "fnExactWireFrom", apart := false, narrowed := true }
def FnExactWireFromUptoSaid : Prop := fnExactWireFromUptoRow.holds Try.pinned (OpenSpec.upto fnExactWireFromSpec)

end Rows
end Go.Proofs.Ytddpdlggnbkpbaa

/-
  No cell of these rows narrows 'for every input' (looked for: loops, veiled, ifaces, maps, wideKeys, modest, calm, conditions, laid).
  DERIVED. THE GIVEN ROWS OF THIS SEAT. 6 by the template 'for every input the law returns true; each argument reads behind the call as it read before'; 0 by the template 'total and deterministic' (their statements: YteimhkhoapdfkaaTotals.lean).
  GIVEN WITH THE SEED: the statements are not yours to turn. If you find one false, say at which input.
  Laid BY PROGRAM, IN A SANDBOX (cutbox-rows.mjs): the forced cells as the released guide's own fill.sh prints them over the translation 4cd7ca864241c7f8… (all of the seat's roots in one cut). By AI agents, Wed Nov 11 2026. No macro, syntax, notation, axiom, sorry.
-/
import Derived.Test.YteimhkhoapdfkaaChecked
import GoSem.Claim
import GoSem.ClaimJoined
import GoSem.ClaimMapViews
import Derived.JoinedTies
import Derived.KernelRfl
namespace Go.Proofs.Yteimhkhoapdfkaa
/- THE CELL 'sum', in the pinned program and in every row, IS THE sha256 OF THE DUMP (.gsa) THAT YteimhkhoapdfkaaProg.lean LOADS. Nothing in Lean hashes anything: it is a label: what it is worth is what the hold of that sum in a sandbox is worth. -/
noncomputable def Try.pinned : Pinned := { name := "yteimhkhoapdfkaa", sum := "4cd7ca864241c7f8f3ece84d58ce1211617dd8fbbfd77ccd186b977243c4df7e", checked := Try.checked }
namespace Rows
def none {H : Type} : Left H := { results := [], args := [] }

/-- 'laws.FnExactBury': WHATEVER THE INPUT: true; the input reads as it did. -/
def fnExactBurySpec : ChangeSpec := { name := "fnExactBury", fn := fun _ => fun
  | [d] => { results := [.lit (.bool true)], args := [d] }
  | _ => none }
def fnExactBuryRow : OpenClaim := { program := "yteimhkhoapdfkaa", sum := "4cd7ca864241c7f8f3ece84d58ce1211617dd8fbbfd77ccd186b977243c4df7e", func := "loop.example/g00478/laws.FnExactBury", spec := "fnExactBury", apart := false }
def FnExactBurySaid : Prop := fnExactBuryRow.holds Try.pinned (OpenSpec.ofChange fnExactBurySpec)

/-- ITS FALSE NEIGHBOUR: 'it returns false'. Refute it at one input. -/
def fnExactBuryWrong : ChangeSpec := { name := "fnExactBury", fn := fun _ => fun
  | [d] => { results := [.lit (.bool false)], args := [d] }
  | _ => none }
def FnExactBuryWrongFalsely : Prop := fnExactBuryRow.holds Try.pinned (OpenSpec.ofChange fnExactBuryWrong)

/-- 'laws.FnExactSessTick': WHATEVER THE INPUT: true; the input reads as it did. -/
def fnExactSessTickSpec : ChangeSpec := { name := "fnExactSessTick", fn := fun _ => fun
  | [d1, d2] => { results := [.lit (.bool true)], args := [d1, d2] }
  | _ => none }
def fnExactSessTickRow : OpenClaim := { program := "yteimhkhoapdfkaa", sum := "4cd7ca864241c7f8f3ece84d58ce1211617dd8fbbfd77ccd186b977243c4df7e", func := "loop.example/g00478/laws.FnExactSessTick", spec := "fnExactSessTick", apart := false }
def FnExactSessTickSaid : Prop := fnExactSessTickRow.holds Try.pinned (OpenSpec.ofChange fnExactSessTickSpec)

/-- ITS FALSE NEIGHBOUR: 'it returns false'. Refute it at one input. -/
def fnExactSessTickWrong : ChangeSpec := { name := "fnExactSessTick", fn := fun _ => fun
  | [d1, d2] => { results := [.lit (.bool false)], args := [d1, d2] }
  | _ => none }
def FnExactSessTickWrongFalsely : Prop := fnExactSessTickRow.holds Try.pinned (OpenSpec.ofChange fnExactSessTickWrong)

/-- 'laws.FnExactServerOk': WHATEVER THE INPUT: true; the input reads as it did. -/
def fnExactServerOkSpec : ChangeSpec := { name := "fnExactServerOk", fn := fun _ => fun
  | [d] => { results := [.lit (.bool true)], args := [d] }
  | _ => none }
def fnExactServerOkRow : OpenClaim := { program := "yteimhkhoapdfkaa", sum := "4cd7ca864241c7f8f3ece84d58ce1211617dd8fbbfd77ccd186b977243c4df7e", func := "loop.example/g00478/laws.FnExactServerOk", spec := "fnExactServerOk", apart := false }
def FnExactServerOkSaid : Prop := fnExactServerOkRow.holds Try.pinned (OpenSpec.ofChange fnExactServerOkSpec)

/-- ITS FALSE NEIGHBOUR: 'it returns false'. Refute it at one input. -/
def fnExactServerOkWrong : ChangeSpec := { name := "fnExactServerOk", fn := fun _ => fun
  | [d] => { results := [.lit (.bool false)], args := [d] }
  | _ => none }
def FnExactServerOkWrongFalsely : Prop := fnExactServerOkRow.holds Try.pinned (OpenSpec.ofChange fnExactServerOkWrong)

/-- 'laws.FnExactHang': WHATEVER THE INPUT: true; the input reads as it did. -/
def fnExactHangSpec : ChangeSpec := { name := "fnExactHang", fn := fun _ => fun
  | [d] => { results := [.lit (.bool true)], args := [d] }
  | _ => none }
def fnExactHangRow : OpenClaim := { program := "yteimhkhoapdfkaa", sum := "4cd7ca864241c7f8f3ece84d58ce1211617dd8fbbfd77ccd186b977243c4df7e", func := "loop.example/g00478/laws.FnExactHang", spec := "fnExactHang", apart := false }
def FnExactHangSaid : Prop := fnExactHangRow.holds Try.pinned (OpenSpec.ofChange fnExactHangSpec)

/-- ITS FALSE NEIGHBOUR: 'it returns false'. Refute it at one input. -/
def fnExactHangWrong : ChangeSpec := { name := "fnExactHang", fn := fun _ => fun
  | [d] => { results := [.lit (.bool false)], args := [d] }
  | _ => none }
def FnExactHangWrongFalsely : Prop := fnExactHangRow.holds Try.pinned (OpenSpec.ofChange fnExactHangWrong)

/-- 'laws.FnExactRoam': WHATEVER THE INPUT: true; the input reads as it did. -/
def fnExactRoamSpec : ChangeSpec := { name := "fnExactRoam", fn := fun _ => fun
  | [d1, d2] => { results := [.lit (.bool true)], args := [d1, d2] }
  | _ => none }
def fnExactRoamRow : OpenClaim := { program := "yteimhkhoapdfkaa", sum := "4cd7ca864241c7f8f3ece84d58ce1211617dd8fbbfd77ccd186b977243c4df7e", func := "loop.example/g00478/laws.FnExactRoam", spec := "fnExactRoam", apart := false }
def FnExactRoamSaid : Prop := fnExactRoamRow.holds Try.pinned (OpenSpec.ofChange fnExactRoamSpec)

/-- ITS FALSE NEIGHBOUR: 'it returns false'. Refute it at one input. -/
def fnExactRoamWrong : ChangeSpec := { name := "fnExactRoam", fn := fun _ => fun
  | [d1, d2] => { results := [.lit (.bool false)], args := [d1, d2] }
  | _ => none }
def FnExactRoamWrongFalsely : Prop := fnExactRoamRow.holds Try.pinned (OpenSpec.ofChange fnExactRoamWrong)

/-- 'laws.FnExactCook': WHATEVER THE INPUT: true; the input reads as it did. -/
def fnExactCookSpec : ChangeSpec := { name := "fnExactCook", fn := fun _ => fun
  | [d1, d2, d3] => { results := [.lit (.bool true)], args := [d1, d2, d3] }
  | _ => none }
def fnExactCookRow : OpenClaim := { program := "yteimhkhoapdfkaa", sum := "4cd7ca864241c7f8f3ece84d58ce1211617dd8fbbfd77ccd186b977243c4df7e", func := "loop.example/g00478/laws.FnExactCook", spec := "fnExactCook", apart := false }
def FnExactCookSaid : Prop := fnExactCookRow.holds Try.pinned (OpenSpec.ofChange fnExactCookSpec)

/-- ITS FALSE NEIGHBOUR: 'it returns false'. Refute it at one input. -/
def fnExactCookWrong : ChangeSpec := { name := "fnExactCook", fn := fun _ => fun
  | [d1, d2, d3] => { results := [.lit (.bool false)], args := [d1, d2, d3] }
  | _ => none }
def FnExactCookWrongFalsely : Prop := fnExactCookRow.holds Try.pinned (OpenSpec.ofChange fnExactCookWrong)

/- THE SECOND FORM. 'bulk': how many values and letters a reading holds, each counted each time it is reached (what is shared counts as often as it is met; a slice's spare places count too). A statement '..UptoSaid' is the law's where the arguments, and the package variables that the reading takes, are together of bulk at most 1048576: NARROWER than '..Said'. Prove '..Said' where nothing that the law and all that it calls make is longer than what came in: it says more and counts as full. Else prove '..UptoSaid'. A law counts once. -/
mutual
def uptoBulk {H : Type} : DataW H → Nat
  | .lit (.string bytes) => bytes.length + 1
  | .lit _ => 1
  | .nil => 1
  | .ptr d => uptoBulk d + 1
  | .slice elems spare => uptoBulkAll elems + uptoBulkAll spare + 1
  | .agg parts => uptoBulkAll parts + 1
  | .iface _ d => uptoBulk d + 1
  | .map entries => uptoBulkEntries entries + 1
  | .held _ => 1
def uptoBulkAll {H : Type} : List (DataW H) → Nat
  | [] => 0
  | d :: r => uptoBulk d + uptoBulkAll r
def uptoBulkEntries {H : Type} : List (Lit × DataW H) → Nat
  | [] => 0
  | x :: r => uptoBulkEntry x + uptoBulkEntries r
def uptoBulkEntry {H : Type} : Lit × DataW H → Nat
  | (.string bytes, d) => bytes.length + uptoBulk d + 1
  | (_, d) => uptoBulk d + 1
 end
def uptoSmall : (H : Type) → List (DataW H) → Bool := fun _ ds => decide (uptoBulkAll ds ≤ 1048576)
def OpenSpec.upto (s : _root_.Go.ChangeSpec) : _root_.Go.OpenSpec := { _root_.Go.OpenSpec.ofChange s with cond := some uptoSmall }

/-- 'laws.FnExactBury', WHERE WHAT IT READS IS OF BULK AT MOST 1048576: true; the input reads as it did. -/
def fnExactBuryUptoRow : OpenClaim := { program := "yteimhkhoapdfkaa", sum := "4cd7ca864241c7f8f3ece84d58ce1211617dd8fbbfd77ccd186b977243c4df7e", func := "loop.example/g00478/laws.FnExactBury", spec := "fnExactBury", apart := false, narrowed := true }
def FnExactBuryUptoSaid : Prop := fnExactBuryUptoRow.holds Try.pinned (OpenSpec.upto fnExactBurySpec)

/-- 'laws.FnExactSessTick', WHERE WHAT IT READS IS OF BULK AT MOST 1048576: true; the input reads as it did. -/
def fnExactSessTickUptoRow : OpenClaim := { program := "yteimhkhoapdfkaa", sum := "4cd7ca864241c7f8f3ece84d58ce1211617dd8fbbfd77ccd186b977243c4df7e", func := "loop.example/g00478/laws.FnExactSessTick", spec := "fnExactSessTick", apart := false, narrowed := true }
def FnExactSessTickUptoSaid : Prop := fnExactSessTickUptoRow.holds Try.pinned (OpenSpec.upto fnExactSessTickSpec)

/-- 'laws.FnExactServerOk', WHERE WHAT IT READS IS OF BULK AT MOST 1048576: true; the input reads as it did. -/
def fnExactServerOkUptoRow : OpenClaim := { program := "yteimhkhoapdfkaa", sum := "4cd7ca864241c7f8f3ece84d58ce1211617dd8fbbfd77ccd186b977243c4df7e", func := "loop.example/g00478/laws.FnExactServerOk", spec := "fnExactServerOk", apart := false, narrowed := true }
def FnExactServerOkUptoSaid : Prop := fnExactServerOkUptoRow.holds Try.pinned (OpenSpec.upto fnExactServerOkSpec)

/-- 'laws.FnExactHang', WHERE WHAT IT READS IS OF BULK AT MOST 1048576: true; the input reads as it did. -/
def fnExactHangUptoRow : OpenClaim := { program := "yteimhkhoapdfkaa", sum := "4cd7ca864241c7f8f3ece84d58ce1211617dd8fbbfd77ccd186b977243c4df7e", func := "loop.example/g00478/laws.FnExactHang", spec := "fnExactHang", apart := false, narrowed := true }
def FnExactHangUptoSaid : Prop := fnExactHangUptoRow.holds Try.pinned (OpenSpec.upto fnExactHangSpec)

/-- 'laws.FnExactRoam', WHERE WHAT IT READS IS OF BULK AT MOST 1048576: true; the input reads as it did. -/
def fnExactRoamUptoRow : OpenClaim := { program := "yteimhkhoapdfkaa", sum := "4cd7ca864241c7f8f3ece84d58ce1211617dd8fbbfd77ccd186b977243c4df7e", func := "loop.example/g00478/laws.FnExactRoam", spec := "fnExactRoam", apart := false, narrowed := true }
def FnExactRoamUptoSaid : Prop := fnExactRoamUptoRow.holds Try.pinned (OpenSpec.upto fnExactRoamSpec)

/-- 'laws.FnExactCook', WHERE WHAT IT READS IS OF BULK AT MOST 1048576: true; the input reads as it did. -/
def fnExactCookUptoRow : OpenClaim := { program := "yteimhkhoapdfkaa", sum := "4cd7ca864241c7f8f3ece84d58ce1211617dd8fbbfd77ccd186b977243c4df7e", func := "loop.example/g00478/laws.FnExactCook", spec := "fnExactCook", apart := false, narrowed := true }
def FnExactCookUptoSaid : Prop := fnExactCookUptoRow.holds Try.pinned (OpenSpec.upto fnExactCookSpec)

end Rows
end Go.Proofs.Yteimhkhoapdfkaa

/-
  No cell of these rows narrows 'for every input' (looked for: loops, veiled, ifaces, maps, wideKeys, modest, calm, conditions, laid).
  DERIVED. THE GIVEN ROWS OF THIS SEAT. 11 by the template 'for every input the law returns true; each argument reads behind the call as it read before'; 0 by the template 'total and deterministic' (their statements: YthcbhopanefaiaaTotals.lean).
  GIVEN WITH THE SEED: the statements are not yours to turn. If you find one false, say at which input.
  Laid BY PROGRAM, IN A SANDBOX (cutbox-rows.mjs): the forced cells as the released guide's own fill.sh prints them over the translation 555d11065b24aa30… (all of the seat's roots in one cut). By AI agents, Wed Nov 11 2026. No macro, syntax, notation, axiom, sorry.
-/
import Derived.Test.YthcbhopanefaiaaChecked
import GoSem.Claim
import GoSem.ClaimJoined
import GoSem.ClaimMapViews
import Derived.JoinedTies
import Derived.KernelRfl
namespace Go.Proofs.Ythcbhopanefaiaa
/- THE CELL 'sum', in the pinned program and in every row, IS THE sha256 OF THE DUMP (.gsa) THAT YthcbhopanefaiaaProg.lean LOADS. Nothing in Lean hashes anything: it is a label: what it is worth is what the hold of that sum in a sandbox is worth. -/
noncomputable def Try.pinned : Pinned := { name := "ythcbhopanefaiaa", sum := "555d11065b24aa30f3345029d40e923b547af3ab6bd601eece264475088abfc2", checked := Try.checked }
namespace Rows
def none {H : Type} : Left H := { results := [], args := [] }

/-- 'laws.FnExactBetween': WHATEVER THE INPUT: true; the input reads as it did. -/
def fnExactBetweenSpec : ChangeSpec := { name := "fnExactBetween", fn := fun _ => fun
  | [d1, d2, d3] => { results := [.lit (.bool true)], args := [d1, d2, d3] }
  | _ => none }
def fnExactBetweenRow : OpenClaim := { program := "ythcbhopanefaiaa", sum := "555d11065b24aa30f3345029d40e923b547af3ab6bd601eece264475088abfc2", func := "loop.example/g00478/laws.FnExactBetween", spec := "fnExactBetween", apart := false }
def FnExactBetweenSaid : Prop := fnExactBetweenRow.holds Try.pinned (OpenSpec.ofChange fnExactBetweenSpec)

/-- ITS FALSE NEIGHBOUR: 'it returns false'. Refute it at one input. -/
def fnExactBetweenWrong : ChangeSpec := { name := "fnExactBetween", fn := fun _ => fun
  | [d1, d2, d3] => { results := [.lit (.bool false)], args := [d1, d2, d3] }
  | _ => none }
def FnExactBetweenWrongFalsely : Prop := fnExactBetweenRow.holds Try.pinned (OpenSpec.ofChange fnExactBetweenWrong)

/-- 'laws.FnExactSee': WHATEVER THE INPUT: true; the input reads as it did. -/
def fnExactSeeSpec : ChangeSpec := { name := "fnExactSee", fn := fun _ => fun
  | [d1, d2] => { results := [.lit (.bool true)], args := [d1, d2] }
  | _ => none }
def fnExactSeeRow : OpenClaim := { program := "ythcbhopanefaiaa", sum := "555d11065b24aa30f3345029d40e923b547af3ab6bd601eece264475088abfc2", func := "loop.example/g00478/laws.FnExactSee", spec := "fnExactSee", apart := false }
def FnExactSeeSaid : Prop := fnExactSeeRow.holds Try.pinned (OpenSpec.ofChange fnExactSeeSpec)

/-- ITS FALSE NEIGHBOUR: 'it returns false'. Refute it at one input. -/
def fnExactSeeWrong : ChangeSpec := { name := "fnExactSee", fn := fun _ => fun
  | [d1, d2] => { results := [.lit (.bool false)], args := [d1, d2] }
  | _ => none }
def FnExactSeeWrongFalsely : Prop := fnExactSeeRow.holds Try.pinned (OpenSpec.ofChange fnExactSeeWrong)

/-- 'laws.FnExactWireFrom': WHATEVER THE INPUT: true; the input reads as it did. -/
def fnExactWireFromSpec : ChangeSpec := { name := "fnExactWireFrom", fn := fun _ => fun
  | [d1, d2, d3] => { results := [.lit (.bool true)], args := [d1, d2, d3] }
  | _ => none }
def fnExactWireFromRow : OpenClaim := { program := "ythcbhopanefaiaa", sum := "555d11065b24aa30f3345029d40e923b547af3ab6bd601eece264475088abfc2", func := "loop.example/g00478/laws.FnExactWireFrom", spec := "fnExactWireFrom", apart := false }
def FnExactWireFromSaid : Prop := fnExactWireFromRow.holds Try.pinned (OpenSpec.ofChange fnExactWireFromSpec)

/-- ITS FALSE NEIGHBOUR: 'it returns false'. Refute it at one input. -/
def fnExactWireFromWrong : ChangeSpec := { name := "fnExactWireFrom", fn := fun _ => fun
  | [d1, d2, d3] => { results := [.lit (.bool false)], args := [d1, d2, d3] }
  | _ => none }
def FnExactWireFromWrongFalsely : Prop := fnExactWireFromRow.holds Try.pinned (OpenSpec.ofChange fnExactWireFromWrong)

/-- 'laws.FnExactAtOf': WHATEVER THE INPUT: true; the input reads as it did. -/
def fnExactAtOfSpec : ChangeSpec := { name := "fnExactAtOf", fn := fun _ => fun
  | [d1, d2] => { results := [.lit (.bool true)], args := [d1, d2] }
  | _ => none }
def fnExactAtOfRow : OpenClaim := { program := "ythcbhopanefaiaa", sum := "555d11065b24aa30f3345029d40e923b547af3ab6bd601eece264475088abfc2", func := "loop.example/g00478/laws.FnExactAtOf", spec := "fnExactAtOf", apart := false }
def FnExactAtOfSaid : Prop := fnExactAtOfRow.holds Try.pinned (OpenSpec.ofChange fnExactAtOfSpec)

/-- ITS FALSE NEIGHBOUR: 'it returns false'. Refute it at one input. -/
def fnExactAtOfWrong : ChangeSpec := { name := "fnExactAtOf", fn := fun _ => fun
  | [d1, d2] => { results := [.lit (.bool false)], args := [d1, d2] }
  | _ => none }
def FnExactAtOfWrongFalsely : Prop := fnExactAtOfRow.holds Try.pinned (OpenSpec.ofChange fnExactAtOfWrong)

/-- 'laws.FnExactLive': WHATEVER THE INPUT: true; the input reads as it did. -/
def fnExactLiveSpec : ChangeSpec := { name := "fnExactLive", fn := fun _ => fun
  | [d] => { results := [.lit (.bool true)], args := [d] }
  | _ => none }
def fnExactLiveRow : OpenClaim := { program := "ythcbhopanefaiaa", sum := "555d11065b24aa30f3345029d40e923b547af3ab6bd601eece264475088abfc2", func := "loop.example/g00478/laws.FnExactLive", spec := "fnExactLive", apart := false }
def FnExactLiveSaid : Prop := fnExactLiveRow.holds Try.pinned (OpenSpec.ofChange fnExactLiveSpec)

/-- ITS FALSE NEIGHBOUR: 'it returns false'. Refute it at one input. -/
def fnExactLiveWrong : ChangeSpec := { name := "fnExactLive", fn := fun _ => fun
  | [d] => { results := [.lit (.bool false)], args := [d] }
  | _ => none }
def FnExactLiveWrongFalsely : Prop := fnExactLiveRow.holds Try.pinned (OpenSpec.ofChange fnExactLiveWrong)

/-- 'laws.FnExactFindSn': WHATEVER THE INPUT: true; the input reads as it did. -/
def fnExactFindSnSpec : ChangeSpec := { name := "fnExactFindSn", fn := fun _ => fun
  | [d1, d2] => { results := [.lit (.bool true)], args := [d1, d2] }
  | _ => none }
def fnExactFindSnRow : OpenClaim := { program := "ythcbhopanefaiaa", sum := "555d11065b24aa30f3345029d40e923b547af3ab6bd601eece264475088abfc2", func := "loop.example/g00478/laws.FnExactFindSn", spec := "fnExactFindSn", apart := false }
def FnExactFindSnSaid : Prop := fnExactFindSnRow.holds Try.pinned (OpenSpec.ofChange fnExactFindSnSpec)

/-- ITS FALSE NEIGHBOUR: 'it returns false'. Refute it at one input. -/
def fnExactFindSnWrong : ChangeSpec := { name := "fnExactFindSn", fn := fun _ => fun
  | [d1, d2] => { results := [.lit (.bool false)], args := [d1, d2] }
  | _ => none }
def FnExactFindSnWrongFalsely : Prop := fnExactFindSnRow.holds Try.pinned (OpenSpec.ofChange fnExactFindSnWrong)

/-- 'laws.FnExactTabNew': WHATEVER THE INPUT: true; the input reads as it did. -/
def fnExactTabNewSpec : ChangeSpec := { name := "fnExactTabNew", fn := fun _ => fun
  | [d] => { results := [.lit (.bool true)], args := [d] }
  | _ => none }
def fnExactTabNewRow : OpenClaim := { program := "ythcbhopanefaiaa", sum := "555d11065b24aa30f3345029d40e923b547af3ab6bd601eece264475088abfc2", func := "loop.example/g00478/laws.FnExactTabNew", spec := "fnExactTabNew", apart := false }
def FnExactTabNewSaid : Prop := fnExactTabNewRow.holds Try.pinned (OpenSpec.ofChange fnExactTabNewSpec)

/-- ITS FALSE NEIGHBOUR: 'it returns false'. Refute it at one input. -/
def fnExactTabNewWrong : ChangeSpec := { name := "fnExactTabNew", fn := fun _ => fun
  | [d] => { results := [.lit (.bool false)], args := [d] }
  | _ => none }
def FnExactTabNewWrongFalsely : Prop := fnExactTabNewRow.holds Try.pinned (OpenSpec.ofChange fnExactTabNewWrong)

/-- 'laws.FnExactSessOk': WHATEVER THE INPUT: true; the input reads as it did. -/
def fnExactSessOkSpec : ChangeSpec := { name := "fnExactSessOk", fn := fun _ => fun
  | [d] => { results := [.lit (.bool true)], args := [d] }
  | _ => none }
def fnExactSessOkRow : OpenClaim := { program := "ythcbhopanefaiaa", sum := "555d11065b24aa30f3345029d40e923b547af3ab6bd601eece264475088abfc2", func := "loop.example/g00478/laws.FnExactSessOk", spec := "fnExactSessOk", apart := false }
def FnExactSessOkSaid : Prop := fnExactSessOkRow.holds Try.pinned (OpenSpec.ofChange fnExactSessOkSpec)

/-- ITS FALSE NEIGHBOUR: 'it returns false'. Refute it at one input. -/
def fnExactSessOkWrong : ChangeSpec := { name := "fnExactSessOk", fn := fun _ => fun
  | [d] => { results := [.lit (.bool false)], args := [d] }
  | _ => none }
def FnExactSessOkWrongFalsely : Prop := fnExactSessOkRow.holds Try.pinned (OpenSpec.ofChange fnExactSessOkWrong)

/-- 'laws.FnExactTabOk': WHATEVER THE INPUT: true; the input reads as it did. -/
def fnExactTabOkSpec : ChangeSpec := { name := "fnExactTabOk", fn := fun _ => fun
  | [d] => { results := [.lit (.bool true)], args := [d] }
  | _ => none }
def fnExactTabOkRow : OpenClaim := { program := "ythcbhopanefaiaa", sum := "555d11065b24aa30f3345029d40e923b547af3ab6bd601eece264475088abfc2", func := "loop.example/g00478/laws.FnExactTabOk", spec := "fnExactTabOk", apart := false }
def FnExactTabOkSaid : Prop := fnExactTabOkRow.holds Try.pinned (OpenSpec.ofChange fnExactTabOkSpec)

/-- ITS FALSE NEIGHBOUR: 'it returns false'. Refute it at one input. -/
def fnExactTabOkWrong : ChangeSpec := { name := "fnExactTabOk", fn := fun _ => fun
  | [d] => { results := [.lit (.bool false)], args := [d] }
  | _ => none }
def FnExactTabOkWrongFalsely : Prop := fnExactTabOkRow.holds Try.pinned (OpenSpec.ofChange fnExactTabOkWrong)

/-- 'laws.FnExactMayAsk': WHATEVER THE INPUT: true; the input reads as it did. -/
def fnExactMayAskSpec : ChangeSpec := { name := "fnExactMayAsk", fn := fun _ => fun
  | [d1, d2, d3] => { results := [.lit (.bool true)], args := [d1, d2, d3] }
  | _ => none }
def fnExactMayAskRow : OpenClaim := { program := "ythcbhopanefaiaa", sum := "555d11065b24aa30f3345029d40e923b547af3ab6bd601eece264475088abfc2", func := "loop.example/g00478/laws.FnExactMayAsk", spec := "fnExactMayAsk", apart := false }
def FnExactMayAskSaid : Prop := fnExactMayAskRow.holds Try.pinned (OpenSpec.ofChange fnExactMayAskSpec)

/-- ITS FALSE NEIGHBOUR: 'it returns false'. Refute it at one input. -/
def fnExactMayAskWrong : ChangeSpec := { name := "fnExactMayAsk", fn := fun _ => fun
  | [d1, d2, d3] => { results := [.lit (.bool false)], args := [d1, d2, d3] }
  | _ => none }
def FnExactMayAskWrongFalsely : Prop := fnExactMayAskRow.holds Try.pinned (OpenSpec.ofChange fnExactMayAskWrong)

/-- 'laws.FnExactForge': WHATEVER THE INPUT: true; the input reads as it did. -/
def fnExactForgeSpec : ChangeSpec := { name := "fnExactForge", fn := fun _ => fun
  | [d1, d2, d3, d4, d5, d6, d7, d8] => { results := [.lit (.bool true)], args := [d1, d2, d3, d4, d5, d6, d7, d8] }
  | _ => none }
def fnExactForgeRow : OpenClaim := { program := "ythcbhopanefaiaa", sum := "555d11065b24aa30f3345029d40e923b547af3ab6bd601eece264475088abfc2", func := "loop.example/g00478/laws.FnExactForge", spec := "fnExactForge", apart := false }
def FnExactForgeSaid : Prop := fnExactForgeRow.holds Try.pinned (OpenSpec.ofChange fnExactForgeSpec)

/-- ITS FALSE NEIGHBOUR: 'it returns false'. Refute it at one input. -/
def fnExactForgeWrong : ChangeSpec := { name := "fnExactForge", fn := fun _ => fun
  | [d1, d2, d3, d4, d5, d6, d7, d8] => { results := [.lit (.bool false)], args := [d1, d2, d3, d4, d5, d6, d7, d8] }
  | _ => none }
def FnExactForgeWrongFalsely : Prop := fnExactForgeRow.holds Try.pinned (OpenSpec.ofChange fnExactForgeWrong)

/- THE SECOND FORM. 'bulk': how many values and letters a reading holds, each counted each time it is reached (what is shared counts as often as it is met; a slice's spare places count too). A statement '..UptoSaid' is the law's where the arguments, and the package variables that the reading takes, are together of bulk at most 1048576: NARROWER than '..Said'. Prove '..Said' where nothing that the law and all that it calls make is longer than what came in: it says more and counts as full. Else prove '..UptoSaid'. A law counts once. -/
mutual
def uptoBulk {H : Type} : DataW H → Nat
  | .lit (.string bytes) => bytes.length + 1
  | .lit _ => 1
  | .nil => 1
  | .ptr d => uptoBulk d + 1
  | .slice elems spare => uptoBulkAll elems + uptoBulkAll spare + 1
  | .agg parts => uptoBulkAll parts + 1
  | .iface _ d => uptoBulk d + 1
  | .map entries => uptoBulkEntries entries + 1
  | .held _ => 1
def uptoBulkAll {H : Type} : List (DataW H) → Nat
  | [] => 0
  | d :: r => uptoBulk d + uptoBulkAll r
def uptoBulkEntries {H : Type} : List (Lit × DataW H) → Nat
  | [] => 0
  | x :: r => uptoBulkEntry x + uptoBulkEntries r
def uptoBulkEntry {H : Type} : Lit × DataW H → Nat
  | (.string bytes, d) => bytes.length + uptoBulk d + 1
  | (_, d) => uptoBulk d + 1
 end
def uptoSmall : (H : Type) → List (DataW H) → Bool := fun _ ds => decide (uptoBulkAll ds ≤ 1048576)
def OpenSpec.upto (s : _root_.Go.ChangeSpec) : _root_.Go.OpenSpec := { _root_.Go.OpenSpec.ofChange s with cond := some uptoSmall }

/-- 'laws.FnExactBetween', WHERE WHAT IT READS IS OF BULK AT MOST 1048576: true; the input reads as it did. -/
def fnExactBetweenUptoRow : OpenClaim := { program := "ythcbhopanefaiaa", sum := "555d11065b24aa30f3345029d40e923b547af3ab6bd601eece264475088abfc2", func := "loop.example/g00478/laws.FnExactBetween", spec := "fnExactBetween", apart := false, narrowed := true }
def FnExactBetweenUptoSaid : Prop := fnExactBetweenUptoRow.holds Try.pinned (OpenSpec.upto fnExactBetweenSpec)

/-- 'laws.FnExactSee', WHERE WHAT IT READS IS OF BULK AT MOST 1048576: true; the input reads as it did. -/
def fnExactSeeUptoRow : OpenClaim := { program := "ythcbhopanefaiaa", sum := "555d11065b24aa30f3345029d40e923b547af3ab6bd601eece264475088abfc2", func := "loop.example/g00478/laws.FnExactSee", spec := "fnExactSee", apart := false, narrowed := true }
def FnExactSeeUptoSaid : Prop := fnExactSeeUptoRow.holds Try.pinned (OpenSpec.upto fnExactSeeSpec)

/-- 'laws.FnExactWireFrom', WHERE WHAT IT READS IS OF BULK AT MOST 1048576: true; the input reads as it did. -/
def fnExactWireFromUptoRow : OpenClaim := { program := "ythcbhopanefaiaa", sum := "555d11065b24aa30f3345029d40e923b547af3ab6bd601eece264475088abfc2", func := "loop.example/g00478/laws.FnExactWireFrom", spec := "fnExactWireFrom", apart := false, narrowed := true }
def FnExactWireFromUptoSaid : Prop := fnExactWireFromUptoRow.holds Try.pinned (OpenSpec.upto fnExactWireFromSpec)

/-- 'laws.FnExactAtOf', WHERE WHAT IT READS IS OF BULK AT MOST 1048576: true; the input reads as it did. -/
def fnExactAtOfUptoRow : OpenClaim := { program := "ythcbhopanefaiaa", sum := "555d11065b24aa30f3345029d40e923b547af3ab6bd601eece264475088abfc2", func := "loop.example/g00478/laws.FnExactAtOf", spec := "fnExactAtOf", apart := false, narrowed := true }
def FnExactAtOfUptoSaid : Prop := fnExactAtOfUptoRow.holds Try.pinned (OpenSpec.upto fnExactAtOfSpec)

/-- 'laws.FnExactLive', WHERE WHAT IT READS IS OF BULK AT MOST 1048576: true; the input reads as it did. -/
def fnExactLiveUptoRow : OpenClaim := { program := "ythcbhopanefaiaa", sum := "555d11065b24aa30f3345029d40e923b547af3ab6bd601eece264475088abfc2", func := "loop.example/g00478/laws.FnExactLive", spec := "fnExactLive", apart := false, narrowed := true }
def FnExactLiveUptoSaid : Prop := fnExactLiveUptoRow.holds Try.pinned (OpenSpec.upto fnExactLiveSpec)

/-- 'laws.FnExactFindSn', WHERE WHAT IT READS IS OF BULK AT MOST 1048576: true; the input reads as it did. -/
def fnExactFindSnUptoRow : OpenClaim := { program := "ythcbhopanefaiaa", sum := "555d11065b24aa30f3345029d40e923b547af3ab6bd601eece264475088abfc2", func := "loop.example/g00478/laws.FnExactFindSn", spec := "fnExactFindSn", apart := false, narrowed := true }
def FnExactFindSnUptoSaid : Prop := fnExactFindSnUptoRow.holds Try.pinned (OpenSpec.upto fnExactFindSnSpec)

/-- 'laws.FnExactTabNew', WHERE WHAT IT READS IS OF BULK AT MOST 1048576: true; the input reads as it did. -/
def fnExactTabNewUptoRow : OpenClaim := { program := "ythcbhopanefaiaa", sum := "555d11065b24aa30f3345029d40e923b547af3ab6bd601eece264475088abfc2", func := "loop.example/g00478/laws.FnExactTabNew", spec := "fnExactTabNew", apart := false, narrowed := true }
def FnExactTabNewUptoSaid : Prop := fnExactTabNewUptoRow.holds Try.pinned (OpenSpec.upto fnExactTabNewSpec)

/-- 'laws.FnExactSessOk', WHERE WHAT IT READS IS OF BULK AT MOST 1048576: true; the input reads as it did. -/
def fnExactSessOkUptoRow : OpenClaim := { program := "ythcbhopanefaiaa", sum := "555d11065b24aa30f3345029d40e923b547af3ab6bd601eece264475088abfc2", func := "loop.example/g00478/laws.FnExactSessOk", spec := "fnExactSessOk", apart := false, narrowed := true }
def FnExactSessOkUptoSaid : Prop := fnExactSessOkUptoRow.holds Try.pinned (OpenSpec.upto fnExactSessOkSpec)

/-- 'laws.FnExactTabOk', WHERE WHAT IT READS IS OF BULK AT MOST 1048576: true; the input reads as it did. -/
def fnExactTabOkUptoRow : OpenClaim := { program := "ythcbhopanefaiaa", sum := "555d11065b24aa30f3345029d40e923b547af3ab6bd601eece264475088abfc2", func := "loop.example/g00478/laws.FnExactTabOk", spec := "fnExactTabOk", apart := false, narrowed := true }
def FnExactTabOkUptoSaid : Prop := fnExactTabOkUptoRow.holds Try.pinned (OpenSpec.upto fnExactTabOkSpec)

/-- 'laws.FnExactMayAsk', WHERE WHAT IT READS IS OF BULK AT MOST 1048576: true; the input reads as it did. -/
def fnExactMayAskUptoRow : OpenClaim := { program := "ythcbhopanefaiaa", sum := "555d11065b24aa30f3345029d40e923b547af3ab6bd601eece264475088abfc2", func := "loop.example/g00478/laws.FnExactMayAsk", spec := "fnExactMayAsk", apart := false, narrowed := true }
def FnExactMayAskUptoSaid : Prop := fnExactMayAskUptoRow.holds Try.pinned (OpenSpec.upto fnExactMayAskSpec)

/-- 'laws.FnExactForge', WHERE WHAT IT READS IS OF BULK AT MOST 1048576: true; the input reads as it did. -/
def fnExactForgeUptoRow : OpenClaim := { program := "ythcbhopanefaiaa", sum := "555d11065b24aa30f3345029d40e923b547af3ab6bd601eece264475088abfc2", func := "loop.example/g00478/laws.FnExactForge", spec := "fnExactForge", apart := false, narrowed := true }
def FnExactForgeUptoSaid : Prop := fnExactForgeUptoRow.holds Try.pinned (OpenSpec.upto fnExactForgeSpec)

end Rows
end Go.Proofs.Ythcbhopanefaiaa

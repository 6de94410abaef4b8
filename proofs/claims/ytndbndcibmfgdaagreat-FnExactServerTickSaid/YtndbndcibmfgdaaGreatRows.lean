/-
  No cell of these rows narrows 'for every input' (looked for: loops, veiled, ifaces, maps, wideKeys, modest, calm, conditions, laid).
  DERIVED. THE GIVEN ROWS OF THIS SEAT. 4 by the template 'for every input the law returns true; each argument reads behind the call as it read before'; 0 by the template 'total and deterministic' (their statements: YtndbndcibmfgdaaGreatTotals.lean).
  GIVEN WITH THE SEED: the statements are not yours to turn. If you find one false, say at which input.
  Laid BY PROGRAM, IN A SANDBOX (cutbox-rows.mjs): the forced cells as the released guide's own fill.sh prints them over the translation 5c778011f5e503fe… (all of the seat's roots in one cut). By AI agents, Wed Nov 11 2026. No macro, syntax, notation, axiom, sorry.
-/
import Derived.Test.YtndbndcibmfgdaaGreatChecked
import GoSem.Claim
import GoSem.ClaimJoined
import GoSem.ClaimMapViews
import Derived.JoinedTies
import Derived.KernelRfl
namespace Go.Proofs.YtndbndcibmfgdaaGreat
/- THE CELL 'sum', in the pinned program and in every row, IS THE sha256 OF THE DUMP (.gsa) THAT YtndbndcibmfgdaaGreatProg.lean LOADS. Nothing in Lean hashes anything: it is a label: what it is worth is what the hold of that sum in a sandbox is worth. -/
noncomputable def Tryz.pinned : Pinned := { name := "ytndbndcibmfgdaagreat", sum := "5c778011f5e503fe9a78e11d541ce1bef402be85adb3c7b9400c83930c7be502", checked := Tryz.checked }
namespace Rows
def none {H : Type} : Left H := { results := [], args := [] }

/-- 'laws.FnExactTabTick': WHATEVER THE INPUT: true; the input reads as it did. -/
def fnExactTabTickSpec : ChangeSpec := { name := "fnExactTabTick", fn := fun _ => fun
  | [d1, d2] => { results := [.lit (.bool true)], args := [d1, d2] }
  | _ => none }
def fnExactTabTickRow : OpenClaim := { program := "ytndbndcibmfgdaagreat", sum := "5c778011f5e503fe9a78e11d541ce1bef402be85adb3c7b9400c83930c7be502", func := "loop.example/g00478/laws.FnExactTabTick", spec := "fnExactTabTick", apart := false }
def FnExactTabTickSaid : Prop := fnExactTabTickRow.holds Tryz.pinned (OpenSpec.ofChange fnExactTabTickSpec)

/-- ITS FALSE NEIGHBOUR: 'it returns false'. Refute it at one input. -/
def fnExactTabTickWrong : ChangeSpec := { name := "fnExactTabTick", fn := fun _ => fun
  | [d1, d2] => { results := [.lit (.bool false)], args := [d1, d2] }
  | _ => none }
def FnExactTabTickWrongFalsely : Prop := fnExactTabTickRow.holds Tryz.pinned (OpenSpec.ofChange fnExactTabTickWrong)

/-- 'laws.FnExactServerTick': WHATEVER THE INPUT: true; the input reads as it did. -/
def fnExactServerTickSpec : ChangeSpec := { name := "fnExactServerTick", fn := fun _ => fun
  | [d1, d2] => { results := [.lit (.bool true)], args := [d1, d2] }
  | _ => none }
def fnExactServerTickRow : OpenClaim := { program := "ytndbndcibmfgdaagreat", sum := "5c778011f5e503fe9a78e11d541ce1bef402be85adb3c7b9400c83930c7be502", func := "loop.example/g00478/laws.FnExactServerTick", spec := "fnExactServerTick", apart := false }
def FnExactServerTickSaid : Prop := fnExactServerTickRow.holds Tryz.pinned (OpenSpec.ofChange fnExactServerTickSpec)

/-- ITS FALSE NEIGHBOUR: 'it returns false'. Refute it at one input. -/
def fnExactServerTickWrong : ChangeSpec := { name := "fnExactServerTick", fn := fun _ => fun
  | [d1, d2] => { results := [.lit (.bool false)], args := [d1, d2] }
  | _ => none }
def FnExactServerTickWrongFalsely : Prop := fnExactServerTickRow.holds Tryz.pinned (OpenSpec.ofChange fnExactServerTickWrong)

/-- 'laws.FnExactSessHear': WHATEVER THE INPUT: true; the input reads as it did. -/
def fnExactSessHearSpec : ChangeSpec := { name := "fnExactSessHear", fn := fun _ => fun
  | [d1, d2, d3, d4, d5] => { results := [.lit (.bool true)], args := [d1, d2, d3, d4, d5] }
  | _ => none }
def fnExactSessHearRow : OpenClaim := { program := "ytndbndcibmfgdaagreat", sum := "5c778011f5e503fe9a78e11d541ce1bef402be85adb3c7b9400c83930c7be502", func := "loop.example/g00478/laws.FnExactSessHear", spec := "fnExactSessHear", apart := false }
def FnExactSessHearSaid : Prop := fnExactSessHearRow.holds Tryz.pinned (OpenSpec.ofChange fnExactSessHearSpec)

/-- ITS FALSE NEIGHBOUR: 'it returns false'. Refute it at one input. -/
def fnExactSessHearWrong : ChangeSpec := { name := "fnExactSessHear", fn := fun _ => fun
  | [d1, d2, d3, d4, d5] => { results := [.lit (.bool false)], args := [d1, d2, d3, d4, d5] }
  | _ => none }
def FnExactSessHearWrongFalsely : Prop := fnExactSessHearRow.holds Tryz.pinned (OpenSpec.ofChange fnExactSessHearWrong)

/-- 'laws.FnExactServerHear': WHATEVER THE INPUT: true; the input reads as it did. -/
def fnExactServerHearSpec : ChangeSpec := { name := "fnExactServerHear", fn := fun _ => fun
  | [d1, d2, d3, d4] => { results := [.lit (.bool true)], args := [d1, d2, d3, d4] }
  | _ => none }
def fnExactServerHearRow : OpenClaim := { program := "ytndbndcibmfgdaagreat", sum := "5c778011f5e503fe9a78e11d541ce1bef402be85adb3c7b9400c83930c7be502", func := "loop.example/g00478/laws.FnExactServerHear", spec := "fnExactServerHear", apart := false }
def FnExactServerHearSaid : Prop := fnExactServerHearRow.holds Tryz.pinned (OpenSpec.ofChange fnExactServerHearSpec)

/-- ITS FALSE NEIGHBOUR: 'it returns false'. Refute it at one input. -/
def fnExactServerHearWrong : ChangeSpec := { name := "fnExactServerHear", fn := fun _ => fun
  | [d1, d2, d3, d4] => { results := [.lit (.bool false)], args := [d1, d2, d3, d4] }
  | _ => none }
def FnExactServerHearWrongFalsely : Prop := fnExactServerHearRow.holds Tryz.pinned (OpenSpec.ofChange fnExactServerHearWrong)

/- THE SECOND FORM. 'bulk': how many values and letters a reading holds, each counted each time it is reached (what is shared counts as often as it is met; a slice's spare places count too). A statement '..UptoSaid' is the law's where the arguments, and the package variables that the reading takes, are together of bulk at most 1048576: NARROWER than '..Said'. Prove '..Said' where nothing that the law and all that it calls make is longer than what came in: it says more and counts as full. Else prove '..UptoSaid'. A law counts once. -/
mutual
def uptoBulk {H : Type} : DataW H → Nat
  | .lit (.string bytes) => bytes.length + 1
  | .lit _ => 1
  | .nil => 1
  | .ptr d => uptoBulk d + 1
  | .slice elems spare => uptoBulkAll elems + uptoBulkAll spare + 1
  | .agg parts => uptoBulkAll parts + 1
  | .iface _ d => uptoBulk d + 1
  | .map entries => uptoBulkEntries entries + 1
  | .held _ => 1
def uptoBulkAll {H : Type} : List (DataW H) → Nat
  | [] => 0
  | d :: r => uptoBulk d + uptoBulkAll r
def uptoBulkEntries {H : Type} : List (Lit × DataW H) → Nat
  | [] => 0
  | x :: r => uptoBulkEntry x + uptoBulkEntries r
def uptoBulkEntry {H : Type} : Lit × DataW H → Nat
  | (.string bytes, d) => bytes.length + uptoBulk d + 1
  | (_, d) => uptoBulk d + 1
 end
def uptoSmall : (H : Type) → List (DataW H) → Bool := fun _ ds => decide (uptoBulkAll ds ≤ 1048576)
def OpenSpec.upto (s : _root_.Go.ChangeSpec) : _root_.Go.OpenSpec := { _root_.Go.OpenSpec.ofChange s with cond := some uptoSmall }

/-- 'laws.FnExactTabTick', WHERE WHAT IT READS IS OF BULK AT MOST 1048576: true; the input reads as it did. -/
def fnExactTabTickUptoRow : OpenClaim := { program := "ytndbndcibmfgdaagreat", sum := "5c778011f5e503fe9a78e11d541ce1bef402be85adb3c7b9400c83930c7be502", func := "loop.example/g00478/laws.FnExactTabTick", spec := "fnExactTabTick", apart := false, narrowed := true }
def FnExactTabTickUptoSaid : Prop := fnExactTabTickUptoRow.holds Tryz.pinned (OpenSpec.upto fnExactTabTickSpec)

/-- 'laws.FnExactServerTick', WHERE WHAT IT READS IS OF BULK AT MOST 1048576: true; the input reads as it did. -/
def fnExactServerTickUptoRow : OpenClaim := { program := "ytndbndcibmfgdaagreat", sum := "5c778011f5e503fe9a78e11d541ce1bef402be85adb3c7b9400c83930c7be502", func := "loop.example/g00478/laws.FnExactServerTick", spec := "fnExactServerTick", apart := false, narrowed := true }
def FnExactServerTickUptoSaid : Prop := fnExactServerTickUptoRow.holds Tryz.pinned (OpenSpec.upto fnExactServerTickSpec)

/-- 'laws.FnExactSessHear', WHERE WHAT IT READS IS OF BULK AT MOST 1048576: true; the input reads as it did. -/
def fnExactSessHearUptoRow : OpenClaim := { program := "ytndbndcibmfgdaagreat", sum := "5c778011f5e503fe9a78e11d541ce1bef402be85adb3c7b9400c83930c7be502", func := "loop.example/g00478/laws.FnExactSessHear", spec := "fnExactSessHear", apart := false, narrowed := true }
def FnExactSessHearUptoSaid : Prop := fnExactSessHearUptoRow.holds Tryz.pinned (OpenSpec.upto fnExactSessHearSpec)

/-- 'laws.FnExactServerHear', WHERE WHAT IT READS IS OF BULK AT MOST 1048576: true; the input reads as it did. -/
def fnExactServerHearUptoRow : OpenClaim := { program := "ytndbndcibmfgdaagreat", sum := "5c778011f5e503fe9a78e11d541ce1bef402be85adb3c7b9400c83930c7be502", func := "loop.example/g00478/laws.FnExactServerHear", spec := "fnExactServerHear", apart := false, narrowed := true }
def FnExactServerHearUptoSaid : Prop := fnExactServerHearUptoRow.holds Tryz.pinned (OpenSpec.upto fnExactServerHearSpec)

end Rows
end Go.Proofs.YtndbndcibmfgdaaGreat

/-
  No cell of these rows narrows 'for every input' (looked for: loops, veiled, ifaces, maps, wideKeys, modest, calm, conditions, laid).
  DERIVED. THE GIVEN ROWS OF THIS SEAT. 7 by the template 'for every input the law returns true; each argument reads behind the call as it read before'; 0 by the template 'total and deterministic' (their statements: YtggdikabbngbaaaGreatTotals.lean).
  GIVEN WITH THE SEED: the statements are not yours to turn. If you find one false, say at which input.
  Laid BY PROGRAM, IN A SANDBOX (cutbox-rows.mjs): the forced cells as the released guide's own fill.sh prints them over the translation 9600e5b8bc5b291b… (all of the seat's roots in one cut). By AI agents, Wed Nov 11 2026. No macro, syntax, notation, axiom, sorry.
-/
import Derived.Test.YtggdikabbngbaaaGreatChecked
import GoSem.Claim
import GoSem.ClaimJoined
import GoSem.ClaimMapViews
import Derived.JoinedTies
import Derived.KernelRfl
namespace Go.Proofs.YtggdikabbngbaaaGreat
/- THE CELL 'sum', in the pinned program and in every row, IS THE sha256 OF THE DUMP (.gsa) THAT YtggdikabbngbaaaGreatProg.lean LOADS. Nothing in Lean hashes anything: it is a label: what it is worth is what the hold of that sum in a sandbox is worth. -/
noncomputable def Tryz.pinned : Pinned := { name := "ytggdikabbngbaaagreat", sum := "9600e5b8bc5b291bf0b3f9cb44dfd7e660c2bfe19fd3141b841d59251f429a9c", checked := Tryz.checked }
namespace Rows
def none {H : Type} : Left H := { results := [], args := [] }

/-- 'laws.FnNoise': WHATEVER THE INPUT: true; the input reads as it did. -/
def fnNoiseSpec : ChangeSpec := { name := "fnNoise", fn := fun _ => fun
  | [d] => { results := [.lit (.bool true)], args := [d] }
  | _ => none }
def fnNoiseRow : OpenClaim := { program := "ytggdikabbngbaaagreat", sum := "9600e5b8bc5b291bf0b3f9cb44dfd7e660c2bfe19fd3141b841d59251f429a9c", func := "loop.example/g00478/laws.FnNoise", spec := "fnNoise", apart := false }
def FnNoiseSaid : Prop := fnNoiseRow.holds Tryz.pinned (OpenSpec.ofChange fnNoiseSpec)

/-- ITS FALSE NEIGHBOUR: 'it returns false'. Refute it at one input. -/
def fnNoiseWrong : ChangeSpec := { name := "fnNoise", fn := fun _ => fun
  | [d] => { results := [.lit (.bool false)], args := [d] }
  | _ => none }
def FnNoiseWrongFalsely : Prop := fnNoiseRow.holds Tryz.pinned (OpenSpec.ofChange fnNoiseWrong)

/-- 'laws.FnExactServerHear': WHATEVER THE INPUT: true; the input reads as it did. -/
def fnExactServerHearSpec : ChangeSpec := { name := "fnExactServerHear", fn := fun _ => fun
  | [d1, d2, d3, d4] => { results := [.lit (.bool true)], args := [d1, d2, d3, d4] }
  | _ => none }
def fnExactServerHearRow : OpenClaim := { program := "ytggdikabbngbaaagreat", sum := "9600e5b8bc5b291bf0b3f9cb44dfd7e660c2bfe19fd3141b841d59251f429a9c", func := "loop.example/g00478/laws.FnExactServerHear", spec := "fnExactServerHear", apart := false }
def FnExactServerHearSaid : Prop := fnExactServerHearRow.holds Tryz.pinned (OpenSpec.ofChange fnExactServerHearSpec)

/-- ITS FALSE NEIGHBOUR: 'it returns false'. Refute it at one input. -/
def fnExactServerHearWrong : ChangeSpec := { name := "fnExactServerHear", fn := fun _ => fun
  | [d1, d2, d3, d4] => { results := [.lit (.bool false)], args := [d1, d2, d3, d4] }
  | _ => none }
def FnExactServerHearWrongFalsely : Prop := fnExactServerHearRow.holds Tryz.pinned (OpenSpec.ofChange fnExactServerHearWrong)

/-- 'laws.FnWaits': WHATEVER THE INPUT: true; the input reads as it did. -/
def fnWaitsSpec : ChangeSpec := { name := "fnWaits", fn := fun _ => fun
  | [d] => { results := [.lit (.bool true)], args := [d] }
  | _ => none }
def fnWaitsRow : OpenClaim := { program := "ytggdikabbngbaaagreat", sum := "9600e5b8bc5b291bf0b3f9cb44dfd7e660c2bfe19fd3141b841d59251f429a9c", func := "loop.example/g00478/laws.FnWaits", spec := "fnWaits", apart := false }
def FnWaitsSaid : Prop := fnWaitsRow.holds Tryz.pinned (OpenSpec.ofChange fnWaitsSpec)

/-- ITS FALSE NEIGHBOUR: 'it returns false'. Refute it at one input. -/
def fnWaitsWrong : ChangeSpec := { name := "fnWaits", fn := fun _ => fun
  | [d] => { results := [.lit (.bool false)], args := [d] }
  | _ => none }
def FnWaitsWrongFalsely : Prop := fnWaitsRow.holds Tryz.pinned (OpenSpec.ofChange fnWaitsWrong)

/-- 'laws.FnClients': WHATEVER THE INPUT: true; the input reads as it did. -/
def fnClientsSpec : ChangeSpec := { name := "fnClients", fn := fun _ => fun
  | [d] => { results := [.lit (.bool true)], args := [d] }
  | _ => none }
def fnClientsRow : OpenClaim := { program := "ytggdikabbngbaaagreat", sum := "9600e5b8bc5b291bf0b3f9cb44dfd7e660c2bfe19fd3141b841d59251f429a9c", func := "loop.example/g00478/laws.FnClients", spec := "fnClients", apart := false }
def FnClientsSaid : Prop := fnClientsRow.holds Tryz.pinned (OpenSpec.ofChange fnClientsSpec)

/-- ITS FALSE NEIGHBOUR: 'it returns false'. Refute it at one input. -/
def fnClientsWrong : ChangeSpec := { name := "fnClients", fn := fun _ => fun
  | [d] => { results := [.lit (.bool false)], args := [d] }
  | _ => none }
def FnClientsWrongFalsely : Prop := fnClientsRow.holds Tryz.pinned (OpenSpec.ofChange fnClientsWrong)

/-- 'laws.FnSessionsBent': WHATEVER THE INPUT: true; the input reads as it did. -/
def fnSessionsBentSpec : ChangeSpec := { name := "fnSessionsBent", fn := fun _ => fun
  | [d] => { results := [.lit (.bool true)], args := [d] }
  | _ => none }
def fnSessionsBentRow : OpenClaim := { program := "ytggdikabbngbaaagreat", sum := "9600e5b8bc5b291bf0b3f9cb44dfd7e660c2bfe19fd3141b841d59251f429a9c", func := "loop.example/g00478/laws.FnSessionsBent", spec := "fnSessionsBent", apart := false }
def FnSessionsBentSaid : Prop := fnSessionsBentRow.holds Tryz.pinned (OpenSpec.ofChange fnSessionsBentSpec)

/-- ITS FALSE NEIGHBOUR: 'it returns false'. Refute it at one input. -/
def fnSessionsBentWrong : ChangeSpec := { name := "fnSessionsBent", fn := fun _ => fun
  | [d] => { results := [.lit (.bool false)], args := [d] }
  | _ => none }
def FnSessionsBentWrongFalsely : Prop := fnSessionsBentRow.holds Tryz.pinned (OpenSpec.ofChange fnSessionsBentWrong)

/-- 'laws.FnExactClientHear': WHATEVER THE INPUT: true; the input reads as it did. -/
def fnExactClientHearSpec : ChangeSpec := { name := "fnExactClientHear", fn := fun _ => fun
  | [d1, d2, d3] => { results := [.lit (.bool true)], args := [d1, d2, d3] }
  | _ => none }
def fnExactClientHearRow : OpenClaim := { program := "ytggdikabbngbaaagreat", sum := "9600e5b8bc5b291bf0b3f9cb44dfd7e660c2bfe19fd3141b841d59251f429a9c", func := "loop.example/g00478/laws.FnExactClientHear", spec := "fnExactClientHear", apart := false }
def FnExactClientHearSaid : Prop := fnExactClientHearRow.holds Tryz.pinned (OpenSpec.ofChange fnExactClientHearSpec)

/-- ITS FALSE NEIGHBOUR: 'it returns false'. Refute it at one input. -/
def fnExactClientHearWrong : ChangeSpec := { name := "fnExactClientHear", fn := fun _ => fun
  | [d1, d2, d3] => { results := [.lit (.bool false)], args := [d1, d2, d3] }
  | _ => none }
def FnExactClientHearWrongFalsely : Prop := fnExactClientHearRow.holds Tryz.pinned (OpenSpec.ofChange fnExactClientHearWrong)

/-- 'laws.FnExactSessHear': WHATEVER THE INPUT: true; the input reads as it did. -/
def fnExactSessHearSpec : ChangeSpec := { name := "fnExactSessHear", fn := fun _ => fun
  | [d1, d2, d3, d4, d5] => { results := [.lit (.bool true)], args := [d1, d2, d3, d4, d5] }
  | _ => none }
def fnExactSessHearRow : OpenClaim := { program := "ytggdikabbngbaaagreat", sum := "9600e5b8bc5b291bf0b3f9cb44dfd7e660c2bfe19fd3141b841d59251f429a9c", func := "loop.example/g00478/laws.FnExactSessHear", spec := "fnExactSessHear", apart := false }
def FnExactSessHearSaid : Prop := fnExactSessHearRow.holds Tryz.pinned (OpenSpec.ofChange fnExactSessHearSpec)

/-- ITS FALSE NEIGHBOUR: 'it returns false'. Refute it at one input. -/
def fnExactSessHearWrong : ChangeSpec := { name := "fnExactSessHear", fn := fun _ => fun
  | [d1, d2, d3, d4, d5] => { results := [.lit (.bool false)], args := [d1, d2, d3, d4, d5] }
  | _ => none }
def FnExactSessHearWrongFalsely : Prop := fnExactSessHearRow.holds Tryz.pinned (OpenSpec.ofChange fnExactSessHearWrong)

/- THE SECOND FORM. 'bulk': how many values and letters a reading holds, each counted each time it is reached (what is shared counts as often as it is met; a slice's spare places count too). A statement '..UptoSaid' is the law's where the arguments, and the package variables that the reading takes, are together of bulk at most 1048576: NARROWER than '..Said'. Prove '..Said' where nothing that the law and all that it calls make is longer than what came in: it says more and counts as full. Else prove '..UptoSaid'. A law counts once. -/
mutual
def uptoBulk {H : Type} : DataW H → Nat
  | .lit (.string bytes) => bytes.length + 1
  | .lit _ => 1
  | .nil => 1
  | .ptr d => uptoBulk d + 1
  | .slice elems spare => uptoBulkAll elems + uptoBulkAll spare + 1
  | .agg parts => uptoBulkAll parts + 1
  | .iface _ d => uptoBulk d + 1
  | .map entries => uptoBulkEntries entries + 1
  | .held _ => 1
def uptoBulkAll {H : Type} : List (DataW H) → Nat
  | [] => 0
  | d :: r => uptoBulk d + uptoBulkAll r
def uptoBulkEntries {H : Type} : List (Lit × DataW H) → Nat
  | [] => 0
  | x :: r => uptoBulkEntry x + uptoBulkEntries r
def uptoBulkEntry {H : Type} : Lit × DataW H → Nat
  | (.string bytes, d) => bytes.length + uptoBulk d + 1
  | (_, d) => uptoBulk d + 1
 end
def uptoSmall : (H : Type) → List (DataW H) → Bool := fun _ ds => decide (uptoBulkAll ds ≤ 1048576)
def OpenSpec.upto (s : _root_.Go.ChangeSpec) : _root_.Go.OpenSpec := { _root_.Go.OpenSpec.ofChange s with cond := some uptoSmall }

/-- 'laws.FnNoise', WHERE WHAT IT READS IS OF BULK AT MOST 1048576: true; the input reads as it did. -/
def fnNoiseUptoRow : OpenClaim := { program := "ytggdikabbngbaaagreat", sum := "9600e5b8bc5b291bf0b3f9cb44dfd7e660c2bfe19fd3141b841d59251f429a9c", func := "loop.example/g00478/laws.FnNoise", spec := "fnNoise", apart := false, narrowed := true }
def FnNoiseUptoSaid : Prop := fnNoiseUptoRow.holds Tryz.pinned (OpenSpec.upto fnNoiseSpec)

/-- 'laws.FnExactServerHear', WHERE WHAT IT READS IS OF BULK AT MOST 1048576: true; the input reads as it did. -/
def fnExactServerHearUptoRow : OpenClaim := { program := "ytggdikabbngbaaagreat", sum := "9600e5b8bc5b291bf0b3f9cb44dfd7e660c2bfe19fd3141b841d59251f429a9c", func := "loop.example/g00478/laws.FnExactServerHear", spec := "fnExactServerHear", apart := false, narrowed := true }
def FnExactServerHearUptoSaid : Prop := fnExactServerHearUptoRow.holds Tryz.pinned (OpenSpec.upto fnExactServerHearSpec)

/-- 'laws.FnWaits', WHERE WHAT IT READS IS OF BULK AT MOST 1048576: true; the input reads as it did. -/
def fnWaitsUptoRow : OpenClaim := { program := "ytggdikabbngbaaagreat", sum := "9600e5b8bc5b291bf0b3f9cb44dfd7e660c2bfe19fd3141b841d59251f429a9c", func := "loop.example/g00478/laws.FnWaits", spec := "fnWaits", apart := false, narrowed := true }
def FnWaitsUptoSaid : Prop := fnWaitsUptoRow.holds Tryz.pinned (OpenSpec.upto fnWaitsSpec)

/-- 'laws.FnClients', WHERE WHAT IT READS IS OF BULK AT MOST 1048576: true; the input reads as it did. -/
def fnClientsUptoRow : OpenClaim := { program := "ytggdikabbngbaaagreat", sum := "9600e5b8bc5b291bf0b3f9cb44dfd7e660c2bfe19fd3141b841d59251f429a9c", func := "loop.example/g00478/laws.FnClients", spec := "fnClients", apart := false, narrowed := true }
def FnClientsUptoSaid : Prop := fnClientsUptoRow.holds Tryz.pinned (OpenSpec.upto fnClientsSpec)

/-- 'laws.FnSessionsBent', WHERE WHAT IT READS IS OF BULK AT MOST 1048576: true; the input reads as it did. -/
def fnSessionsBentUptoRow : OpenClaim := { program := "ytggdikabbngbaaagreat", sum := "9600e5b8bc5b291bf0b3f9cb44dfd7e660c2bfe19fd3141b841d59251f429a9c", func := "loop.example/g00478/laws.FnSessionsBent", spec := "fnSessionsBent", apart := false, narrowed := true }
def FnSessionsBentUptoSaid : Prop := fnSessionsBentUptoRow.holds Tryz.pinned (OpenSpec.upto fnSessionsBentSpec)

/-- 'laws.FnExactClientHear', WHERE WHAT IT READS IS OF BULK AT MOST 1048576: true; the input reads as it did. -/
def fnExactClientHearUptoRow : OpenClaim := { program := "ytggdikabbngbaaagreat", sum := "9600e5b8bc5b291bf0b3f9cb44dfd7e660c2bfe19fd3141b841d59251f429a9c", func := "loop.example/g00478/laws.FnExactClientHear", spec := "fnExactClientHear", apart := false, narrowed := true }
def FnExactClientHearUptoSaid : Prop := fnExactClientHearUptoRow.holds Tryz.pinned (OpenSpec.upto fnExactClientHearSpec)

/-- 'laws.FnExactSessHear', WHERE WHAT IT READS IS OF BULK AT MOST 1048576: true; the input reads as it did. -/
def fnExactSessHearUptoRow : OpenClaim := { program := "ytggdikabbngbaaagreat", sum := "9600e5b8bc5b291bf0b3f9cb44dfd7e660c2bfe19fd3141b841d59251f429a9c", func := "loop.example/g00478/laws.FnExactSessHear", spec := "fnExactSessHear", apart := false, narrowed := true }
def FnExactSessHearUptoSaid : Prop := fnExactSessHearUptoRow.holds Tryz.pinned (OpenSpec.upto fnExactSessHearSpec)

end Rows
end Go.Proofs.YtggdikabbngbaaaGreat

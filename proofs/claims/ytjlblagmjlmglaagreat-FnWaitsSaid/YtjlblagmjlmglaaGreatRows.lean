/-
  No cell of these rows narrows 'for every input' (looked for: loops, veiled, ifaces, maps, wideKeys, modest, calm, conditions, laid).
  DERIVED. THE GIVEN ROWS OF THIS SEAT. 4 by the template 'for every input the law returns true; each argument reads behind the call as it read before'; 0 by the template 'total and deterministic' (their statements: YtjlblagmjlmglaaGreatTotals.lean).
  GIVEN WITH THE SEED: the statements are not yours to turn. If you find one false, say at which input.
  Laid BY PROGRAM, IN A SANDBOX (cutbox-rows.mjs): the forced cells as the released guide's own fill.sh prints them over the translation cd983029b93fd1a1… (all of the seat's roots in one cut). By AI agents, Wed Nov 11 2026. No macro, syntax, notation, axiom, sorry.
-/
import Derived.Test.YtjlblagmjlmglaaGreatChecked
import GoSem.Claim
import GoSem.ClaimJoined
import GoSem.ClaimMapViews
import Derived.JoinedTies
import Derived.KernelRfl
namespace Go.Proofs.YtjlblagmjlmglaaGreat
/- THE CELL 'sum', in the pinned program and in every row, IS THE sha256 OF THE DUMP (.gsa) THAT YtjlblagmjlmglaaGreatProg.lean LOADS. Nothing in Lean hashes anything: it is a label: what it is worth is what the hold of that sum in a sandbox is worth. -/
noncomputable def Tryz.pinned : Pinned := { name := "ytjlblagmjlmglaagreat", sum := "cd983029b93fd1a1790f1f78252e06d00f4599a2274dae3142c5316bb7cf429c", checked := Tryz.checked }
namespace Rows
def none {H : Type} : Left H := { results := [], args := [] }

/-- 'laws.FnWaits': WHATEVER THE INPUT: true; the input reads as it did. -/
def fnWaitsSpec : ChangeSpec := { name := "fnWaits", fn := fun _ => fun
  | [d] => { results := [.lit (.bool true)], args := [d] }
  | _ => none }
def fnWaitsRow : OpenClaim := { program := "ytjlblagmjlmglaagreat", sum := "cd983029b93fd1a1790f1f78252e06d00f4599a2274dae3142c5316bb7cf429c", func := "loop.example/g00478/laws.FnWaits", spec := "fnWaits", apart := false }
def FnWaitsSaid : Prop := fnWaitsRow.holds Tryz.pinned (OpenSpec.ofChange fnWaitsSpec)

/-- ITS FALSE NEIGHBOUR: 'it returns false'. Refute it at one input. -/
def fnWaitsWrong : ChangeSpec := { name := "fnWaits", fn := fun _ => fun
  | [d] => { results := [.lit (.bool false)], args := [d] }
  | _ => none }
def FnWaitsWrongFalsely : Prop := fnWaitsRow.holds Tryz.pinned (OpenSpec.ofChange fnWaitsWrong)

/-- 'laws.FnClients': WHATEVER THE INPUT: true; the input reads as it did. -/
def fnClientsSpec : ChangeSpec := { name := "fnClients", fn := fun _ => fun
  | [d] => { results := [.lit (.bool true)], args := [d] }
  | _ => none }
def fnClientsRow : OpenClaim := { program := "ytjlblagmjlmglaagreat", sum := "cd983029b93fd1a1790f1f78252e06d00f4599a2274dae3142c5316bb7cf429c", func := "loop.example/g00478/laws.FnClients", spec := "fnClients", apart := false }
def FnClientsSaid : Prop := fnClientsRow.holds Tryz.pinned (OpenSpec.ofChange fnClientsSpec)

/-- ITS FALSE NEIGHBOUR: 'it returns false'. Refute it at one input. -/
def fnClientsWrong : ChangeSpec := { name := "fnClients", fn := fun _ => fun
  | [d] => { results := [.lit (.bool false)], args := [d] }
  | _ => none }
def FnClientsWrongFalsely : Prop := fnClientsRow.holds Tryz.pinned (OpenSpec.ofChange fnClientsWrong)

/-- 'laws.FnTicks': WHATEVER THE INPUT: true; the input reads as it did. -/
def fnTicksSpec : ChangeSpec := { name := "fnTicks", fn := fun _ => fun
  | [d] => { results := [.lit (.bool true)], args := [d] }
  | _ => none }
def fnTicksRow : OpenClaim := { program := "ytjlblagmjlmglaagreat", sum := "cd983029b93fd1a1790f1f78252e06d00f4599a2274dae3142c5316bb7cf429c", func := "loop.example/g00478/laws.FnTicks", spec := "fnTicks", apart := false }
def FnTicksSaid : Prop := fnTicksRow.holds Tryz.pinned (OpenSpec.ofChange fnTicksSpec)

/-- ITS FALSE NEIGHBOUR: 'it returns false'. Refute it at one input. -/
def fnTicksWrong : ChangeSpec := { name := "fnTicks", fn := fun _ => fun
  | [d] => { results := [.lit (.bool false)], args := [d] }
  | _ => none }
def FnTicksWrongFalsely : Prop := fnTicksRow.holds Tryz.pinned (OpenSpec.ofChange fnTicksWrong)

/-- 'laws.FnSessionsBent': WHATEVER THE INPUT: true; the input reads as it did. -/
def fnSessionsBentSpec : ChangeSpec := { name := "fnSessionsBent", fn := fun _ => fun
  | [d] => { results := [.lit (.bool true)], args := [d] }
  | _ => none }
def fnSessionsBentRow : OpenClaim := { program := "ytjlblagmjlmglaagreat", sum := "cd983029b93fd1a1790f1f78252e06d00f4599a2274dae3142c5316bb7cf429c", func := "loop.example/g00478/laws.FnSessionsBent", spec := "fnSessionsBent", apart := false }
def FnSessionsBentSaid : Prop := fnSessionsBentRow.holds Tryz.pinned (OpenSpec.ofChange fnSessionsBentSpec)

/-- ITS FALSE NEIGHBOUR: 'it returns false'. Refute it at one input. -/
def fnSessionsBentWrong : ChangeSpec := { name := "fnSessionsBent", fn := fun _ => fun
  | [d] => { results := [.lit (.bool false)], args := [d] }
  | _ => none }
def FnSessionsBentWrongFalsely : Prop := fnSessionsBentRow.holds Tryz.pinned (OpenSpec.ofChange fnSessionsBentWrong)

/- THE SECOND FORM. 'bulk': how many values and letters a reading holds, each counted each time it is reached (what is shared counts as often as it is met; a slice's spare places count too). A statement '..UptoSaid' is the law's where the arguments, and the package variables that the reading takes, are together of bulk at most 1048576: NARROWER than '..Said'. Prove '..Said' where nothing that the law and all that it calls make is longer than what came in: it says more and counts as full. Else prove '..UptoSaid'. A law counts once. -/
mutual
def uptoBulk {H : Type} : DataW H → Nat
  | .lit (.string bytes) => bytes.length + 1
  | .lit _ => 1
  | .nil => 1
  | .ptr d => uptoBulk d + 1
  | .slice elems spare => uptoBulkAll elems + uptoBulkAll spare + 1
  | .agg parts => uptoBulkAll parts + 1
  | .iface _ d => uptoBulk d + 1
  | .map entries => uptoBulkEntries entries + 1
  | .held _ => 1
def uptoBulkAll {H : Type} : List (DataW H) → Nat
  | [] => 0
  | d :: r => uptoBulk d + uptoBulkAll r
def uptoBulkEntries {H : Type} : List (Lit × DataW H) → Nat
  | [] => 0
  | x :: r => uptoBulkEntry x + uptoBulkEntries r
def uptoBulkEntry {H : Type} : Lit × DataW H → Nat
  | (.string bytes, d) => bytes.length + uptoBulk d + 1
  | (_, d) => uptoBulk d + 1
 end
def uptoSmall : (H : Type) → List (DataW H) → Bool := fun _ ds => decide (uptoBulkAll ds ≤ 1048576)
def OpenSpec.upto (s : _root_.Go.ChangeSpec) : _root_.Go.OpenSpec := { _root_.Go.OpenSpec.ofChange s with cond := some uptoSmall }

/-- 'laws.FnWaits', WHERE WHAT IT READS IS OF BULK AT MOST 1048576: true; the input reads as it did. -/
def fnWaitsUptoRow : OpenClaim := { program := "ytjlblagmjlmglaagreat", sum := "cd983029b93fd1a1790f1f78252e06d00f4599a2274dae3142c5316bb7cf429c", func := "loop.example/g00478/laws.FnWaits", spec := "fnWaits", apart := false, narrowed := true }
def FnWaitsUptoSaid : Prop := fnWaitsUptoRow.holds Tryz.pinned (OpenSpec.upto fnWaitsSpec)

/-- 'laws.FnClients', WHERE WHAT IT READS IS OF BULK AT MOST 1048576: true; the input reads as it did. -/
def fnClientsUptoRow : OpenClaim := { program := "ytjlblagmjlmglaagreat", sum := "cd983029b93fd1a1790f1f78252e06d00f4599a2274dae3142c5316bb7cf429c", func := "loop.example/g00478/laws.FnClients", spec := "fnClients", apart := false, narrowed := true }
def FnClientsUptoSaid : Prop := fnClientsUptoRow.holds Tryz.pinned (OpenSpec.upto fnClientsSpec)

/-- 'laws.FnTicks', WHERE WHAT IT READS IS OF BULK AT MOST 1048576: true; the input reads as it did. -/
def fnTicksUptoRow : OpenClaim := { program := "ytjlblagmjlmglaagreat", sum := "cd983029b93fd1a1790f1f78252e06d00f4599a2274dae3142c5316bb7cf429c", func := "loop.example/g00478/laws.FnTicks", spec := "fnTicks", apart := false, narrowed := true }
def FnTicksUptoSaid : Prop := fnTicksUptoRow.holds Tryz.pinned (OpenSpec.upto fnTicksSpec)

/-- 'laws.FnSessionsBent', WHERE WHAT IT READS IS OF BULK AT MOST 1048576: true; the input reads as it did. -/
def fnSessionsBentUptoRow : OpenClaim := { program := "ytjlblagmjlmglaagreat", sum := "cd983029b93fd1a1790f1f78252e06d00f4599a2274dae3142c5316bb7cf429c", func := "loop.example/g00478/laws.FnSessionsBent", spec := "fnSessionsBent", apart := false, narrowed := true }
def FnSessionsBentUptoSaid : Prop := fnSessionsBentUptoRow.holds Tryz.pinned (OpenSpec.upto fnSessionsBentSpec)

end Rows
end Go.Proofs.YtjlblagmjlmglaaGreat

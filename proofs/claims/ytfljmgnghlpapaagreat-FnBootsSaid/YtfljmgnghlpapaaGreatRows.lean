/-
  No cell of these rows narrows 'for every input' (looked for: loops, veiled, ifaces, maps, wideKeys, modest, calm, conditions, laid).
  DERIVED. THE GIVEN ROWS OF THIS SEAT. 3 by the template 'for every input the law returns true; each argument reads behind the call as it read before'; 0 by the template 'total and deterministic' (their statements: YtfljmgnghlpapaaGreatTotals.lean).
  GIVEN WITH THE SEED: the statements are not yours to turn. If you find one false, say at which input.
  Laid BY PROGRAM, IN A SANDBOX (cutbox-rows.mjs): the forced cells as the released guide's own fill.sh prints them over the translation 5c746d8e8e55e930… (all of the seat's roots in one cut). By AI agents, Wed Nov 11 2026. No macro, syntax, notation, axiom, sorry.
-/
import Derived.Test.YtfljmgnghlpapaaGreatChecked
import GoSem.Claim
import GoSem.ClaimJoined
import GoSem.ClaimMapViews
import Derived.JoinedTies
import Derived.KernelRfl
namespace Go.Proofs.YtfljmgnghlpapaaGreat
/- THE CELL 'sum', in the pinned program and in every row, IS THE sha256 OF THE DUMP (.gsa) THAT YtfljmgnghlpapaaGreatProg.lean LOADS. Nothing in Lean hashes anything: it is a label: what it is worth is what the hold of that sum in a sandbox is worth. -/
noncomputable def Tryz.pinned : Pinned := { name := "ytfljmgnghlpapaagreat", sum := "5c746d8e8e55e9300e96e300df6e9b10cfd6af5e60250e18e89a45777f86268f", checked := Tryz.checked }
namespace Rows
def none {H : Type} : Left H := { results := [], args := [] }

/-- 'laws.FnTables': WHATEVER THE INPUT: true; the input reads as it did. -/
def fnTablesSpec : ChangeSpec := { name := "fnTables", fn := fun _ => fun
  | [d] => { results := [.lit (.bool true)], args := [d] }
  | _ => none }
def fnTablesRow : OpenClaim := { program := "ytfljmgnghlpapaagreat", sum := "5c746d8e8e55e9300e96e300df6e9b10cfd6af5e60250e18e89a45777f86268f", func := "loop.example/g00478/laws.FnTables", spec := "fnTables", apart := false }
def FnTablesSaid : Prop := fnTablesRow.holds Tryz.pinned (OpenSpec.ofChange fnTablesSpec)

/-- ITS FALSE NEIGHBOUR: 'it returns false'. Refute it at one input. -/
def fnTablesWrong : ChangeSpec := { name := "fnTables", fn := fun _ => fun
  | [d] => { results := [.lit (.bool false)], args := [d] }
  | _ => none }
def FnTablesWrongFalsely : Prop := fnTablesRow.holds Tryz.pinned (OpenSpec.ofChange fnTablesWrong)

/-- 'laws.FnBoots': WHATEVER THE INPUT: true; the input reads as it did. -/
def fnBootsSpec : ChangeSpec := { name := "fnBoots", fn := fun _ => fun
  | [d] => { results := [.lit (.bool true)], args := [d] }
  | _ => none }
def fnBootsRow : OpenClaim := { program := "ytfljmgnghlpapaagreat", sum := "5c746d8e8e55e9300e96e300df6e9b10cfd6af5e60250e18e89a45777f86268f", func := "loop.example/g00478/laws.FnBoots", spec := "fnBoots", apart := false }
def FnBootsSaid : Prop := fnBootsRow.holds Tryz.pinned (OpenSpec.ofChange fnBootsSpec)

/-- ITS FALSE NEIGHBOUR: 'it returns false'. Refute it at one input. -/
def fnBootsWrong : ChangeSpec := { name := "fnBoots", fn := fun _ => fun
  | [d] => { results := [.lit (.bool false)], args := [d] }
  | _ => none }
def FnBootsWrongFalsely : Prop := fnBootsRow.holds Tryz.pinned (OpenSpec.ofChange fnBootsWrong)

/-- 'laws.FnCloses': WHATEVER THE INPUT: true; the input reads as it did. -/
def fnClosesSpec : ChangeSpec := { name := "fnCloses", fn := fun _ => fun
  | [d] => { results := [.lit (.bool true)], args := [d] }
  | _ => none }
def fnClosesRow : OpenClaim := { program := "ytfljmgnghlpapaagreat", sum := "5c746d8e8e55e9300e96e300df6e9b10cfd6af5e60250e18e89a45777f86268f", func := "loop.example/g00478/laws.FnCloses", spec := "fnCloses", apart := false }
def FnClosesSaid : Prop := fnClosesRow.holds Tryz.pinned (OpenSpec.ofChange fnClosesSpec)

/-- ITS FALSE NEIGHBOUR: 'it returns false'. Refute it at one input. -/
def fnClosesWrong : ChangeSpec := { name := "fnCloses", fn := fun _ => fun
  | [d] => { results := [.lit (.bool false)], args := [d] }
  | _ => none }
def FnClosesWrongFalsely : Prop := fnClosesRow.holds Tryz.pinned (OpenSpec.ofChange fnClosesWrong)

/- THE SECOND FORM. 'bulk': how many values and letters a reading holds, each counted each time it is reached (what is shared counts as often as it is met; a slice's spare places count too). A statement '..UptoSaid' is the law's where the arguments, and the package variables that the reading takes, are together of bulk at most 1048576: NARROWER than '..Said'. Prove '..Said' where nothing that the law and all that it calls make is longer than what came in: it says more and counts as full. Else prove '..UptoSaid'. A law counts once. -/
mutual
def uptoBulk {H : Type} : DataW H → Nat
  | .lit (.string bytes) => bytes.length + 1
  | .lit _ => 1
  | .nil => 1
  | .ptr d => uptoBulk d + 1
  | .slice elems spare => uptoBulkAll elems + uptoBulkAll spare + 1
  | .agg parts => uptoBulkAll parts + 1
  | .iface _ d => uptoBulk d + 1
  | .map entries => uptoBulkEntries entries + 1
  | .held _ => 1
def uptoBulkAll {H : Type} : List (DataW H) → Nat
  | [] => 0
  | d :: r => uptoBulk d + uptoBulkAll r
def uptoBulkEntries {H : Type} : List (Lit × DataW H) → Nat
  | [] => 0
  | x :: r => uptoBulkEntry x + uptoBulkEntries r
def uptoBulkEntry {H : Type} : Lit × DataW H → Nat
  | (.string bytes, d) => bytes.length + uptoBulk d + 1
  | (_, d) => uptoBulk d + 1
 end
def uptoSmall : (H : Type) → List (DataW H) → Bool := fun _ ds => decide (uptoBulkAll ds ≤ 1048576)
def OpenSpec.upto (s : _root_.Go.ChangeSpec) : _root_.Go.OpenSpec := { _root_.Go.OpenSpec.ofChange s with cond := some uptoSmall }

/-- 'laws.FnTables', WHERE WHAT IT READS IS OF BULK AT MOST 1048576: true; the input reads as it did. -/
def fnTablesUptoRow : OpenClaim := { program := "ytfljmgnghlpapaagreat", sum := "5c746d8e8e55e9300e96e300df6e9b10cfd6af5e60250e18e89a45777f86268f", func := "loop.example/g00478/laws.FnTables", spec := "fnTables", apart := false, narrowed := true }
def FnTablesUptoSaid : Prop := fnTablesUptoRow.holds Tryz.pinned (OpenSpec.upto fnTablesSpec)

/-- 'laws.FnBoots', WHERE WHAT IT READS IS OF BULK AT MOST 1048576: true; the input reads as it did. -/
def fnBootsUptoRow : OpenClaim := { program := "ytfljmgnghlpapaagreat", sum := "5c746d8e8e55e9300e96e300df6e9b10cfd6af5e60250e18e89a45777f86268f", func := "loop.example/g00478/laws.FnBoots", spec := "fnBoots", apart := false, narrowed := true }
def FnBootsUptoSaid : Prop := fnBootsUptoRow.holds Tryz.pinned (OpenSpec.upto fnBootsSpec)

/-- 'laws.FnCloses', WHERE WHAT IT READS IS OF BULK AT MOST 1048576: true; the input reads as it did. -/
def fnClosesUptoRow : OpenClaim := { program := "ytfljmgnghlpapaagreat", sum := "5c746d8e8e55e9300e96e300df6e9b10cfd6af5e60250e18e89a45777f86268f", func := "loop.example/g00478/laws.FnCloses", spec := "fnCloses", apart := false, narrowed := true }
def FnClosesUptoSaid : Prop := fnClosesUptoRow.holds Tryz.pinned (OpenSpec.upto fnClosesSpec)

end Rows
end Go.Proofs.YtfljmgnghlpapaaGreat

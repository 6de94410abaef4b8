/-
  DERIVED. GIVEN WITH THE SEED: THE CARDS: each row of YthccfdmiejmbaaaDoorRows.lean that lists a variable, with what it lists TIED to the program's text (the seventh form; the later family's looks); each row that meets fmt, with fmt's text TOLD by the authors' own Lean function (tested against real Go, not proved from fmt's source: count such statements apart). THE CARD IS WHAT COUNTS. Prove the row's statement (the work); the ties are given (YthccfdmiejmbaaaDoorTie.lean); close each card by the builder's one call (the guide's Derived/Test/ToyasCard.lean, 'card_holds'). Laid BY PROGRAM, IN A SANDBOX (cutbox-door.mjs). By AI agents, Wed Nov 11 2026. No macro, syntax, notation, axiom, sorry.
-/
import Derived.Test.YthccfdmiejmbaaaDoorRows
import GoSem.ClaimSeven
namespace Go.Proofs.YthccfdmiejmbaaaDoor
namespace Rows

/-- THE TIED CARD OF 'laws.FnExactWireText'. -/
def fnExactWireTextCard : Claim7 := { stood := { row := fnExactWireTextRow, standIns := [], harness := (true, "5d68945d2ead42254f7ac01977816585f95e5ed443aca66b6649236c1f4e94b4"), looks := false }, kinds := [], alts := [], laidByText := true, laidKinds := [.data, .data, .data], laidTests := true, laidLooks := .later }
def FnExactWireTextCardSaid : Prop := Claim7.holds Tryd.pinned (.plain (OpenSpec.ofChange fnExactWireTextSpec)) fnExactWireTextCard

/-- THE TIED CARD OF 'laws.FnWires'. -/
def fnWiresCard : Claim7 := { stood := { row := fnWiresRow, standIns := [], harness := (true, "5d68945d2ead42254f7ac01977816585f95e5ed443aca66b6649236c1f4e94b4"), looks := false }, kinds := [], alts := [], laidByText := true, laidKinds := [.data, .data, .data], laidTests := true, laidLooks := .later }
def FnWiresCardSaid : Prop := Claim7.holds Tryd.pinned (.plain (OpenSpec.ofChange fnWiresSpec)) fnWiresCard

/-- THE SECOND FORM's CARD OF 'laws.FnExactWireText'. -/
def fnExactWireTextUptoCard : Claim7 := { stood := { row := fnExactWireTextUptoRow, standIns := [], harness := (true, "5d68945d2ead42254f7ac01977816585f95e5ed443aca66b6649236c1f4e94b4"), looks := false }, kinds := [], alts := [], laidByText := true, laidKinds := [.data, .data, .data], laidTests := true, laidLooks := .later }
def FnExactWireTextUptoCardSaid : Prop := Claim7.holds Tryd.pinned (.plain (OpenSpec.upto fnExactWireTextSpec)) fnExactWireTextUptoCard

/-- THE SECOND FORM's CARD OF 'laws.FnWires'. -/
def fnWiresUptoCard : Claim7 := { stood := { row := fnWiresUptoRow, standIns := [], harness := (true, "5d68945d2ead42254f7ac01977816585f95e5ed443aca66b6649236c1f4e94b4"), looks := false }, kinds := [], alts := [], laidByText := true, laidKinds := [.data, .data, .data], laidTests := true, laidLooks := .later }
def FnWiresUptoCardSaid : Prop := Claim7.holds Tryd.pinned (.plain (OpenSpec.upto fnWiresSpec)) fnWiresUptoCard
end Rows
end Go.Proofs.YthccfdmiejmbaaaDoor

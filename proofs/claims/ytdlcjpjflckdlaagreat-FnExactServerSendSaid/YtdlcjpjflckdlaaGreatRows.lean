/-
  No cell of these rows narrows 'for every input' (looked for: loops, veiled, ifaces, maps, wideKeys, modest, calm, conditions, laid).
  DERIVED. THE GIVEN ROWS OF THIS SEAT. 9 by the template 'for every input the law returns true; each argument reads behind the call as it read before'; 0 by the template 'total and deterministic' (their statements: YtdlcjpjflckdlaaGreatTotals.lean).
  GIVEN WITH THE SEED: the statements are not yours to turn. If you find one false, say at which input.
  Laid BY PROGRAM, IN A SANDBOX (cutbox-rows.mjs): the forced cells as the released guide's own fill.sh prints them over the translation 2e00c689c0eb9927… (all of the seat's roots in one cut). By AI agents, Wed Nov 11 2026. No macro, syntax, notation, axiom, sorry.
-/
import Derived.Test.YtdlcjpjflckdlaaGreatChecked
import GoSem.Claim
import GoSem.ClaimJoined
import GoSem.ClaimMapViews
import Derived.JoinedTies
import Derived.KernelRfl
namespace Go.Proofs.YtdlcjpjflckdlaaGreat
/- THE CELL 'sum', in the pinned program and in every row, IS THE sha256 OF THE DUMP (.gsa) THAT YtdlcjpjflckdlaaGreatProg.lean LOADS. Nothing in Lean hashes anything: it is a label: what it is worth is what the hold of that sum in a sandbox is worth. -/
noncomputable def Tryz.pinned : Pinned := { name := "ytdlcjpjflckdlaagreat", sum := "2e00c689c0eb9927ab516374b8d53fd78ac610efa3ba67780c884b3615af2c64", checked := Tryz.checked }
namespace Rows
def none {H : Type} : Left H := { results := [], args := [] }

/-- 'laws.FnExactServerClose': WHATEVER THE INPUT: true; the input reads as it did. -/
def fnExactServerCloseSpec : ChangeSpec := { name := "fnExactServerClose", fn := fun _ => fun
  | [d1, d2] => { results := [.lit (.bool true)], args := [d1, d2] }
  | _ => none }
def fnExactServerCloseRow : OpenClaim := { program := "ytdlcjpjflckdlaagreat", sum := "2e00c689c0eb9927ab516374b8d53fd78ac610efa3ba67780c884b3615af2c64", func := "loop.example/g00478/laws.FnExactServerClose", spec := "fnExactServerClose", apart := false }
def FnExactServerCloseSaid : Prop := fnExactServerCloseRow.holds Tryz.pinned (OpenSpec.ofChange fnExactServerCloseSpec)

/-- ITS FALSE NEIGHBOUR: 'it returns false'. Refute it at one input. -/
def fnExactServerCloseWrong : ChangeSpec := { name := "fnExactServerClose", fn := fun _ => fun
  | [d1, d2] => { results := [.lit (.bool false)], args := [d1, d2] }
  | _ => none }
def FnExactServerCloseWrongFalsely : Prop := fnExactServerCloseRow.holds Tryz.pinned (OpenSpec.ofChange fnExactServerCloseWrong)

/-- 'laws.FnExactClientSend': WHATEVER THE INPUT: true; the input reads as it did. -/
def fnExactClientSendSpec : ChangeSpec := { name := "fnExactClientSend", fn := fun _ => fun
  | [d1, d2, d3] => { results := [.lit (.bool true)], args := [d1, d2, d3] }
  | _ => none }
def fnExactClientSendRow : OpenClaim := { program := "ytdlcjpjflckdlaagreat", sum := "2e00c689c0eb9927ab516374b8d53fd78ac610efa3ba67780c884b3615af2c64", func := "loop.example/g00478/laws.FnExactClientSend", spec := "fnExactClientSend", apart := false }
def FnExactClientSendSaid : Prop := fnExactClientSendRow.holds Tryz.pinned (OpenSpec.ofChange fnExactClientSendSpec)

/-- ITS FALSE NEIGHBOUR: 'it returns false'. Refute it at one input. -/
def fnExactClientSendWrong : ChangeSpec := { name := "fnExactClientSend", fn := fun _ => fun
  | [d1, d2, d3] => { results := [.lit (.bool false)], args := [d1, d2, d3] }
  | _ => none }
def FnExactClientSendWrongFalsely : Prop := fnExactClientSendRow.holds Tryz.pinned (OpenSpec.ofChange fnExactClientSendWrong)

/-- 'laws.FnExactSessSend': WHATEVER THE INPUT: true; the input reads as it did. -/
def fnExactSessSendSpec : ChangeSpec := { name := "fnExactSessSend", fn := fun _ => fun
  | [d1, d2] => { results := [.lit (.bool true)], args := [d1, d2] }
  | _ => none }
def fnExactSessSendRow : OpenClaim := { program := "ytdlcjpjflckdlaagreat", sum := "2e00c689c0eb9927ab516374b8d53fd78ac610efa3ba67780c884b3615af2c64", func := "loop.example/g00478/laws.FnExactSessSend", spec := "fnExactSessSend", apart := false }
def FnExactSessSendSaid : Prop := fnExactSessSendRow.holds Tryz.pinned (OpenSpec.ofChange fnExactSessSendSpec)

/-- ITS FALSE NEIGHBOUR: 'it returns false'. Refute it at one input. -/
def fnExactSessSendWrong : ChangeSpec := { name := "fnExactSessSend", fn := fun _ => fun
  | [d1, d2] => { results := [.lit (.bool false)], args := [d1, d2] }
  | _ => none }
def FnExactSessSendWrongFalsely : Prop := fnExactSessSendRow.holds Tryz.pinned (OpenSpec.ofChange fnExactSessSendWrong)

/-- 'laws.FnExactSessAck': WHATEVER THE INPUT: true; the input reads as it did. -/
def fnExactSessAckSpec : ChangeSpec := { name := "fnExactSessAck", fn := fun _ => fun
  | [d] => { results := [.lit (.bool true)], args := [d] }
  | _ => none }
def fnExactSessAckRow : OpenClaim := { program := "ytdlcjpjflckdlaagreat", sum := "2e00c689c0eb9927ab516374b8d53fd78ac610efa3ba67780c884b3615af2c64", func := "loop.example/g00478/laws.FnExactSessAck", spec := "fnExactSessAck", apart := false }
def FnExactSessAckSaid : Prop := fnExactSessAckRow.holds Tryz.pinned (OpenSpec.ofChange fnExactSessAckSpec)

/-- ITS FALSE NEIGHBOUR: 'it returns false'. Refute it at one input. -/
def fnExactSessAckWrong : ChangeSpec := { name := "fnExactSessAck", fn := fun _ => fun
  | [d] => { results := [.lit (.bool false)], args := [d] }
  | _ => none }
def FnExactSessAckWrongFalsely : Prop := fnExactSessAckRow.holds Tryz.pinned (OpenSpec.ofChange fnExactSessAckWrong)

/-- 'laws.FnExactClientRekey': WHATEVER THE INPUT: true; the input reads as it did. -/
def fnExactClientRekeySpec : ChangeSpec := { name := "fnExactClientRekey", fn := fun _ => fun
  | [d1, d2] => { results := [.lit (.bool true)], args := [d1, d2] }
  | _ => none }
def fnExactClientRekeyRow : OpenClaim := { program := "ytdlcjpjflckdlaagreat", sum := "2e00c689c0eb9927ab516374b8d53fd78ac610efa3ba67780c884b3615af2c64", func := "loop.example/g00478/laws.FnExactClientRekey", spec := "fnExactClientRekey", apart := false }
def FnExactClientRekeySaid : Prop := fnExactClientRekeyRow.holds Tryz.pinned (OpenSpec.ofChange fnExactClientRekeySpec)

/-- ITS FALSE NEIGHBOUR: 'it returns false'. Refute it at one input. -/
def fnExactClientRekeyWrong : ChangeSpec := { name := "fnExactClientRekey", fn := fun _ => fun
  | [d1, d2] => { results := [.lit (.bool false)], args := [d1, d2] }
  | _ => none }
def FnExactClientRekeyWrongFalsely : Prop := fnExactClientRekeyRow.holds Tryz.pinned (OpenSpec.ofChange fnExactClientRekeyWrong)

/-- 'laws.FnExactClientTick': WHATEVER THE INPUT: true; the input reads as it did. -/
def fnExactClientTickSpec : ChangeSpec := { name := "fnExactClientTick", fn := fun _ => fun
  | [d1, d2] => { results := [.lit (.bool true)], args := [d1, d2] }
  | _ => none }
def fnExactClientTickRow : OpenClaim := { program := "ytdlcjpjflckdlaagreat", sum := "2e00c689c0eb9927ab516374b8d53fd78ac610efa3ba67780c884b3615af2c64", func := "loop.example/g00478/laws.FnExactClientTick", spec := "fnExactClientTick", apart := false }
def FnExactClientTickSaid : Prop := fnExactClientTickRow.holds Tryz.pinned (OpenSpec.ofChange fnExactClientTickSpec)

/-- ITS FALSE NEIGHBOUR: 'it returns false'. Refute it at one input. -/
def fnExactClientTickWrong : ChangeSpec := { name := "fnExactClientTick", fn := fun _ => fun
  | [d1, d2] => { results := [.lit (.bool false)], args := [d1, d2] }
  | _ => none }
def FnExactClientTickWrongFalsely : Prop := fnExactClientTickRow.holds Tryz.pinned (OpenSpec.ofChange fnExactClientTickWrong)

/-- 'laws.FnExactBoot': WHATEVER THE INPUT: true; the input reads as it did. -/
def fnExactBootSpec : ChangeSpec := { name := "fnExactBoot", fn := fun _ => fun
  | [d] => { results := [.lit (.bool true)], args := [d] }
  | _ => none }
def fnExactBootRow : OpenClaim := { program := "ytdlcjpjflckdlaagreat", sum := "2e00c689c0eb9927ab516374b8d53fd78ac610efa3ba67780c884b3615af2c64", func := "loop.example/g00478/laws.FnExactBoot", spec := "fnExactBoot", apart := false }
def FnExactBootSaid : Prop := fnExactBootRow.holds Tryz.pinned (OpenSpec.ofChange fnExactBootSpec)

/-- ITS FALSE NEIGHBOUR: 'it returns false'. Refute it at one input. -/
def fnExactBootWrong : ChangeSpec := { name := "fnExactBoot", fn := fun _ => fun
  | [d] => { results := [.lit (.bool false)], args := [d] }
  | _ => none }
def FnExactBootWrongFalsely : Prop := fnExactBootRow.holds Tryz.pinned (OpenSpec.ofChange fnExactBootWrong)

/-- 'laws.FnExactClientHear': WHATEVER THE INPUT: true; the input reads as it did. -/
def fnExactClientHearSpec : ChangeSpec := { name := "fnExactClientHear", fn := fun _ => fun
  | [d1, d2, d3] => { results := [.lit (.bool true)], args := [d1, d2, d3] }
  | _ => none }
def fnExactClientHearRow : OpenClaim := { program := "ytdlcjpjflckdlaagreat", sum := "2e00c689c0eb9927ab516374b8d53fd78ac610efa3ba67780c884b3615af2c64", func := "loop.example/g00478/laws.FnExactClientHear", spec := "fnExactClientHear", apart := false }
def FnExactClientHearSaid : Prop := fnExactClientHearRow.holds Tryz.pinned (OpenSpec.ofChange fnExactClientHearSpec)

/-- ITS FALSE NEIGHBOUR: 'it returns false'. Refute it at one input. -/
def fnExactClientHearWrong : ChangeSpec := { name := "fnExactClientHear", fn := fun _ => fun
  | [d1, d2, d3] => { results := [.lit (.bool false)], args := [d1, d2, d3] }
  | _ => none }
def FnExactClientHearWrongFalsely : Prop := fnExactClientHearRow.holds Tryz.pinned (OpenSpec.ofChange fnExactClientHearWrong)

/-- 'laws.FnExactServerSend': WHATEVER THE INPUT: true; the input reads as it did. -/
def fnExactServerSendSpec : ChangeSpec := { name := "fnExactServerSend", fn := fun _ => fun
  | [d1, d2, d3, d4] => { results := [.lit (.bool true)], args := [d1, d2, d3, d4] }
  | _ => none }
def fnExactServerSendRow : OpenClaim := { program := "ytdlcjpjflckdlaagreat", sum := "2e00c689c0eb9927ab516374b8d53fd78ac610efa3ba67780c884b3615af2c64", func := "loop.example/g00478/laws.FnExactServerSend", spec := "fnExactServerSend", apart := false }
def FnExactServerSendSaid : Prop := fnExactServerSendRow.holds Tryz.pinned (OpenSpec.ofChange fnExactServerSendSpec)

/-- ITS FALSE NEIGHBOUR: 'it returns false'. Refute it at one input. -/
def fnExactServerSendWrong : ChangeSpec := { name := "fnExactServerSend", fn := fun _ => fun
  | [d1, d2, d3, d4] => { results := [.lit (.bool false)], args := [d1, d2, d3, d4] }
  | _ => none }
def FnExactServerSendWrongFalsely : Prop := fnExactServerSendRow.holds Tryz.pinned (OpenSpec.ofChange fnExactServerSendWrong)

/- THE SECOND FORM. 'bulk': how many values and letters a reading holds, each counted each time it is reached (what is shared counts as often as it is met; a slice's spare places count too). A statement '..UptoSaid' is the law's where the arguments, and the package variables that the reading takes, are together of bulk at most 1048576: NARROWER than '..Said'. Prove '..Said' where nothing that the law and all that it calls make is longer than what came in: it says more and counts as full. Else prove '..UptoSaid'. A law counts once. -/
mutual
def uptoBulk {H : Type} : DataW H → Nat
  | .lit (.string bytes) => bytes.length + 1
  | .lit _ => 1
  | .nil => 1
  | .ptr d => uptoBulk d + 1
  | .slice elems spare => uptoBulkAll elems + uptoBulkAll spare + 1
  | .agg parts => uptoBulkAll parts + 1
  | .iface _ d => uptoBulk d + 1
  | .map entries => uptoBulkEntries entries + 1
  | .held _ => 1
def uptoBulkAll {H : Type} : List (DataW H) → Nat
  | [] => 0
  | d :: r => uptoBulk d + uptoBulkAll r
def uptoBulkEntries {H : Type} : List (Lit × DataW H) → Nat
  | [] => 0
  | x :: r => uptoBulkEntry x + uptoBulkEntries r
def uptoBulkEntry {H : Type} : Lit × DataW H → Nat
  | (.string bytes, d) => bytes.length + uptoBulk d + 1
  | (_, d) => uptoBulk d + 1
 end
def uptoSmall : (H : Type) → List (DataW H) → Bool := fun _ ds => decide (uptoBulkAll ds ≤ 1048576)
def OpenSpec.upto (s : _root_.Go.ChangeSpec) : _root_.Go.OpenSpec := { _root_.Go.OpenSpec.ofChange s with cond := some uptoSmall }

/-- 'laws.FnExactServerClose', WHERE WHAT IT READS IS OF BULK AT MOST 1048576: true; the input reads as it did. -/
def fnExactServerCloseUptoRow : OpenClaim := { program := "ytdlcjpjflckdlaagreat", sum := "2e00c689c0eb9927ab516374b8d53fd78ac610efa3ba67780c884b3615af2c64", func := "loop.example/g00478/laws.FnExactServerClose", spec := "fnExactServerClose", apart := false, narrowed := true }
def FnExactServerCloseUptoSaid : Prop := fnExactServerCloseUptoRow.holds Tryz.pinned (OpenSpec.upto fnExactServerCloseSpec)

/-- 'laws.FnExactClientSend', WHERE WHAT IT READS IS OF BULK AT MOST 1048576: true; the input reads as it did. -/
def fnExactClientSendUptoRow : OpenClaim := { program := "ytdlcjpjflckdlaagreat", sum := "2e00c689c0eb9927ab516374b8d53fd78ac610efa3ba67780c884b3615af2c64", func := "loop.example/g00478/laws.FnExactClientSend", spec := "fnExactClientSend", apart := false, narrowed := true }
def FnExactClientSendUptoSaid : Prop := fnExactClientSendUptoRow.holds Tryz.pinned (OpenSpec.upto fnExactClientSendSpec)

/-- 'laws.FnExactSessSend', WHERE WHAT IT READS IS OF BULK AT MOST 1048576: true; the input reads as it did. -/
def fnExactSessSendUptoRow : OpenClaim := { program := "ytdlcjpjflckdlaagreat", sum := "2e00c689c0eb9927ab516374b8d53fd78ac610efa3ba67780c884b3615af2c64", func := "loop.example/g00478/laws.FnExactSessSend", spec := "fnExactSessSend", apart := false, narrowed := true }
def FnExactSessSendUptoSaid : Prop := fnExactSessSendUptoRow.holds Tryz.pinned (OpenSpec.upto fnExactSessSendSpec)

/-- 'laws.FnExactSessAck', WHERE WHAT IT READS IS OF BULK AT MOST 1048576: true; the input reads as it did. -/
def fnExactSessAckUptoRow : OpenClaim := { program := "ytdlcjpjflckdlaagreat", sum := "2e00c689c0eb9927ab516374b8d53fd78ac610efa3ba67780c884b3615af2c64", func := "loop.example/g00478/laws.FnExactSessAck", spec := "fnExactSessAck", apart := false, narrowed := true }
def FnExactSessAckUptoSaid : Prop := fnExactSessAckUptoRow.holds Tryz.pinned (OpenSpec.upto fnExactSessAckSpec)

/-- 'laws.FnExactClientRekey', WHERE WHAT IT READS IS OF BULK AT MOST 1048576: true; the input reads as it did. -/
def fnExactClientRekeyUptoRow : OpenClaim := { program := "ytdlcjpjflckdlaagreat", sum := "2e00c689c0eb9927ab516374b8d53fd78ac610efa3ba67780c884b3615af2c64", func := "loop.example/g00478/laws.FnExactClientRekey", spec := "fnExactClientRekey", apart := false, narrowed := true }
def FnExactClientRekeyUptoSaid : Prop := fnExactClientRekeyUptoRow.holds Tryz.pinned (OpenSpec.upto fnExactClientRekeySpec)

/-- 'laws.FnExactClientTick', WHERE WHAT IT READS IS OF BULK AT MOST 1048576: true; the input reads as it did. -/
def fnExactClientTickUptoRow : OpenClaim := { program := "ytdlcjpjflckdlaagreat", sum := "2e00c689c0eb9927ab516374b8d53fd78ac610efa3ba67780c884b3615af2c64", func := "loop.example/g00478/laws.FnExactClientTick", spec := "fnExactClientTick", apart := false, narrowed := true }
def FnExactClientTickUptoSaid : Prop := fnExactClientTickUptoRow.holds Tryz.pinned (OpenSpec.upto fnExactClientTickSpec)

/-- 'laws.FnExactBoot', WHERE WHAT IT READS IS OF BULK AT MOST 1048576: true; the input reads as it did. -/
def fnExactBootUptoRow : OpenClaim := { program := "ytdlcjpjflckdlaagreat", sum := "2e00c689c0eb9927ab516374b8d53fd78ac610efa3ba67780c884b3615af2c64", func := "loop.example/g00478/laws.FnExactBoot", spec := "fnExactBoot", apart := false, narrowed := true }
def FnExactBootUptoSaid : Prop := fnExactBootUptoRow.holds Tryz.pinned (OpenSpec.upto fnExactBootSpec)

/-- 'laws.FnExactClientHear', WHERE WHAT IT READS IS OF BULK AT MOST 1048576: true; the input reads as it did. -/
def fnExactClientHearUptoRow : OpenClaim := { program := "ytdlcjpjflckdlaagreat", sum := "2e00c689c0eb9927ab516374b8d53fd78ac610efa3ba67780c884b3615af2c64", func := "loop.example/g00478/laws.FnExactClientHear", spec := "fnExactClientHear", apart := false, narrowed := true }
def FnExactClientHearUptoSaid : Prop := fnExactClientHearUptoRow.holds Tryz.pinned (OpenSpec.upto fnExactClientHearSpec)

/-- 'laws.FnExactServerSend', WHERE WHAT IT READS IS OF BULK AT MOST 1048576: true; the input reads as it did. -/
def fnExactServerSendUptoRow : OpenClaim := { program := "ytdlcjpjflckdlaagreat", sum := "2e00c689c0eb9927ab516374b8d53fd78ac610efa3ba67780c884b3615af2c64", func := "loop.example/g00478/laws.FnExactServerSend", spec := "fnExactServerSend", apart := false, narrowed := true }
def FnExactServerSendUptoSaid : Prop := fnExactServerSendUptoRow.holds Tryz.pinned (OpenSpec.upto fnExactServerSendSpec)

end Rows
end Go.Proofs.YtdlcjpjflckdlaaGreat

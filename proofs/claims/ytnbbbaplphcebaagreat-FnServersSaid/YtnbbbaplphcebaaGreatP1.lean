/-
  That the functions of the seat answer what the terms of text W say; nothing is assumed.
-/
import Derived.Test.YtnbbbaplphcebaaGreatP0
namespace Go.Proofs.YtnbbbaplphcebaaGreat
open Go.RowKit
set_option linter.unusedVariables false
set_option maxRecDepth 100000
set_option maxHeartbeats 4000000
noncomputable section
def Mc:List (Bool×List Sh):=[g_0]
def Ac6 (r:(Bool×Unit)):List RV×List RV:=([rv g_1 r],[])
def A99:Au:=As Mc (fun d=>(Md d.1).val) Ac6
def Me:Fns:=[Fz 6 Bgw,Fz 7 Alm,Fz 8 Al4,Fz 9 Afq,Fz 10 A3e,Fz 11 Ays,Fz 12 Aoz,Fz 13 Apm]
theorem Vc:CfgOk Tryz.prog (Dw Me):=Gk Mk I7 (show Kb Tryz.prog Me from⟨Bn9,Ah0,A3d,Ar6,Bft,Bb3,At5,Ayq,trivial⟩)
def Agb:Sk:=⟨[(7,.box 7 0),(10,.v false [(.int .i64,.nil)]),(11,.v false [(.int .i64,.nil)]),(12,.v false [(.int .i64,.nil)]),(15,.v false [(.int .i64,.nil)])],[(7,[(.sl 22 [.sl 5 [.int .u8]],(.own 21000000)),(.sl 5 [.int .u8],(.own 21000001)),(.sl 5 [.int .u8],(.own 21000002)),(.int .i64,.nil),(.int .i64,.nil),(.sl 88 Dy,(.own 21000003)),(.sl 53 h_2,(.own 21000004))])],[21000000,21000001,21000002,21000003,21000004]⟩
def Agc:List (Ex×Sk):=[(.ret,⟨[(2,.v false [(.bool,.nil)])],[],[]⟩),((.exit 4),⟨[(10,.v false [(.int .i64,.nil)]),(11,.v false [(.int .i64,.nil)]),(12,.v false [(.int .i64,.nil)])],[],[]⟩)]
def Agd:Sk:=⟨[(3,.box 3 0),(7,.box 7 0),(10,.v false [(.int .i64,.nil)]),(11,.v false [(.int .i64,.nil)]),(12,.v false [(.int .i64,.nil)]),(14,.v false [(.int .i64,.nil)])],[(3,[(.sl 22 [.sl 5 [.int .u8]],(.own 17000000)),(.sl 5 [.int .u8],(.own 17000001)),(.sl 5 [.int .u8],(.own 17000002)),(.int .i64,.nil),(.int .i64,.nil),(.sl 88 Dy,(.own 17000003)),(.sl 53 h_2,(.own 17000004))]),(7,[(.sl 22 [.sl 5 [.int .u8]],(.own 17000005)),(.sl 5 [.int .u8],(.own 17000006)),(.sl 5 [.int .u8],(.own 17000007)),(.int .i64,.nil),(.int .i64,.nil),(.sl 88 Dy,(.own 17000008)),(.sl 53 h_2,(.own 17000009))])],[17000000,17000001,17000002,17000003,17000004,17000005,17000006,17000007,17000008,17000009]⟩
def Age:List (Ex×Sk):=[((.exit 2),⟨[(7,.box 7 0),(10,.v false [(.int .i64,.nil)]),(11,.v false [(.int .i64,.nil)]),(12,.v false [(.int .i64,.nil)])],[(7,[(.sl 22 [.sl 5 [.int .u8]],(.own 17000000)),(.sl 5 [.int .u8],(.own 17000001)),(.sl 5 [.int .u8],(.own 17000002)),(.int .i64,.nil),(.int .i64,.nil),(.sl 88 Dy,(.own 17000003)),(.sl 53 h_2,(.own 17000004))])],[17000000,17000001,17000002,17000003,17000004]⟩)]
def Agf:Sk:=⟨[(3,.box 3 0),(7,.box 7 0),(8,.v false [(.sl 50 h_9,(.own 12000000))]),(10,.v false [(.int .i64,.nil)]),(11,.v false [(.int .i64,.nil)]),(12,.v false [(.int .i64,.nil)]),(13,.v false [(.int .i64,.nil)])],[(3,[(.sl 22 [.sl 5 [.int .u8]],(.own 12000001)),(.sl 5 [.int .u8],(.own 12000002)),(.sl 5 [.int .u8],(.own 12000003)),(.int .i64,.nil),(.int .i64,.nil),(.sl 88 Dy,(.own 12000004)),(.sl 53 h_2,(.own 12000005))]),(7,[(.sl 22 [.sl 5 [.int .u8]],(.own 12000006)),(.sl 5 [.int .u8],(.own 12000007)),(.sl 5 [.int .u8],(.own 12000008)),(.int .i64,.nil),(.int .i64,.nil),(.sl 88 Dy,(.own 12000009)),(.sl 53 h_2,(.own 12000010))])],[12000000,12000001,12000002,12000003,12000004,12000005,12000006,12000007,12000008,12000009,12000010]⟩
def Agg:List (Ex×Sk):=[((.exit 0),⟨[(3,.box 3 0),(7,.box 7 0),(10,.v false [(.int .i64,.nil)]),(11,.v false [(.int .i64,.nil)]),(12,.v false [(.int .i64,.nil)])],[(3,[(.sl 22 [.sl 5 [.int .u8]],(.own 12000000)),(.sl 5 [.int .u8],(.own 12000001)),(.sl 5 [.int .u8],(.own 12000002)),(.int .i64,.nil),(.int .i64,.nil),(.sl 88 Dy,(.own 12000003)),(.sl 53 h_2,(.own 12000004))]),(7,[(.sl 22 [.sl 5 [.int .u8]],(.own 12000005)),(.sl 5 [.int .u8],(.own 12000006)),(.sl 5 [.int .u8],(.own 12000007)),(.int .i64,.nil),(.int .i64,.nil),(.sl 88 Dy,(.own 12000008)),(.sl 53 h_2,(.own 12000009))])],[12000000,12000001,12000002,12000003,12000004,12000005,12000006,12000007,12000008,12000009]⟩)]
def J2:Gu:=fun i st=>cond (Nat.beq i 11) (lam Agf 12000000 Agg Ho st) <| cond (Nat.beq i 16) (lam Agd 17000000 Age Hp st) <| cond (Nat.beq i 20) (lam Agb 21000000 Agc Hq st) <| .fail
theorem Axa (cx:Cx) (hp:cx.pin.length<=0):D9 Tryz.prog cx Tryz.f3.ntmps J2 (Bb Tryz.f3 0):=Et Vc hp (De (by kernel_rfl:By (Bb Tryz.f3 0)=[]) trivial) (by kernel_rfl) (fun d=>(by kernel_rfl:bod (Dw Me) 0 Tryz.f3.ntmps J2 (Bb Tryz.f3 0) Agf 12000000 Agg d=Ho d))
theorem Axb (cx:Cx) (hp:cx.pin.length<=0):D9 Tryz.prog cx Tryz.f3.ntmps J2 (Bb Tryz.f3 1):=Et Vc hp (De (by kernel_rfl:By (Bb Tryz.f3 1)=[]) trivial) (by kernel_rfl) (fun d=>(by kernel_rfl:bod (Dw Me) 0 Tryz.f3.ntmps J2 (Bb Tryz.f3 1) Agd 17000000 Age d=Hp d))
theorem Axc (cx:Cx) (hp:cx.pin.length<=0):D9 Tryz.prog cx Tryz.f3.ntmps J2 (Bb Tryz.f3 2):=Et Vc hp (De (by kernel_rfl:By (Bb Tryz.f3 2)=[]) trivial) (by kernel_rfl) (fun d=>(by kernel_rfl:bod (Dw Me) 0 Tryz.f3.ntmps J2 (Bb Tryz.f3 2) Agb 21000000 Agc d=Hq d))
theorem A5x:Fq 3 A99:=Nn Vc Tryz.func3 (by kernel_rfl) (by kernel_rfl) (fun cx b hp hb=>De (by kernel_rfl:By (Tryz.f3.body.getD .skip)=[Bb Tryz.f3 0,Bb Tryz.f3 1,Bb Tryz.f3 2]) ⟨Axa cx hp,Axb cx hp,Axc cx hp,trivial⟩ b hb) (fun d=>(by kernel_rfl:H7 (Dw Me) 0 J2 Tryz.f3 .plain (mkA Mc d)=(Md d.1).run fun r=>some (Ac6 r)))
end
end Go.Proofs.YtnbbbaplphcebaaGreat

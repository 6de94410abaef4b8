/-
  What the functions of the seat answer, as plain terms (printed by a program, proved in the texts P); nothing is assumed.
-/
import Derived.Test.YtnbbbaplphcebaaGreatEv2
namespace Go.Proofs.YtnbbbaplphcebaaGreat
open Go.RowKit IntKind
set_option linter.unusedVariables false
set_option maxRecDepth 100000
set_option maxHeartbeats 4000000
noncomputable section
abbrev YB:Type:=Int×Unit
abbrev YI:Type:=Int×Unit
abbrev YBs:Type:=List YB×Unit
abbrev Blb:Type:=ByteArray×Int×Unit
abbrev A6:Type:=Int×Int×Unit
abbrev Ge:Type:=(List YB)×Int×Unit
abbrev Dk:Type:=Int×(List YI)×Unit
abbrev Brv:Type:=Int×Int×Bool×Int×Unit
abbrev Aw:Type:=(List YB)×Int×Int×Unit
abbrev Am:Type:=Int×Int×Int×Int×Unit
abbrev Qv:Type:=(List YI)×(List YB)×Int×Unit
abbrev A8:Type:=Int×Int×(List YB)×Int×Unit
abbrev YEp:Type:=Int×(List YB)×Int×Int×(List YI)×Unit
abbrev Bn:Type:=Int×Int×(List A8)×Unit
abbrev Ax:Type:=Int×Int×Int×(List YB)×(List YB)×Int×Int×(List YB)×(List YB)×Int×Int×Int×Unit
abbrev Ar:Type:=Int×Int×(List YB)×(List YB)×Int×(List YB)×(List YB)×Int×Int×(List YB)×(List YB)×Unit
abbrev Bc:Type:=Int×Int×Int×Int×(List YB)×(List YB)×Int×(List YB)×(List YB)×Int×Int×(List YB)×(List YB)×Unit
abbrev Ap:Type:=Int×(List YB)×Int×(List YB)×Int×Int×(List YI)×Int×(List YB)×Int×Int×(List YI)×Bool×Int×(List YB)×Unit
abbrev Ak:Type:=Int×(List YB)×(List YB)×Int×(List YB)×Int×(List YB)×Int×Int×(List YI)×Int×(List YB)×Int×Int×(List YI)×Bool×Int×(List YB)×Int×Int×(List A8)×Int×Int×Bool×Unit
abbrev Cj:Type:=Int×(List Ak)×Unit
abbrev Bs:Type:=(List YBs)×(List YB)×(List YB)×Int×Int×(List Ak)×(List Am)×Unit
def Bgx (a0:YBs):Tree ((Bool×Unit)):=
 .leaf ((decide ((a0.1.length:Int)>(1048576:Int))),())
def Bg4 (a0:YBs):Option ((Bool×Unit)):=(Bgx a0).val
def Aaw (x1:Aw):Option (Aw⊕(Ge)):=
 Tree.val <|
 .br (decide (x1.2.2.1<(x1.1.length:Int))) (
 .br (decide (x1.2.2.1<(4000:Int))) (
 .ob (idx x1.1 x1.2.2.1) fun e2=>
 .leaf (.inl (x1.1,(i64.wrap ((BitVec.ofInt (i64.bits) ((i64.wrap ((i64.wrap ((i64.wrap (x1.2.1*(137:Int)))+(i64.wrap (e2.1))))+(11:Int)))) &&& BitVec.ofInt (i64.bits) ((1073741823:Int))).toNat:Nat)),(i64.wrap (x1.2.2.1+(1:Int))),()))) (
 .leaf (.inr (x1.1,x1.2.1,())))) (
 .leaf (.inr (x1.1,x1.2.1,())))
def Asr (a0:YBs):Tree (Aw):=
 .ob (Ay Aaw (a0.1,(i64.wrap ((127812:Int)+(a0.1.length:Int))),(0:Int),())) fun o3=>
 .leaf (o3.1,(0:Int),o3.2.1,())
def Auq (a0:YBs):Option (Aw):=(Asr a0).val
def Am6 (a0:Aw):Tree (YI×Aw):=
 letI u1:=a0.2.2;.br (decide (a0.2.1<(a0.1.length:Int))) (
 .ob (idx a0.1 a0.2.1) fun e1=>
 .leaf (((i64.wrap ((BitVec.ofInt (i64.bits) ((i64.wrap ((i64.wrap ((BitVec.ofInt (i64.bits) ((i64.wrap ((BitVec.ofInt (i64.bits) ((Int.fdiv (i64.wrap ((i64.wrap (u1.1*(6364136223846793005:Int)))+(1442695040888963407:Int))) (2^(min ((33:Int)).toNat i64.bits)))) ^^^ BitVec.ofInt (i64.bits) ((Int.fdiv (i64.wrap ((i64.wrap (u1.1*(6364136223846793005:Int)))+(1442695040888963407:Int))) (2^(min ((47:Int)).toNat i64.bits))))).toNat:Nat))) &&& BitVec.ofInt (i64.bits) ((255:Int))).toNat:Nat))+(i64.wrap (e1.1))))) &&& BitVec.ofInt (i64.bits) ((255:Int))).toNat:Nat)),()),(a0.1,(i64.wrap (a0.2.1+(1:Int))),(i64.wrap ((i64.wrap (u1.1*(6364136223846793005:Int)))+(1442695040888963407:Int))),()))) (
 .leaf (((i64.wrap ((BitVec.ofInt (i64.bits) ((i64.wrap ((BitVec.ofInt (i64.bits) ((Int.fdiv (i64.wrap ((i64.wrap (u1.1*(6364136223846793005:Int)))+(1442695040888963407:Int))) (2^(min ((33:Int)).toNat i64.bits)))) ^^^ BitVec.ofInt (i64.bits) ((Int.fdiv (i64.wrap ((i64.wrap (u1.1*(6364136223846793005:Int)))+(1442695040888963407:Int))) (2^(min ((47:Int)).toNat i64.bits))))).toNat:Nat))) &&& BitVec.ofInt (i64.bits) ((255:Int))).toNat:Nat)),()),(a0.1,a0.2.1,(i64.wrap ((i64.wrap (u1.1*(6364136223846793005:Int)))+(1442695040888963407:Int))),())))
def Ke (a0:Aw):Option (YI×Aw):=(Am6 a0).val
def Ai6 (a0:Aw) (a1:YI):Tree (YI×Aw):=
 .br (decide (a1.1<=(0:Int))) (
 .leaf (((0:Int),()),a0)) (
 .br (decide (a1.1<=(256:Int))) (
 .ob (Ke a0) fun r1=>
 .chk (decide ((0:Int)<a1.1)) <|
 .chk (decide ((0:Int)<=r1.1.1)) <|
 .leaf (((r1.1.1%a1.1),()),(a0.1,r1.2.2.1,r1.2.2.2.1,()))) (
 .ob (Ke a0) fun r2=>
 .ob (Ke (a0.1,r2.2.2.1,r2.2.2.2.1,())) fun r3=>
 .ob (Ke (a0.1,r3.2.2.1,r3.2.2.2.1,())) fun r4=>
 .chk (decide ((0:Int)<a1.1)) <|
 .chk (decide ((0:Int)<=(i64.wrap ((i64.wrap ((i64.wrap (r2.1.1*(65536:Int)))+(i64.wrap (r3.1.1*(256:Int)))))+r4.1.1)))) <|
 .leaf ((((i64.wrap ((i64.wrap ((i64.wrap (r2.1.1*(65536:Int)))+(i64.wrap (r3.1.1*(256:Int)))))+r4.1.1))%a1.1),()),(a0.1,r4.2.2.1,r4.2.2.2.1,()))))
def Bi (a0:Aw) (a1:YI):Option (YI×Aw):=(Ai6 a0 a1).val
def Pq (x1:Int×(List YB)×Int×(List YB)×Int×Int×Unit):Option ((Int×(List YB)×Int×(List YB)×Int×Int×Unit)⊕(((List YB)×(List YB)×Int×Int×Unit))):=
 letI u1:=x1.2.2.2;Tree.val <|
 .br (decide (x1.2.2.1<x1.1)) (
 .ob (Ke (u1.1,u1.2.1,u1.2.2.1,())) fun r2=>
 .chk (decide (x1.2.1.length+[((u8.wrap (r2.1.1)),())].length<=4294967296)) <|
 .leaf (.inl (x1.1,(x1.2.1++[((u8.wrap (r2.1.1)),())]),(i64.wrap (x1.2.2.1+(1:Int))),u1.1,r2.2.2.1,r2.2.2.2.1,()))) (
 .leaf (.inr (x1.2.1,u1.1,u1.2.1,u1.2.2.1,())))
def Ai7 (a0:Aw) (a1:YI):Tree (YBs×Aw):=
 .ob (Ay Pq (a1.1,([]:List YB),(0:Int),a0.1,a0.2.1,a0.2.2.1,())) fun o3=>
 .leaf ((o3.1,()),(o3.2.1,o3.2.2.1,o3.2.2.2.1,()))
def Df (a0:Aw) (a1:YI):Option (YBs×Aw):=(Ai7 a0 a1).val
def Lz (x2:(List YBs)×Int×(List YB)×Int×Int×Unit):Option (((List YBs)×Int×(List YB)×Int×Int×Unit)⊕(((List YBs)×(List YB)×Int×Int×Unit))):=
 letI u1:=x2.2.2;Tree.val <|
 .br (decide (x2.2.1>(0:Int))) (
 .ob (Bi (u1.1,u1.2.1,u1.2.2.1,()) ((32:Int),())) fun r3=>
 .ob (Df (u1.1,r3.2.2.1,r3.2.2.2.1,()) ((i64.wrap ((1:Int)+r3.1.1)),())) fun r4=>
 .chk (decide (x2.1.length+[r4.1].length<=4294967296)) <|
 .leaf (.inl ((x2.1++[r4.1]),(i64.wrap (x2.2.1-(1:Int))),u1.1,r4.2.2.1,r4.2.2.2.1,()))) (
 .leaf (.inr (x2.1,u1.1,u1.2.1,u1.2.2.1,())))
def Aay (a0:Aw):Tree (((List YBs)×Unit)×Aw):=
 .ob (Bi a0 ((3:Int),())) fun r1=>
 .ob (Ay Lz (([]:List YBs),(i64.wrap ((1:Int)+r1.1.1)),a0.1,r1.2.2.1,r1.2.2.2.1,())) fun o5=>
 .leaf ((o5.1,()),(o5.2.1,o5.2.2.1,o5.2.2.2.1,()))
def Uk (a0:Aw):Option (((List YBs)×Unit)×Aw):=(Aay a0).val
def Ai8 (a0:Ge):Tree (Ge):=
 .chk (decide (([]:List YB).length+a0.1.length<=4294967296)) <|
 .leaf ((([]:List YB)++a0.1),a0.2.1,())
def Akg (a0:Ge):Option (Ge):=(Ai8 a0).val
def Azl (a0:YI) (a1:YI) (a2:YI):Tree ((Bool×Unit)):=
 .br (decide (a0.1≥a1.1)) (
 .leaf ((decide (a0.1<=a2.1)),())) (
 .leaf (false,()))
def Bt (a0:YI) (a1:YI) (a2:YI):Option ((Bool×Unit)):=(Azl a0 a1 a2).val
def Am8 (a0:Ge):Tree ((Bool×Unit)):=
 .ob (Bt ((a0.1.length:Int),()) ((1:Int),()) ((32:Int),())) fun r1=>
 .br r1.1 (
 .ob (Bt (a0.2.1,()) ((0:Int),()) ((10000:Int),())) fun r2=>
 .leaf r2) (
 .leaf (false,()))
def Adv (a0:Ge):Option ((Bool×Unit)):=(Am8 a0).val
def Wr (x1:Int×(List YB)×Int×Unit):Option ((Int×(List YB)×Int×Unit)⊕(YBs)):=
 letI u1:=x1.2.2;Tree.val <|
 .br (decide (u1.1≥(0:Int))) (
 .chk (decide ((0:Int)<=(i64.wrap ((8:Int)*u1.1)))) <|
 .chk (decide (x1.2.1.length+[((u8.wrap ((i64.wrap ((BitVec.ofInt (i64.bits) ((Int.fdiv x1.1 (2^(min ((i64.wrap ((8:Int)*u1.1))).toNat i64.bits)))) &&& BitVec.ofInt (i64.bits) ((255:Int))).toNat:Nat)))),())].length<=4294967296)) <|
 .leaf (.inl (x1.1,(x1.2.1++[((u8.wrap ((i64.wrap ((BitVec.ofInt (i64.bits) ((Int.fdiv x1.1 (2^(min ((i64.wrap ((8:Int)*u1.1))).toNat i64.bits)))) &&& BitVec.ofInt (i64.bits) ((255:Int))).toNat:Nat)))),())]),(i64.wrap (u1.1-(1:Int))),()))) (
 .leaf (.inr (x1.2.1,())))
def Azm (a0:YBs) (a1:YI) (a2:YI):Tree (YBs):=
 .chk (decide (([]:List YB).length+a0.1.length<=4294967296)) <|
 .br (decide (a2.1<(1:Int))) (
 .leaf ((([]:List YB)++a0.1),())) (
 .br (decide (a2.1>(6:Int))) (
 .leaf ((([]:List YB)++a0.1),())) (
 .ob (Ay Wr (a1.1,(([]:List YB)++a0.1),(i64.wrap (a2.1-(1:Int))),())) fun o2=>
 .leaf o2))
def Ep (a0:YBs) (a1:YI) (a2:YI):Option (YBs):=(Azm a0 a1 a2).val
def Ass (x1:Int×(List YB)×Unit):Option ((Int×(List YB)×Unit)⊕((Int×(List YB)×Unit))):=
 Tree.val <|
 .chk (decide ((0:Int)<=(i64.wrap ((i64.wrap (x1.1+(x1.2.1.length:Int)))+(8:Int))))) <|
 .br (((i64.wrap ((i64.wrap (x1.1+(x1.2.1.length:Int)))+(8:Int)))%(64:Int)) != (0:Int)) (
 .chk (decide (x1.2.1.length+[((0:Int),())].length<=4294967296)) <|
 .leaf (.inl (x1.1,(x1.2.1++[((0:Int),())]),()))) (
 .leaf (.inr x1))
def A41 (a0:YI):Tree (YBs):=
 .br (decide (a0.1<(0:Int))) (
 .leaf (([]:List YB),())) (
 .br (decide (a0.1>(1048576:Int))) (
 .leaf (([]:List YB),())) (
 .ob (Ay Ass (a0.1,[((128:Int),())],())) fun o2=>
 .ob (Ep (o2.2.1,()) ((0:Int),()) ((4:Int),())) fun r3=>
 .ob (Ep r3 ((i64.wrap ((8:Int)*o2.1)),()) ((4:Int),())) fun r4=>
 .leaf r4))
def A5y (a0:YI):Option (YBs):=(A41 a0).val
def A69:Tree (((List YI)×Unit)):=
 .leaf ([((1779033703:Int),()),((3144134277:Int),()),((1013904242:Int),()),((2773480762:Int),()),((1359893119:Int),()),((2600822924:Int),()),((528734635:Int),()),((1541459225:Int),())],())
def A75:Option (((List YI)×Unit)):=(A69).val
def Pr (x1:(List YI)×Int×Unit):Option (((List YI)×Int×Unit)⊕((Bool×Unit)⊕((List YI)×Unit))):=
 Tree.val <|
 .br (decide (x1.2.1<(x1.1.length:Int))) (
 .ob (idx x1.1 x1.2.1) fun e2=>
 .ob (Bt e2 ((0:Int),()) ((4294967295:Int),())) fun r3=>
 .br (!r3.1) (
 .leaf (.inr (.inl (false,())))) (
 .leaf (.inl (x1.1,(i64.wrap (x1.2.1+(1:Int))),())))) (
 .leaf (.inr (.inr (x1.1,()))))
def Ai9 (a0:(List YI)×Unit):Tree ((Bool×Unit)):=
 .ob (Ay Pr (a0.1,(0:Int),())) fun o4=>
 .sm o4 (fun o5=>
 .leaf o5) (fun o6=>
 .leaf (((o6.1.length:Int)==(8:Int)),()))
def Akh (a0:(List YI)×Unit):Option ((Bool×Unit)):=(Ai9 a0).val
def Bg0:Tree (((List YI)×Unit)):=
 .leaf ([((1116352408:Int),()),((1899447441:Int),()),((3049323471:Int),()),((3921009573:Int),()),((961987163:Int),()),((1508970993:Int),()),((2453635748:Int),()),((2870763221:Int),()),((3624381080:Int),()),((310598401:Int),()),((607225278:Int),()),((1426881987:Int),()),((1925078388:Int),()),((2162078206:Int),()),((2614888103:Int),()),((3248222580:Int),()),((3835390401:Int),()),((4022224774:Int),()),((264347078:Int),()),((604807628:Int),()),((770255983:Int),()),((1249150122:Int),()),((1555081692:Int),()),((1996064986:Int),()),((2554220882:Int),()),((2821834349:Int),()),((2952996808:Int),()),((3210313671:Int),()),((3336571891:Int),()),((3584528711:Int),()),((113926993:Int),()),((338241895:Int),()),((666307205:Int),()),((773529912:Int),()),((1294757372:Int),()),((1396182291:Int),()),((1695183700:Int),()),((1986661051:Int),()),((2177026350:Int),()),((2456956037:Int),()),((2730485921:Int),()),((2820302411:Int),()),((3259730800:Int),()),((3345764771:Int),()),((3516065817:Int),()),((3600352804:Int),()),((4094571909:Int),()),((275423344:Int),()),((430227734:Int),()),((506948616:Int),()),((659060556:Int),()),((883997877:Int),()),((958139571:Int),()),((1322822218:Int),()),((1537002063:Int),()),((1747873779:Int),()),((1955562222:Int),()),((2024104815:Int),()),((2227730452:Int),()),((2361852424:Int),()),((2428436474:Int),()),((2756734187:Int),()),((3204031479:Int),()),((3329325298:Int),())],())
def Bg5:Option (((List YI)×Unit)):=(Bg0).val
def Sw (x1:(List YB)×Int×Int×Int×Int×Unit):Option (((List YB)×Int×Int×Int×Int×Unit)⊕((Int×Int×Int×Unit))):=
 letI u1:=x1.2.2;Tree.val <|
 .br (decide (u1.2.2.1<u1.1)) (
 .ob (idx x1.1 (i64.wrap (x1.2.1+u1.2.2.1))) fun e2=>
 .leaf (.inl (x1.1,x1.2.1,u1.1,(i64.wrap ((i64.wrap (u1.2.1*(256:Int)))+(i64.wrap (e2.1)))),(i64.wrap (u1.2.2.1+(1:Int))),()))) (
 .leaf (.inr (x1.2.1,u1.1,u1.2.1,())))
def Azn (a0:YBs) (a1:YI) (a2:YI):Tree (YI×YI×(Bool×Unit)):=
 .br (decide (a2.1<(1:Int))) (
 .leaf (((0:Int),()),((0:Int),()),(false,()))) (
 .br (decide (a2.1>(6:Int))) (
 .leaf (((0:Int),()),((0:Int),()),(false,()))) (
 .br (decide (a1.1<(0:Int))) (
 .leaf (((0:Int),()),((0:Int),()),(false,()))) (
 .br (decide (a1.1>(i64.wrap ((a0.1.length:Int)-a2.1)))) (
 .leaf (((0:Int),()),((0:Int),()),(false,()))) (
 .ob (Ay Sw (a0.1,a1.1,a2.1,(0:Int),(0:Int),())) fun o3=>
 .leaf ((o3.2.2.1,()),((i64.wrap (o3.1+o3.2.1)),()),(true,()))))))
def A0l (a0:YBs) (a1:YI) (a2:YI):Option (YI×YI×(Bool×Unit)):=(Azn a0 a1 a2).val
def A43 (a0:YI) (a1:YI):Tree (YI):=
 .br (decide (a1.1<(1:Int))) (
 .leaf ((i64.wrap ((BitVec.ofInt (i64.bits) (a0.1) &&& BitVec.ofInt (i64.bits) ((4294967295:Int))).toNat:Nat)),())) (
 .br (decide (a1.1>(31:Int))) (
 .leaf ((i64.wrap ((BitVec.ofInt (i64.bits) (a0.1) &&& BitVec.ofInt (i64.bits) ((4294967295:Int))).toNat:Nat)),())) (
 .chk (decide ((0:Int)<=a1.1)) <|
 .chk (decide ((0:Int)<=(i64.wrap ((32:Int)-a1.1)))) <|
 .leaf ((i64.wrap ((BitVec.ofInt (i64.bits) ((i64.wrap ((BitVec.ofInt (i64.bits) ((Int.fdiv (i64.wrap ((BitVec.ofInt (i64.bits) (a0.1) &&& BitVec.ofInt (i64.bits) ((4294967295:Int))).toNat:Nat)) (2^(min (a1.1).toNat i64.bits)))) ||| BitVec.ofInt (i64.bits) ((i64.wrap ((i64.wrap ((BitVec.ofInt (i64.bits) (a0.1) &&& BitVec.ofInt (i64.bits) ((4294967295:Int))).toNat:Nat))*2^(min ((i64.wrap ((32:Int)-a1.1))).toNat i64.bits))))).toNat:Nat))) &&& BitVec.ofInt (i64.bits) ((4294967295:Int))).toNat:Nat)),())))
def Mf (a0:YI) (a1:YI):Option (YI):=(A43 a0 a1).val
def Kx (x1:(List YB)×(List YI)×Int×Unit):Option (((List YB)×(List YI)×Int×Unit)⊕(((List YI)×Unit))):=
 Tree.val <|
 .br (decide (x1.2.2.1<(16:Int))) (
 .ob (A0l (x1.1,()) ((i64.wrap ((4:Int)*x1.2.2.1)),()) ((4:Int),())) fun r2=>
 .chk (decide (x1.2.1.length+[r2.1].length<=4294967296)) <|
 .leaf (.inl (x1.1,(x1.2.1++[r2.1]),(i64.wrap (x1.2.2.1+(1:Int))),()))) (
 .leaf (.inr (x1.2.1,())))
def Jp (x4:(List YI)×Int×Unit):Option (((List YI)×Int×Unit)⊕(((List YI)×Unit))):=
 Tree.val <|
 .br (decide (x4.2.1<(64:Int))) (
 .ob (idx x4.1 (i64.wrap (x4.2.1-(15:Int)))) fun e5=>
 .ob (idx x4.1 (i64.wrap (x4.2.1-(2:Int)))) fun e6=>
 .ob (Mf e5 ((7:Int),())) fun r7=>
 .ob (Mf e5 ((18:Int),())) fun r8=>
 .ob (Mf e6 ((17:Int),())) fun r9=>
 .ob (Mf e6 ((19:Int),())) fun r10=>
 .ob (idx x4.1 (i64.wrap (x4.2.1-(7:Int)))) fun e11=>
 .ob (idx x4.1 (i64.wrap (x4.2.1-(16:Int)))) fun e12=>
 .chk (decide (x4.1.length+[((i64.wrap ((BitVec.ofInt (i64.bits) ((i64.wrap ((i64.wrap ((i64.wrap (e11.1+e12.1))+(i64.wrap ((BitVec.ofInt (i64.bits) ((i64.wrap ((BitVec.ofInt (i64.bits) (r7.1) ^^^ BitVec.ofInt (i64.bits) (r8.1)).toNat:Nat))) ^^^ BitVec.ofInt (i64.bits) ((Int.fdiv e5.1 (2^(min ((3:Int)).toNat i64.bits))))).toNat:Nat))))+(i64.wrap ((BitVec.ofInt (i64.bits) ((i64.wrap ((BitVec.ofInt (i64.bits) (r9.1) ^^^ BitVec.ofInt (i64.bits) (r10.1)).toNat:Nat))) ^^^ BitVec.ofInt (i64.bits) ((Int.fdiv e6.1 (2^(min ((10:Int)).toNat i64.bits))))).toNat:Nat))))) &&& BitVec.ofInt (i64.bits) ((4294967295:Int))).toNat:Nat)),())].length<=4294967296)) <|
 .leaf (.inl ((x4.1++[((i64.wrap ((BitVec.ofInt (i64.bits) ((i64.wrap ((i64.wrap ((i64.wrap (e11.1+e12.1))+(i64.wrap ((BitVec.ofInt (i64.bits) ((i64.wrap ((BitVec.ofInt (i64.bits) (r7.1) ^^^ BitVec.ofInt (i64.bits) (r8.1)).toNat:Nat))) ^^^ BitVec.ofInt (i64.bits) ((Int.fdiv e5.1 (2^(min ((3:Int)).toNat i64.bits))))).toNat:Nat))))+(i64.wrap ((BitVec.ofInt (i64.bits) ((i64.wrap ((BitVec.ofInt (i64.bits) (r9.1) ^^^ BitVec.ofInt (i64.bits) (r10.1)).toNat:Nat))) ^^^ BitVec.ofInt (i64.bits) ((Int.fdiv e6.1 (2^(min ((10:Int)).toNat i64.bits))))).toNat:Nat))))) &&& BitVec.ofInt (i64.bits) ((4294967295:Int))).toNat:Nat)),())]),(i64.wrap (x4.2.1+(1:Int))),()))) (
 .leaf (.inr (x4.1,())))
def Ws (a0:YBs):Tree (((List YI)×Unit)):=
 .br ((a0.1.length:Int) != (64:Int)) (
 .leaf (([]:List YI),())) (
 .ob (Ay Kx (a0.1,([]:List YI),(0:Int),())) fun o3=>
 .ob (Ay Jp (o3.1,(16:Int),())) fun o13=>
 .leaf o13)
def Agh (a0:YBs):Option (((List YI)×Unit)):=(Ws a0).val
def Is (x12:(List YI)×(List YI)×(List YI)×(List YI)×Int×Int×Int×Int×Int×Int×Int×Int×Int×Unit):Option (((List YI)×(List YI)×(List YI)×(List YI)×Int×Int×Int×Int×Int×Int×Int×Int×Int×Unit)⊕(((List YI)×(List YI)×Int×Int×Int×Int×Int×Int×Int×Int×Unit))):=
 letI u1:=x12.2.2;letI u2:=u1.2.2;letI u3:=u2.2.2;letI u4:=u3.2.2;letI u5:=u4.2.2;Tree.val <|
 .br (decide (u5.2.2.1<(64:Int))) (
 .ob (Mf (u4.1,()) ((6:Int),())) fun r13=>
 .ob (Mf (u4.1,()) ((11:Int),())) fun r14=>
 .ob (Mf (u4.1,()) ((25:Int),())) fun r15=>
 .ob (idx u1.1 u5.2.2.1) fun e16=>
 .ob (idx u1.2.1 u5.2.2.1) fun e17=>
 .ob (Mf (u2.1,()) ((2:Int),())) fun r18=>
 .ob (Mf (u2.1,()) ((13:Int),())) fun r19=>
 .ob (Mf (u2.1,()) ((22:Int),())) fun r20=>
 .leaf (.inl (x12.1,x12.2.1,u1.1,u1.2.1,(i64.wrap ((BitVec.ofInt (i64.bits) ((i64.wrap ((i64.wrap ((BitVec.ofInt (i64.bits) ((i64.wrap ((i64.wrap ((i64.wrap ((i64.wrap (u5.2.1+(i64.wrap ((BitVec.ofInt (i64.bits) ((i64.wrap ((BitVec.ofInt (i64.bits) (r13.1) ^^^ BitVec.ofInt (i64.bits) (r14.1)).toNat:Nat))) ^^^ BitVec.ofInt (i64.bits) (r15.1)).toNat:Nat))))+(i64.wrap ((BitVec.ofInt (i64.bits) ((i64.wrap ((BitVec.ofInt (i64.bits) (u4.1) &&& BitVec.ofInt (i64.bits) (u4.2.1)).toNat:Nat))) ^^^ BitVec.ofInt (i64.bits) ((i64.wrap ((BitVec.ofInt (i64.bits) ((i64.wrap ((BitVec.ofInt (i64.bits) (u4.1) ^^^ BitVec.ofInt (i64.bits) ((4294967295:Int))).toNat:Nat))) &&& BitVec.ofInt (i64.bits) (u5.1)).toNat:Nat)))).toNat:Nat))))+e16.1))+e17.1))) &&& BitVec.ofInt (i64.bits) ((4294967295:Int))).toNat:Nat))+(i64.wrap ((BitVec.ofInt (i64.bits) ((i64.wrap ((i64.wrap ((BitVec.ofInt (i64.bits) ((i64.wrap ((BitVec.ofInt (i64.bits) (r18.1) ^^^ BitVec.ofInt (i64.bits) (r19.1)).toNat:Nat))) ^^^ BitVec.ofInt (i64.bits) (r20.1)).toNat:Nat))+(i64.wrap ((BitVec.ofInt (i64.bits) ((i64.wrap ((BitVec.ofInt (i64.bits) ((i64.wrap ((BitVec.ofInt (i64.bits) (u2.1) &&& BitVec.ofInt (i64.bits) (u2.2.1)).toNat:Nat))) ^^^ BitVec.ofInt (i64.bits) ((i64.wrap ((BitVec.ofInt (i64.bits) (u2.1) &&& BitVec.ofInt (i64.bits) (u3.1)).toNat:Nat)))).toNat:Nat))) ^^^ BitVec.ofInt (i64.bits) ((i64.wrap ((BitVec.ofInt (i64.bits) (u2.2.1) &&& BitVec.ofInt (i64.bits) (u3.1)).toNat:Nat)))).toNat:Nat))))) &&& BitVec.ofInt (i64.bits) ((4294967295:Int))).toNat:Nat))))) &&& BitVec.ofInt (i64.bits) ((4294967295:Int))).toNat:Nat)),u2.1,u2.2.1,u3.1,(i64.wrap ((BitVec.ofInt (i64.bits) ((i64.wrap (u3.2.1+(i64.wrap ((BitVec.ofInt (i64.bits) ((i64.wrap ((i64.wrap ((i64.wrap ((i64.wrap (u5.2.1+(i64.wrap ((BitVec.ofInt (i64.bits) ((i64.wrap ((BitVec.ofInt (i64.bits) (r13.1) ^^^ BitVec.ofInt (i64.bits) (r14.1)).toNat:Nat))) ^^^ BitVec.ofInt (i64.bits) (r15.1)).toNat:Nat))))+(i64.wrap ((BitVec.ofInt (i64.bits) ((i64.wrap ((BitVec.ofInt (i64.bits) (u4.1) &&& BitVec.ofInt (i64.bits) (u4.2.1)).toNat:Nat))) ^^^ BitVec.ofInt (i64.bits) ((i64.wrap ((BitVec.ofInt (i64.bits) ((i64.wrap ((BitVec.ofInt (i64.bits) (u4.1) ^^^ BitVec.ofInt (i64.bits) ((4294967295:Int))).toNat:Nat))) &&& BitVec.ofInt (i64.bits) (u5.1)).toNat:Nat)))).toNat:Nat))))+e16.1))+e17.1))) &&& BitVec.ofInt (i64.bits) ((4294967295:Int))).toNat:Nat))))) &&& BitVec.ofInt (i64.bits) ((4294967295:Int))).toNat:Nat)),u4.1,u4.2.1,u5.1,(i64.wrap (u5.2.2.1+(1:Int))),()))) (
 .leaf (.inr (x12.1,x12.2.1,u2.1,u2.2.1,u3.1,u3.2.1,u4.1,u4.2.1,u5.1,u5.2.1,())))
def H8 (x22:(List YI)×(List YI)×(List YI)×Int×Unit):Option (((List YI)×(List YI)×(List YI)×Int×Unit)⊕(((List YI)×Unit))):=
 letI u1:=x22.2.2.2;Tree.val <|
 .br (decide (u1.1<(8:Int))) (
 .ob (idx x22.1 u1.1) fun e23=>
 .ob (idx x22.2.2.1 u1.1) fun e24=>
 .ob (idx x22.2.1 u1.1) fun e25=>
 let q26:=(x22.2.1.set (u1.1).toNat ((i64.wrap ((BitVec.ofInt (i64.bits) ((i64.wrap (e23.1+e24.1))) &&& BitVec.ofInt (i64.bits) ((4294967295:Int))).toNat:Nat)),()))
 .leaf (.inl (x22.1,q26,x22.2.2.1,(i64.wrap (u1.1+(1:Int))),()))) (
 .leaf (.inr (x22.2.1,())))
def Wt (a0:(List YI)×Unit) (a1:YBs):Tree (((List YI)×Unit)):=
 .chk (decide (([]:List YI).length+a0.1.length<=4294967296)) <|
 .ob (Akh a0) fun r1=>
 .br (!r1.1) (
 .leaf ((([]:List YI)++a0.1),())) (
 .br ((a1.1.length:Int) != (64:Int)) (
 .leaf ((([]:List YI)++a0.1),())) (
 .ob Bg5 fun r2=>
 .ob (Agh a1) fun r3=>
 .ob (idx a0.1 (0:Int)) fun e4=>
 .ob (idx a0.1 (1:Int)) fun e5=>
 .ob (idx a0.1 (2:Int)) fun e6=>
 .ob (idx a0.1 (3:Int)) fun e7=>
 .ob (idx a0.1 (4:Int)) fun e8=>
 .ob (idx a0.1 (5:Int)) fun e9=>
 .ob (idx a0.1 (6:Int)) fun e10=>
 .ob (idx a0.1 (7:Int)) fun e11=>
 .ob (Ay Is (a0.1,(([]:List YI)++a0.1),r2.1,r3.1,e4.1,e5.1,e6.1,e7.1,e8.1,e9.1,e10.1,e11.1,(0:Int),())) fun o21=>letI u1:=o21.2.2.2;letI u2:=u1.2.2.2;
 .ob (Ay H8 (o21.1,o21.2.1,[(o21.2.2.1,()),(u1.1,()),(u1.2.1,()),(u1.2.2.1,()),(u2.1,()),(u2.2.1,()),(u2.2.2.1,()),(u2.2.2.2.1,())],(0:Int),())) fun o27=>
 .leaf o27))
def Xf (a0:(List YI)×Unit) (a1:YBs):Option (((List YI)×Unit)):=(Wt a0 a1).val
def Qe (x1:Qv):Option (Qv⊕(YBs)):=
 Tree.val <|
 .br (decide (x1.2.2.1<(8:Int))) (
 .ob (idx x1.1 x1.2.2.1) fun e2=>
 .ob (Ep (x1.2.1,()) e2 ((4:Int),())) fun r3=>
 .leaf (.inl (x1.1,r3.1,(i64.wrap (x1.2.2.1+(1:Int))),()))) (
 .leaf (.inr (x1.2.1,())))
def Asv (a0:(List YI)×Unit):Tree (YBs):=
 .ob (Ay Qe (a0.1,([]:List YB),(0:Int),())) fun o4=>
 .leaf o4
def Aur (a0:(List YI)×Unit):Option (YBs):=(Asv a0).val
def V6 (x3:(List YB)×(List YI)×Int×Unit):Option (((List YB)×(List YI)×Int×Unit)⊕(((List YI)×Unit))):=
 letI u1:=x3.2.2;Tree.val <|
 .br (decide (u1.1<(x3.1.length:Int))) (
 .chk (decide ((0:Int)<=u1.1)) <|
 .chk (decide (u1.1<=(i64.wrap (u1.1+(64:Int))))) <|
 .chk (decide ((i64.wrap (u1.1+(64:Int)))<=(x3.1.length:Int))) <|
 .ob (Xf (x3.2.1,()) (((x3.1.take ((i64.wrap (u1.1+(64:Int)))).toNat).drop (u1.1).toNat),())) fun r4=>
 .leaf (.inl (x3.1,r4.1,(i64.wrap (u1.1+(64:Int))),()))) (
 .leaf (.inr (x3.2.1,())))
def A45 (a0:YBs):Tree (YBs):=
 .br (decide ((a0.1.length:Int)>(1048576:Int))) (
 .leaf (([]:List YB),())) (
 .chk (decide (([]:List YB).length+a0.1.length<=4294967296)) <|
 .ob (A5y ((a0.1.length:Int),())) fun r1=>
 .chk (decide ((([]:List YB)++a0.1).length+r1.1.length<=4294967296)) <|
 .ob A75 fun r2=>
 .ob (Ay V6 (((([]:List YB)++a0.1)++r1.1),r2.1,(0:Int),())) fun o5=>
 .ob (Aur o5) fun r6=>
 .leaf r6)
def Al6 (a0:YBs):Option (YBs):=(A45 a0).val
def Sx (x2:YBs):Option (YBs⊕(YBs)):=
 Tree.val <|
 .br (decide ((x2.1.length:Int)<(64:Int))) (
 .chk (decide (x2.1.length+[((0:Int),())].length<=4294967296)) <|
 .leaf (.inl ((x2.1++[((0:Int),())]),()))) (
 .leaf (.inr x2))
def Ae0 (a0:YBs):Tree (YBs):=
 .br (decide ((a0.1.length:Int)>(1048576:Int))) (
 .leaf (([]:List YB),())) (
 .chk (decide (([]:List YB).length+a0.1.length<=4294967296)) <|
 .br (decide ((a0.1.length:Int)>(64:Int))) (
 .ob (Al6 a0) fun r1=>
 .ob (Ay Sx r1) fun o3=>
 .leaf o3) (
 .ob (Ay Sx ((([]:List YB)++a0.1),())) fun o4=>
 .leaf o4))
def Agi (a0:YBs):Option (YBs):=(Ae0 a0).val
def Sy (x2:(List YB)×(List YB)×(List YB)×(List YB)×Int×Unit):Option (((List YB)×(List YB)×(List YB)×(List YB)×Int×Unit)⊕(((List YB)×(List YB)×(List YB)×Unit))):=
 letI u1:=x2.2.2.2;Tree.val <|
 .br (decide (u1.2.1<(64:Int))) (
 .ob (idx x2.2.1 u1.2.1) fun e3=>
 .chk (decide (x2.2.2.1.length+[((u8.wrap ((BitVec.ofInt (u8.bits) (e3.1) ^^^ BitVec.ofInt (u8.bits) ((54:Int))).toNat:Nat)),())].length<=4294967296)) <|
 .ob (idx x2.2.1 u1.2.1) fun e4=>
 .chk (decide (x2.2.2.2.1.length+[((u8.wrap ((BitVec.ofInt (u8.bits) (e4.1) ^^^ BitVec.ofInt (u8.bits) ((92:Int))).toNat:Nat)),())].length<=4294967296)) <|
 .leaf (.inl (x2.1,x2.2.1,(x2.2.2.1++[((u8.wrap ((BitVec.ofInt (u8.bits) (e3.1) ^^^ BitVec.ofInt (u8.bits) ((54:Int))).toNat:Nat)),())]),(u1.1++[((u8.wrap ((BitVec.ofInt (u8.bits) (e4.1) ^^^ BitVec.ofInt (u8.bits) ((92:Int))).toNat:Nat)),())]),(i64.wrap (u1.2.1+(1:Int))),()))) (
 .leaf (.inr (x2.1,x2.2.2.1,u1.1,())))
def Azq (a0:YBs) (a1:YBs):Tree (YBs):=
 .br (decide ((a0.1.length:Int)>(1048576:Int))) (
 .leaf (([]:List YB),())) (
 .br (decide ((a1.1.length:Int)>(1048512:Int))) (
 .leaf (([]:List YB),())) (
 .ob (Agi a0) fun r1=>
 .ob (Ay Sy (a1.1,r1.1,([]:List YB),([]:List YB),(0:Int),())) fun o5=>
 .chk (decide (o5.2.1.length+o5.1.length<=4294967296)) <|
 .ob (Al6 ((o5.2.1++o5.1),())) fun r6=>
 .chk (decide (o5.2.2.1.length+r6.1.length<=4294967296)) <|
 .ob (Al6 ((o5.2.2.1++r6.1),())) fun r7=>
 .leaf r7))
def Vo (a0:YBs) (a1:YBs):Option (YBs):=(Azq a0 a1).val
def Am9 (a0:YBs) (a1:YI):Tree (YBs):=
 .ob (Bt ((a0.1.length:Int),()) ((1:Int),()) ((32:Int),())) fun r1=>
 .br (!r1.1) (
 .leaf (([]:List YB),())) (
 .ob (Bt a1 ((0:Int),()) ((10000:Int),())) fun r2=>
 .br (!r2.1) (
 .leaf (([]:List YB),())) (
 .ob (Ep ([((114:Int),()),((111:Int),()),((108:Int),()),((108:Int),())],()) a1 ((4:Int),())) fun r3=>
 .ob (Vo a0 r3) fun r4=>
 .chk (decide ((12:Int)<=(r4.1.length:Int))) <|
 .chk (decide (([]:List YB).length+((r4.1.take ((12:Int)).toNat).drop ((0:Int)).toNat).length<=4294967296)) <|
 .leaf ((([]:List YB)++((r4.1.take ((12:Int)).toNat).drop ((0:Int)).toNat)),())))
def Apq (a0:YBs) (a1:YI):Option (YBs):=(Am9 a0 a1).val
def Azr (a0:Ge):Tree (Ge×YBs):=
 .ob (Akg a0) fun r1=>
 .ob (Adv a0) fun r2=>
 .br (!r2.1) (
 .leaf (r1,(([]:List YB),()))) (
 .br (a0.2.1==(10000:Int)) (
 .leaf (r1,(([]:List YB),()))) (
 .ob (Apq (a0.1,()) (a0.2.1,())) fun r3=>
 .leaf ((r1.1,(i64.wrap (a0.2.1+(1:Int))),()),r3)))
def A0m (a0:Ge):Option (Ge×YBs):=(Azr a0).val
def Nq (x2:(List YB)×(List YB)×Int×(List YB)×(List YB)×Int×Unit):Option (((List YB)×(List YB)×Int×(List YB)×(List YB)×Int×Unit)⊕((Int×(List YB)×Unit))):=
 letI u1:=x2.2.2;letI u2:=u1.2.2;Tree.val <|
 .br (decide ((x2.2.2.2.1.length:Int)<u1.1)) (
 .chk (decide (([]:List YB).length+x2.2.2.2.2.1.length<=4294967296)) <|
 .chk (decide ((([]:List YB)++u2.1).length+x2.2.1.length<=4294967296)) <|
 .chk (decide (((([]:List YB)++u2.1)++x2.2.1).length+[((u8.wrap (u2.2.1)),())].length<=4294967296)) <|
 .ob (Vo (x2.1,()) ((((([]:List YB)++u2.1)++x2.2.1)++[((u8.wrap (u2.2.1)),())]),())) fun r3=>
 .chk (decide (x2.2.2.2.1.length+r3.1.length<=4294967296)) <|
 .leaf (.inl (x2.1,x2.2.1,u1.1,(u1.2.1++r3.1),r3.1,(i64.wrap (u2.2.1+(1:Int))),()))) (
 .leaf (.inr (u1.1,u1.2.1,())))
def Ana (a0:YBs) (a1:YBs) (a2:YI):Tree (YBs×(Bool×Unit)):=
 .ob (Bt a2 ((0:Int),()) ((8160:Int),())) fun r1=>
 .br (!r1.1) (
 .leaf ((([]:List YB),()),(false,()))) (
 .br (decide ((a1.1.length:Int)>(100:Int))) (
 .leaf ((([]:List YB),()),(false,()))) (
 .br (decide ((a0.1.length:Int)>(1048576:Int))) (
 .leaf ((([]:List YB),()),(false,()))) (
 .ob (Ay Nq (a0.1,a1.1,a2.1,([]:List YB),([]:List YB),(1:Int),())) fun o4=>
 .chk (decide ((0:Int)<=o4.1)) <|
 .chk (decide (o4.1<=(o4.2.1.length:Int))) <|
 .chk (decide (([]:List YB).length+((o4.2.1.take (o4.1).toNat).drop ((0:Int)).toNat).length<=4294967296)) <|
 .leaf (((([]:List YB)++((o4.2.1.take (o4.1).toNat).drop ((0:Int)).toNat)),()),(true,())))))
def Apr (a0:YBs) (a1:YBs) (a2:YI):Option (YBs×(Bool×Unit)):=(Ana a0 a1 a2).val
def Anb (a0:YBs) (a1:ByteArray×Unit):Tree (YBs):=
 .chk (decide (a1.1.size<=4294967296)) <|
 .ob (Apr a0 ((Kf a1.1),()) ((32:Int),())) fun r1=>
 .leaf r1.1
def Dp (a0:YBs) (a1:ByteArray×Unit):Option (YBs):=(Anb a0 a1).val
def Anc (a0:YBs):Tree (YBs):=
 .br ((a0.1.length:Int) != (12:Int)) (
 .leaf (([]:List YB),())) (
 .ob (Dp a0 ((Da [106,97,114]),())) fun r1=>
 .leaf r1)
def Aps (a0:YBs):Option (YBs):=(Anc a0).val
def Adl (a0:YI):Tree (Cj):=
 .ob (Bt a0 ((1:Int),()) ((6:Int),())) fun r1=>
 .br (!r1.1) (
 .leaf ((0:Int),([]:List Ak),())) (
 .leaf (a0.1,([]:List Ak),()))
def O6 (a0:YI):Option (Cj):=(Adl a0).val
def A7b (a0:YBs):Tree ((Bool×Unit)):=
 .leaf (((a0.1.length:Int)==(32:Int)),())
def Aus (a0:YBs):Option ((Bool×Unit)):=(A7b a0).val
def Wu (x1:Int×Int×Int×(List Ak)×Unit):Option ((Int×Int×Int×(List Ak)×Unit)⊕(YI)):=
 letI u1:=x1.2.2;Tree.val <|
 .br (decide (x1.2.1<(x1.2.2.2.1.length:Int))) (
 .ob (idx u1.2.1 x1.2.1) fun e2=>
 .br (!e2.2.2.2.2.2.2.2.2.2.2.2.2.2.2.2.2.2.2.2.2.2.2.2.1) (
 .leaf (.inl ((i64.wrap (x1.1+(1:Int))),(i64.wrap (x1.2.1+(1:Int))),u1.1,u1.2.1,()))) (
 .leaf (.inl (x1.1,(i64.wrap (x1.2.1+(1:Int))),u1.1,u1.2.1,())))) (
 .leaf (.inr (x1.1,())))
def Azt (a0:Cj):Tree (YI):=
 .ob (Ay Wu ((0:Int),(0:Int),a0.1,a0.2.1,())) fun o3=>
 .leaf o3
def Agj (a0:Cj):Option (YI):=(Azt a0).val
def Ajb (a0:YEp):Tree ((Bool×Unit)):=
 .br (a0.1==(0:Int)) (
 .br ((a0.2.1.length:Int)==(0:Int)) (
 .br (a0.2.2.1==(0:Int)) (
 .br (a0.2.2.2.1==(0:Int)) (
 .leaf (((a0.2.2.2.2.1.length:Int)==(0:Int)),())) (
 .leaf (false,()))) (
 .leaf (false,()))) (
 .leaf (false,()))) (
 .leaf (false,()))
def Ul (a0:YEp):Option ((Bool×Unit)):=(Ajb a0).val
def Acn (a0:Ap):Tree ((Bool×Unit)):=
 letI u1:=a0.2.2.2;letI u2:=u1.2.2.2;letI u3:=u2.2.2.2;.br (a0.1==(0:Int)) (
 .br ((a0.2.1.length:Int)==(0:Int)) (
 .ob (Ul (a0.2.2.1,u1.1,u1.2.1,u1.2.2.1,u2.1,())) fun r1=>
 .br r1.1 (
 .ob (Ul (u2.2.1,u2.2.2.1,u3.1,u3.2.1,u3.2.2.1,())) fun r2=>
 .br r2.1 (
 .br (!u3.2.2.2.1) (
 .br (u3.2.2.2.2.1==(0:Int)) (
 .leaf (((a0.2.2.2.2.2.2.2.2.2.2.2.2.2.2.1.length:Int)==(0:Int)),())) (
 .leaf (false,()))) (
 .leaf (false,()))) (
 .leaf (false,()))) (
 .leaf (false,()))) (
 .leaf (false,()))) (
 .leaf (false,()))
def Ac7 (a0:Ap):Option ((Bool×Unit)):=(Acn a0).val
def Ae1 (a0:YI):Tree (A6):=
 .ob (Bt a0 ((0:Int),()) ((255:Int),())) fun r1=>
 .br (!r1.1) (
 .leaf ((0:Int),(0:Int),())) (
 .leaf ((i64.wrap ((167772160:Int)+a0.1)),(i64.wrap ((7000:Int)+a0.1)),()))
def Ic (a0:YI):Option (A6):=(Ae1 a0).val
def As0 (a0:Dk) (a1:YI):Tree ((Bool×Unit)):=
 .chk (decide ((0:Int)<=a1.1)) <|
 .chk (decide ((0:Int)<=(a1.1%(1024:Int)))) <|
 .ob (idx a0.2.1 ((a1.1%(1024:Int))/(32:Int))) fun e1=>
 .chk (decide ((0:Int)<=(a1.1%(1024:Int)))) <|
 .chk (decide ((0:Int)<=((a1.1%(1024:Int))%(32:Int)))) <|
 .leaf (((i64.wrap ((BitVec.ofInt (i64.bits) ((Int.fdiv e1.1 (2^(min (((a1.1%(1024:Int))%(32:Int))).toNat i64.bits)))) &&& BitVec.ofInt (i64.bits) ((1:Int))).toNat:Nat))==(1:Int)),())
def Ab6 (a0:Dk) (a1:YI):Option ((Bool×Unit)):=(As0 a0 a1).val
def Na (x2:Int×Int×(List YI)×Unit):Option ((Int×Int×(List YI)×Unit)⊕((Bool×Unit)⊕Dk)):=
 Tree.val <|
 .br (decide (x2.1<(32:Int))) (
 .ob (idx x2.2.2.1 x2.1) fun e3=>
 .ob (Bt e3 ((0:Int),()) ((4294967295:Int),())) fun r4=>
 .br (!r4.1) (
 .leaf (.inr (.inl (false,())))) (
 .leaf (.inl ((i64.wrap (x2.1+(1:Int))),x2.2.1,x2.2.2.1,())))) (
 .leaf (.inr (.inr (x2.2.1,x2.2.2.1,()))))
def I9 (x9:Int×Int×(List YI)×Unit):Option ((Int×Int×(List YI)×Unit)⊕((Bool×Unit)⊕(Unit))):=
 Tree.val <|
 .br (decide (x9.1<(1024:Int))) (
 .ob (Ab6 (x9.2.1,x9.2.2.1,()) (x9.1,())) fun r10=>
 .br r10.1 (
 .leaf (.inr (.inl (false,())))) (
 .leaf (.inl ((i64.wrap (x9.1+(1:Int))),x9.2.1,x9.2.2.1,())))) (
 .leaf (.inr (.inr ())))
def Ahq (a0:Dk):Tree ((Bool×Unit)):=
 .br ((a0.2.1.length:Int) != (32:Int)) (
 .leaf (false,())) (
 .ob (Bt (a0.1,()) ((-1:Int),()) ((281474976710655:Int),())) fun r1=>
 .br (!r1.1) (
 .leaf (false,())) (
 .ob (Ay Na ((0:Int),a0.1,a0.2.1,())) fun o5=>
 .sm o5 (fun o6=>
 .leaf o6) (fun o7=>
 .br (decide (o7.1≥(0:Int))) (
 .ob (Ab6 o7 (o7.1,())) fun r8=>
 .br (!r8.1) (
 .leaf (false,())) (
 .ob (Ay I9 ((i64.wrap (o7.1+(1:Int))),o7.1,o7.2.1,())) fun o11=>
 .sm o11 (fun o12=>
 .leaf o12) (fun o13=>
 .leaf (true,())))) (
 .ob (Ay I9 ((i64.wrap (o7.1+(1:Int))),o7.1,o7.2.1,())) fun o14=>
 .sm o14 (fun o15=>
 .leaf o15) (fun o16=>
 .leaf (true,()))))))
def Aia (a0:Dk):Option ((Bool×Unit)):=(Ahq a0).val
def Azu (a0:YEp):Tree ((Bool×Unit)):=
 .ob (Bt (a0.1,()) ((0:Int),()) ((4294967295:Int),())) fun r1=>
 .br r1.1 (
 .br ((a0.2.1.length:Int)==(32:Int)) (
 .ob (Bt (a0.2.2.1,()) ((0:Int),()) ((281474976710656:Int),())) fun r2=>
 .br r2.1 (
 .ob (Aia (a0.2.2.2.1,a0.2.2.2.2.1,())) fun r3=>
 .leaf r3) (
 .leaf (false,()))) (
 .leaf (false,()))) (
 .leaf (false,()))
def Vp (a0:YEp):Option ((Bool×Unit)):=(Azu a0).val
def Anf (a0:Ap):Tree ((Bool×Unit)):=
 letI u1:=a0.2.2;letI u2:=u1.2.2;letI u3:=u2.2.2.2;letI u4:=u3.2.2;letI u5:=u4.2.2;.ob (Bt (a0.1,()) ((0:Int),()) ((1:Int),())) fun r1=>
 .br (!r1.1) (
 .leaf (false,())) (
 .br ((a0.2.1.length:Int) != (12:Int)) (
 .leaf (false,())) (
 .ob (Vp (u1.1,u1.2.1,u2.1,u2.2.1,u2.2.2.1,())) fun r2=>
 .br (!r2.1) (
 .leaf (false,())) (
 .br u5.2.1 (
 .br (a0.1==(0:Int)) (
 .ob (Vp (u3.1,u3.2.1,u4.1,u4.2.1,u5.1,())) fun r3=>
 .br (!r3.1) (
 .leaf (false,())) (
 .br (u3.1 != (i64.wrap (u1.1-(1:Int)))) (
 .leaf (false,())) (
 .ob (Bt (u5.2.2.1,()) ((0:Int),()) ((1000005:Int),())) fun r4=>
 .br (!r4.1) (
 .leaf (false,())) (
 .br ((a0.2.2.2.2.2.2.2.2.2.2.2.2.2.2.1.length:Int)==(0:Int)) (
 .leaf (true,())) (
 .br (a0.1==(0:Int)) (
 .br ((a0.2.2.2.2.2.2.2.2.2.2.2.2.2.2.1.length:Int)==(32:Int)) (
 .leaf ((decide (u1.1<(4294967295:Int))),())) (
 .leaf (false,()))) (
 .leaf (false,()))))))) (
 .ob (Vp (u3.1,u3.2.1,u4.1,u4.2.1,u5.1,())) fun r5=>
 .br (!r5.1) (
 .leaf (false,())) (
 .br (u3.1 != (i64.wrap (u1.1-(1:Int)))) (
 .leaf (false,())) (
 .ob (Bt (u5.2.2.1,()) ((-1:Int),()) ((1000005:Int),())) fun r6=>
 .br (!r6.1) (
 .leaf (false,())) (
 .br ((a0.2.2.2.2.2.2.2.2.2.2.2.2.2.2.1.length:Int)==(0:Int)) (
 .leaf (true,())) (
 .br (a0.1==(0:Int)) (
 .br ((a0.2.2.2.2.2.2.2.2.2.2.2.2.2.2.1.length:Int)==(32:Int)) (
 .leaf ((decide (u1.1<(4294967295:Int))),())) (
 .leaf (false,()))) (
 .leaf (false,())))))))) (
 .ob (Ul (u3.1,u3.2.1,u4.1,u4.2.1,u5.1,())) fun r7=>
 .br (!r7.1) (
 .leaf (false,())) (
 .br (u5.2.2.1 != (0:Int)) (
 .leaf (false,())) (
 .br ((a0.2.2.2.2.2.2.2.2.2.2.2.2.2.2.1.length:Int)==(0:Int)) (
 .leaf (true,())) (
 .br (a0.1==(0:Int)) (
 .br ((a0.2.2.2.2.2.2.2.2.2.2.2.2.2.2.1.length:Int)==(32:Int)) (
 .leaf ((decide (u1.1<(4294967295:Int))),())) (
 .leaf (false,()))) (
 .leaf (false,())))))))))
def Kg (a0:Ap):Option ((Bool×Unit)):=(Anf a0).val
def A17 (a0:YBs) (a1:YBs):Tree ((Bool×Unit)):=
 .leaf ((decide ((T0 a0.1)=(T0 a1.1))),())
def Tc (a0:YBs) (a1:YBs):Option ((Bool×Unit)):=(A17 a0 a1).val
def Anh (a0:A6):Tree ((Bool×Unit)):=
 .ob (Bt (a0.1,()) ((0:Int),()) ((4294967295:Int),())) fun r1=>
 .br r1.1 (
 .ob (Bt (a0.2.1,()) ((0:Int),()) ((65535:Int),())) fun r2=>
 .leaf r2) (
 .leaf (false,()))
def Hl (a0:A6):Option ((Bool×Unit)):=(Anh a0).val
def It (x6:Int×Int×Int×Int×(List A8)×Int×Int×(List YB)×Int×Unit):Option ((Int×Int×Int×Int×(List A8)×Int×Int×(List YB)×Int×Unit)⊕((Bool×Unit)⊕(Int×Int×Int×(List A8)×Unit))):=
 letI u1:=x6.2.2;letI u2:=u1.2.2;Tree.val <|
 .br (decide (x6.2.1<x6.1)) (
 .ob (idx u2.1 x6.2.1) fun e7=>
 .br (and (e7.1==u2.2.1) (and (e7.2.1==u2.2.2.1) true)) (
 .leaf (.inr (.inl (false,())))) (
 .leaf (.inl (x6.1,(i64.wrap (x6.2.1+(1:Int))),u1.1,u1.2.1,u2.1,u2.2.1,u2.2.2.1,u2.2.2.2.1,u2.2.2.2.2.1,())))) (
 .leaf (.inr (.inr (x6.1,u1.1,u1.2.1,u2.1,()))))
def L0 (x2:Int×Int×Int×(List A8)×Unit):Option ((Int×Int×Int×(List A8)×Unit)⊕((Bool×Unit)⊕(Unit))):=
 Tree.val <|
 .br (decide (x2.1<(x2.2.2.2.1.length:Int))) (
 .ob (idx x2.2.2.2.1 x2.1) fun e3=>
 .ob (Hl (e3.1,e3.2.1,())) fun r4=>
 .br (!r4.1) (
 .leaf (.inr (.inl (false,())))) (
 .br ((e3.2.2.1.length:Int) != (12:Int)) (
 .leaf (.inr (.inl (false,())))) (
 .ob (Bt (e3.2.2.2.1,()) ((0:Int),()) ((1000006:Int),())) fun r5=>
 .br (!r5.1) (
 .leaf (.inr (.inl (false,())))) (
 .br (and (e3.1==x2.2.1) (and (e3.2.1==x2.2.2.1) true)) (
 .leaf (.inr (.inl (false,())))) (
 .ob (Ay It (x2.1,(0:Int),x2.2.1,x2.2.2.1,x2.2.2.2.1,e3.1,e3.2.1,e3.2.2.1,e3.2.2.2.1,())) fun o8=>
 .sm o8 (fun o9=>
 .leaf (.inr (.inl o9))) (fun o10=>
 .leaf (.inl ((i64.wrap (o10.1+(1:Int))),o10.2.1,o10.2.2.1,o10.2.2.2.1,())))))))) (
 .leaf (.inr (.inr ())))
def Aa0 (a0:Bn):Tree ((Bool×Unit)):=
 .ob (Hl (a0.1,a0.2.1,())) fun r1=>
 .br (!r1.1) (
 .leaf (false,())) (
 .br (decide ((a0.2.2.1.length:Int)>(3:Int))) (
 .leaf (false,())) (
 .ob (Ay L0 ((0:Int),a0.1,a0.2.1,a0.2.2.1,())) fun o11=>
 .sm o11 (fun o12=>
 .leaf o12) (fun o13=>
 .leaf (true,()))))
def Ql (a0:Bn):Option ((Bool×Unit)):=(Aa0 a0).val
def Ani (a0:Ak):Tree ((Bool×Unit)):=
 letI u1:=a0.2.2.2;letI u2:=u1.2.2;letI u3:=u2.2.2;letI u4:=u3.2.2;letI u5:=u4.2.2;letI u6:=u5.2.2;letI u7:=u6.2.2;letI u8:=u7.2.2.2;letI u9:=u8.2.2.2;.ob (Bt (a0.1,()) ((1:Int),()) ((9:Int),())) fun r1=>
 .br (!r1.1) (
 .leaf (false,())) (
 .br ((a0.2.1.length:Int) != (12:Int)) (
 .leaf (false,())) (
 .br ((a0.2.2.1.length:Int) != (12:Int)) (
 .leaf (false,())) (
 .ob (Bt (u9.1,()) ((0:Int),()) ((1000000:Int),())) fun r2=>
 .br (!r2.1) (
 .leaf (false,())) (
 .ob (Bt (u9.2.1,()) ((0:Int),()) ((1000000:Int),())) fun r3=>
 .br (!r3.1) (
 .leaf (false,())) (
 .br u9.2.2.1 (
 .ob (Ac7 (u1.1,u1.2.1,u2.1,u2.2.1,u3.1,u3.2.1,u4.1,u4.2.1,u5.1,u5.2.1,u6.1,u6.2.1,u7.1,u7.2.1,u7.2.2.1,())) fun r4=>
 .br r4.1 (
 .ob (Ic ((-1:Int),())) fun r5=>
 .br (and (u8.1==r5.1) (and (u8.2.1==r5.2.1) true)) (
 .br ((a0.2.2.2.2.2.2.2.2.2.2.2.2.2.2.2.2.2.2.2.2.1.length:Int)==(0:Int)) (
 .leaf ((u9.2.1==(0:Int)),())) (
 .leaf (false,()))) (
 .leaf (false,()))) (
 .leaf (false,()))) (
 .ob (Kg (u1.1,u1.2.1,u2.1,u2.2.1,u3.1,u3.2.1,u4.1,u4.2.1,u5.1,u5.2.1,u6.1,u6.2.1,u7.1,u7.2.1,u7.2.2.1,())) fun r6=>
 .br r6.1 (
 .br (u1.1==(1:Int)) (
 .ob (Tc (u1.2.1,()) (a0.2.2.1,())) fun r7=>
 .br r7.1 (
 .ob (Ql (u8.1,u8.2.1,u8.2.2.1,())) fun r8=>
 .leaf r8) (
 .leaf (false,()))) (
 .leaf (false,()))) (
 .leaf (false,()))))))))
def O7 (a0:Ak):Option ((Bool×Unit)):=(Ani a0).val
def Rd (x1:(List YB)×Int×Int×(List Ak)×Unit):Option (((List YB)×Int×Int×(List Ak)×Unit)⊕(YI⊕(Unit))):=
 Tree.val <|
 .br (decide (x1.2.1<(x1.2.2.2.1.length:Int))) (
 .ob (idx x1.2.2.2.1 x1.2.1) fun e2=>
 .ob (Tc (e2.2.2.1,()) (x1.1,())) fun r3=>
 .br r3.1 (
 .leaf (.inr (.inl (x1.2.1,())))) (
 .leaf (.inl (x1.1,(i64.wrap (x1.2.1+(1:Int))),x1.2.2.1,x1.2.2.2.1,())))) (
 .leaf (.inr (.inr ())))
def Ank (a0:Cj) (a1:YBs):Tree (YI):=
 .ob (Ay Rd (a1.1,(0:Int),a0.1,a0.2.1,())) fun o4=>
 .sm o4 (fun o5=>
 .leaf o5) (fun o6=>
 .leaf ((-1:Int),()))
def Adw (a0:Cj) (a1:YBs):Option (YI):=(Ank a0 a1).val
def T9 (x3:Int×Int×(List Ak)×Unit):Option ((Int×Int×(List Ak)×Unit)⊕((Bool×Unit)⊕(Unit))):=
 Tree.val <|
 .br (decide (x3.1<(x3.2.2.1.length:Int))) (
 .ob (idx x3.2.2.1 x3.1) fun e4=>
 .ob (O7 e4) fun r5=>
 .br (!r5.1) (
 .leaf (.inr (.inl (false,())))) (
 .ob (idx x3.2.2.1 x3.1) fun e6=>
 .ob (Adw (x3.2.1,x3.2.2.1,()) (e6.2.2.1,())) fun r7=>
 .br (r7.1 != x3.1) (
 .leaf (.inr (.inl (false,())))) (
 .leaf (.inl ((i64.wrap (x3.1+(1:Int))),x3.2.1,x3.2.2.1,()))))) (
 .leaf (.inr (.inr ())))
def As6 (a0:Cj):Tree ((Bool×Unit)):=
 .ob (Bt (a0.1,()) ((1:Int),()) ((6:Int),())) fun r1=>
 .br (!r1.1) (
 .leaf (false,())) (
 .br (decide ((a0.2.1.length:Int)>(12:Int))) (
 .leaf (false,())) (
 .ob (Agj a0) fun r2=>
 .br (decide (r2.1>a0.1)) (
 .leaf (false,())) (
 .ob (Ay T9 ((0:Int),a0.1,a0.2.1,())) fun o8=>
 .sm o8 (fun o9=>
 .leaf o9) (fun o10=>
 .leaf (true,())))))
def Aib (a0:Cj):Option ((Bool×Unit)):=(As6 a0).val
def H9 (x9:(List Am)×Int×Int×Unit):Option (((List Am)×Int×Int×Unit)⊕((Bool×Unit)⊕((List Am)×Int×Unit))):=
 Tree.val <|
 .br (decide (x9.2.2.1<x9.2.1)) (
 .ob (idx x9.1 x9.2.2.1) fun e10=>
 .ob (idx x9.1 x9.2.1) fun e11=>
 .br (and (e10.1==e11.1) (and (e10.2.1==e11.2.1) true)) (
 .leaf (.inr (.inl (false,())))) (
 .leaf (.inl (x9.1,x9.2.1,(i64.wrap (x9.2.2.1+(1:Int))),())))) (
 .leaf (.inr (.inr (x9.1,x9.2.1,()))))
def Jq (x1:(List Am)×Int×Unit):Option (((List Am)×Int×Unit)⊕((Bool×Unit)⊕(Unit))):=
 Tree.val <|
 .br (decide (x1.2.1<(x1.1.length:Int))) (
 .ob (idx x1.1 x1.2.1) fun e2=>
 .ob (Hl (e2.1,e2.2.1,())) fun r3=>
 .br (!r3.1) (
 .leaf (.inr (.inl (false,())))) (
 .ob (idx x1.1 x1.2.1) fun e4=>
 .ob (Bt (e4.2.2.1,()) ((0:Int),()) ((1000000:Int),())) fun r5=>
 .br (!r5.1) (
 .leaf (.inr (.inl (false,())))) (
 .ob (idx x1.1 x1.2.1) fun e6=>
 .ob (idx x1.1 x1.2.1) fun e7=>
 .ob (Bt (e6.2.2.2.1,()) ((0:Int),()) ((i64.wrap ((3:Int)*e7.2.2.1)),())) fun r8=>
 .br (!r8.1) (
 .leaf (.inr (.inl (false,())))) (
 .ob (Ay H9 (x1.1,x1.2.1,(0:Int),())) fun o12=>
 .sm o12 (fun o13=>
 .leaf (.inr (.inl o13))) (fun o14=>
 .leaf (.inl (o14.1,(i64.wrap (o14.2.1+(1:Int))),()))))))) (
 .leaf (.inr (.inr ())))
def U6 (a0:(List Am)×Unit):Tree ((Bool×Unit)):=
 .br (decide ((a0.1.length:Int)>(8:Int))) (
 .leaf (false,())) (
 .ob (Ay Jq (a0.1,(0:Int),())) fun o15=>
 .sm o15 (fun o16=>
 .leaf o16) (fun o17=>
 .leaf (true,())))
def Mg (a0:(List Am)×Unit):Option ((Bool×Unit)):=(U6 a0).val
def As7 (a0:YBs):Tree ((Bool×Unit)):=
 .ob (Bt ((a0.1.length:Int),()) ((1:Int),()) ((32:Int),())) fun r1=>
 .leaf r1
def Rs (a0:YBs):Option ((Bool×Unit)):=(As7 a0).val
def Ky (x6:Int×(List YBs)×(List YB)×(List YB)×Int×Int×(List Ak)×(List Am)×Unit):Option ((Int×(List YBs)×(List YB)×(List YB)×Int×Int×(List Ak)×(List Am)×Unit)⊕((Bool×Unit)⊕Bs)):=
 letI u1:=x6.2.2;letI u2:=u1.2.2.2;Tree.val <|
 .br (decide (x6.1<(x6.2.1.length:Int))) (
 .ob (idx x6.2.1 x6.1) fun e7=>
 .ob (Rs e7) fun r8=>
 .br (!r8.1) (
 .leaf (.inr (.inl (false,())))) (
 .leaf (.inl ((i64.wrap (x6.1+(1:Int))),x6.2.1,u1.1,u1.2.1,u1.2.2.1,u2.1,u2.2.1,u2.2.2.1,())))) (
 .leaf (.inr (.inr (x6.2.1,u1.1,u1.2.1,u1.2.2.1,u2.1,u2.2.1,u2.2.2.1,()))))
def Kz (x12:Int×(List YBs)×(List YB)×(List YB)×Int×Int×(List Ak)×(List Am)×Unit):Option ((Int×(List YBs)×(List YB)×(List YB)×Int×Int×(List Ak)×(List Am)×Unit)⊕((Bool×Unit)⊕(Unit))):=
 letI u1:=x12.2.2.2.2;Tree.val <|
 .br (decide (x12.1<(x12.2.2.2.2.2.2.1.length:Int))) (
 .ob (idx u1.2.2.1 x12.1) fun e13=>
 .br (decide (e13.1>(x12.2.1.length:Int))) (
 .leaf (.inr (.inl (false,())))) (
 .leaf (.inl ((i64.wrap (x12.1+(1:Int))),x12.2.1,x12.2.2.1,x12.2.2.2.1,u1.1,u1.2.1,u1.2.2.1,u1.2.2.2.1,())))) (
 .leaf (.inr (.inr ())))
def Wv (a0:Bs):Tree ((Bool×Unit)):=
 letI u1:=a0.2.2;letI u2:=u1.2.2;.ob (Bt ((a0.1.length:Int),()) ((1:Int),()) ((9:Int),())) fun r1=>
 .br (!r1.1) (
 .leaf (false,())) (
 .ob (Aus (a0.2.1,())) fun r2=>
 .br (!r2.1) (
 .leaf (false,())) (
 .ob (Adv (u1.1,u1.2.1,())) fun r3=>
 .br (!r3.1) (
 .leaf (false,())) (
 .ob (Aib (u2.1,u2.2.1,())) fun r4=>
 .br (!r4.1) (
 .leaf (false,())) (
 .ob (Mg (u2.2.2.1,())) fun r5=>
 .br (!r5.1) (
 .leaf (false,())) (
 .ob (Ay Ky ((0:Int),a0.1,a0.2.1,u1.1,u1.2.1,u2.1,u2.2.1,u2.2.2.1,())) fun o9=>
 .sm o9 (fun o10=>
 .leaf o10) (fun o11=>letI u3:=o11.2.2.2;
 .ob (Ay Kz ((0:Int),o11.1,o11.2.1,o11.2.2.1,u3.1,u3.2.1,u3.2.2.1,u3.2.2.2.1,())) fun o14=>
 .sm o14 (fun o15=>
 .leaf o15) (fun o16=>
 .leaf (true,()))))))))
def Agk (a0:Bs):Option ((Bool×Unit)):=(Wv a0).val
def Jr (x4:(List YBs)×Int×(List YBs)×(List YB)×(List YB)×Int×Int×(List Ak)×(List Am)×(List YBs)×(List YB)×(List YB)×Int×Int×(List Ak)×(List Am)×Unit):Option (((List YBs)×Int×(List YBs)×(List YB)×(List YB)×Int×Int×(List Ak)×(List Am)×(List YBs)×(List YB)×(List YB)×Int×Int×(List Ak)×(List Am)×Unit)⊕(((List YBs)×(List YB)×(List YB)×Int×Int×(List Ak)×(List Am)×(List YBs)×(List YB)×(List YB)×Int×Int×(List Ak)×(List Am)×Unit))):=
 letI u1:=x4.2.2;letI u2:=u1.2.2;letI u3:=u2.2.2;letI u4:=u3.2.2;letI u5:=u4.2.2;letI u6:=u5.2.2.2;Tree.val <|
 .br (decide (x4.2.1<(x4.1.length:Int))) (
 .ob (idx x4.1 x4.2.1) fun e5=>
 .chk (decide (([]:List YB).length+e5.1.length<=4294967296)) <|
 .chk (decide (x4.2.2.2.2.2.2.2.2.2.1.length+[((([]:List YB)++e5.1),())].length<=4294967296)) <|
 .leaf (.inl (x4.1,(i64.wrap (x4.2.1+(1:Int))),u1.1,u1.2.1,u2.1,u2.2.1,u3.1,u3.2.1,u4.1,(u4.2.1++[((([]:List YB)++e5.1),())]),u5.1,u5.2.1,u5.2.2.1,u6.1,u6.2.1,u6.2.2.1,()))) (
 .leaf (.inr (u1.1,u1.2.1,u2.1,u2.2.1,u3.1,u3.2.1,u4.1,u4.2.1,u5.1,u5.2.1,u5.2.2.1,u6.1,u6.2.1,u6.2.2.1,())))
def U7 (a0:(List YBs)×Unit) (a1:YBs) (a2:YI):Tree (Bs):=
 .ob (A0m (a1.1,(0:Int),())) fun r1=>
 .ob (Aps r1.2) fun r2=>
 .ob (O6 a2) fun r3=>
 .ob (Ay Jr (a0.1,(0:Int),([]:List YBs),([]:List YB),([]:List YB),(0:Int),(0:Int),([]:List Ak),([]:List Am),([]:List YBs),r2.1,r1.1.1,r1.1.2.1,r3.1,r3.2.1,([]:List Am),())) fun o6=>letI u1:=o6.2.2.2.2.2.2.2;letI u2:=u1.2.2;letI u3:=u2.2.2;
 .ob (Agk (u1.1,u1.2.1,u2.1,u2.2.1,u3.1,u3.2.1,u3.2.2.1,())) fun r7=>
 .br (!r7.1) (
 .leaf (([]:List YBs),([]:List YB),([]:List YB),(0:Int),(0:Int),([]:List Ak),([]:List Am),())) (
 .leaf (u1.1,u1.2.1,u2.1,u2.2.1,u3.1,u3.2.1,u3.2.2.1,()))
def Pz (a0:(List YBs)×Unit) (a1:YBs) (a2:YI):Option (Bs):=(U7 a0 a1 a2).val
def U8 (a0:Aw):Tree (Ar×Aw):=
 .ob (Df a0 ((12:Int),())) fun r1=>
 .ob (Df (a0.1,r1.2.2.1,r1.2.2.2.1,()) ((12:Int),())) fun r2=>
 .ob (Bi (a0.1,r2.2.2.1,r2.2.2.2.1,()) ((300:Int),())) fun r3=>
 .ob (Df (a0.1,r3.2.2.1,r3.2.2.2.1,()) ((16:Int),())) fun r4=>
 .leaf (((2:Int),(0:Int),r1.1.1,r2.1.1,r3.1.1,r4.1.1,([]:List YB),(0:Int),(0:Int),([]:List YB),([]:List YB),()),(a0.1,r4.2.2.1,r4.2.2.2.1,()))
def P0 (a0:Aw):Option (Ar×Aw):=(U8 a0).val
def Anl (a0:YI):Tree ((Bool×Unit)):=
 .ob (Bt a0 ((4:Int),()) ((8:Int),())) fun r1=>
 .leaf r1
def O8 (a0:YI):Option ((Bool×Unit)):=(Anl a0).val
def Ann (a0:YI) (a1:YI):Tree ((Bool×Unit)):=
 .br (a0.1==(4:Int)) (
 .leaf ((decide (a1.1<=(40:Int))),())) (
 .br (a0.1==(5:Int)) (
 .leaf ((a1.1==(12:Int)),())) (
 .br (a0.1==(6:Int)) (
 .leaf ((a1.1==(12:Int)),())) (
 .leaf ((a1.1==(4:Int)),()))))
def Xg (a0:YI) (a1:YI):Option ((Bool×Unit)):=(Ann a0 a1).val
def Ajf (a0:Ar):Tree ((Bool×Unit)):=
 letI u1:=a0.2.2.2.2;letI u2:=u1.2.2.2;.ob (O8 (a0.1,())) fun r1=>
 .br r1.1 (
 .br (a0.2.1==(0:Int)) (
 .br ((a0.2.2.1.length:Int)==(0:Int)) (
 .br ((a0.2.2.2.1.length:Int)==(12:Int)) (
 .br (u1.1==(0:Int)) (
 .br ((a0.2.2.2.2.2.1.length:Int)==(0:Int)) (
 .br ((a0.2.2.2.2.2.2.1.length:Int)==(0:Int)) (
 .ob (Bt (u2.1,()) ((0:Int),()) ((4294967295:Int),())) fun r2=>
 .br r2.1 (
 .ob (Bt (u2.2.1,()) ((0:Int),()) ((281474976710655:Int),())) fun r3=>
 .br r3.1 (
 .ob (Xg (a0.1,()) ((a0.2.2.2.2.2.2.2.2.2.1.length:Int),())) fun r4=>
 .br r4.1 (
 .leaf (((a0.2.2.2.2.2.2.2.2.2.2.1.length:Int)==(16:Int)),())) (
 .leaf (false,()))) (
 .leaf (false,()))) (
 .leaf (false,()))) (
 .leaf (false,()))) (
 .leaf (false,()))) (
 .leaf (false,()))) (
 .leaf (false,()))) (
 .leaf (false,()))) (
 .leaf (false,()))) (
 .br (u2.1 != (0:Int)) (
 .leaf (false,())) (
 .br (u2.2.1 != (0:Int)) (
 .leaf (false,())) (
 .br ((a0.2.2.2.2.2.2.2.2.2.1.length:Int) != (0:Int)) (
 .leaf (false,())) (
 .br ((a0.2.2.2.2.2.2.2.2.2.2.1.length:Int) != (0:Int)) (
 .leaf (false,())) (
 .br ((a0.2.2.1.length:Int) != (12:Int)) (
 .leaf (false,())) (
 .br (a0.1==(1:Int)) (
 .ob (Bt (a0.2.1,()) ((1:Int),()) ((9:Int),())) fun r5=>
 .br r5.1 (
 .br ((a0.2.2.2.1.length:Int)==(0:Int)) (
 .br (u1.1==(0:Int)) (
 .br ((a0.2.2.2.2.2.1.length:Int)==(0:Int)) (
 .leaf (((a0.2.2.2.2.2.2.1.length:Int)==(0:Int)),())) (
 .leaf (false,()))) (
 .leaf (false,()))) (
 .leaf (false,()))) (
 .leaf (false,()))) (
 .br (a0.1==(2:Int)) (
 .br (a0.2.1==(0:Int)) (
 .br ((a0.2.2.2.1.length:Int)==(12:Int)) (
 .ob (Bt (u1.1,()) ((0:Int),()) ((1000000:Int),())) fun r6=>
 .br r6.1 (
 .br ((a0.2.2.2.2.2.1.length:Int)==(16:Int)) (
 .leaf (((a0.2.2.2.2.2.2.1.length:Int)==(0:Int)),())) (
 .leaf (false,()))) (
 .leaf (false,()))) (
 .leaf (false,()))) (
 .leaf (false,()))) (
 .br (a0.1==(3:Int)) (
 .ob (Bt (a0.2.1,()) ((1:Int),()) ((9:Int),())) fun r7=>
 .br r7.1 (
 .br ((a0.2.2.2.1.length:Int)==(12:Int)) (
 .ob (Bt (u1.1,()) ((0:Int),()) ((1000000:Int),())) fun r8=>
 .br r8.1 (
 .br ((a0.2.2.2.2.2.1.length:Int)==(16:Int)) (
 .leaf (((a0.2.2.2.2.2.2.1.length:Int)==(16:Int)),())) (
 .leaf (false,()))) (
 .leaf (false,()))) (
 .leaf (false,()))) (
 .leaf (false,()))) (
 .leaf (false,()))))))))))
def Nd (a0:Ar):Option ((Bool×Unit)):=(Ajf a0).val
def Aa1 (a0:YBs) (a1:YBs):Tree (YBs):=
 .ob (Vo a0 a1) fun r1=>
 .leaf r1
def Abm (a0:YBs) (a1:YBs):Option (YBs):=(Aa1 a0 a1).val
def Acp (a0:YBs):Tree (YBs):=
 .ob (Rs a0) fun r1=>
 .br (!r1.1) (
 .leaf (([]:List YB),())) (
 .ob (Abm ([((114:Int),()),((111:Int),()),((97:Int),()),((109:Int),())],()) a0) fun r2=>
 .ob (Dp r2 ((Da [102,105,110,105,115,104]),())) fun r3=>
 .leaf r3)
def Ac8 (a0:YBs):Option (YBs):=(Acp a0).val
def Acq (a0:YI) (a1:YBs) (a2:YBs) (a3:YI) (a4:YBs):Tree (YBs):=
 .ob (Bt a0 ((1:Int),()) ((9:Int),())) fun r1=>
 .br (!r1.1) (
 .leaf (([]:List YB),())) (
 .br ((a1.1.length:Int) != (12:Int)) (
 .leaf (([]:List YB),())) (
 .br ((a2.1.length:Int) != (12:Int)) (
 .leaf (([]:List YB),())) (
 .ob (Bt a3 ((0:Int),()) ((1000000:Int),())) fun r2=>
 .br (!r2.1) (
 .leaf (([]:List YB),())) (
 .br ((a4.1.length:Int) != (16:Int)) (
 .leaf (([]:List YB),())) (
 .chk (decide ([((102:Int),()),((u8.wrap (a0.1)),())].length+a1.1.length<=4294967296)) <|
 .chk (decide (([((102:Int),()),((u8.wrap (a0.1)),())]++a1.1).length+a2.1.length<=4294967296)) <|
 .ob (Ep ((([((102:Int),()),((u8.wrap (a0.1)),())]++a1.1)++a2.1),()) a3 ((4:Int),())) fun r3=>
 .chk (decide (r3.1.length+a4.1.length<=4294967296)) <|
 .leaf ((r3.1++a4.1),()))))))
def Ac9 (a0:YI) (a1:YBs) (a2:YBs) (a3:YI) (a4:YBs):Option (YBs):=(Acq a0 a1 a2 a3 a4).val
def A5c (a0:YBs) (a1:YBs):Tree (YBs):=
 .ob (Vo a0 a1) fun r1=>
 .br (decide ((r1.1.length:Int)<(16:Int))) (
 .leaf (([]:List YB),())) (
 .chk (decide ((16:Int)<=(r1.1.length:Int))) <|
 .chk (decide (([]:List YB).length+((r1.1.take ((16:Int)).toNat).drop ((0:Int)).toNat).length<=4294967296)) <|
 .leaf ((([]:List YB)++((r1.1.take ((16:Int)).toNat).drop ((0:Int)).toNat)),()))
def Aej (a0:YBs) (a1:YBs):Option (YBs):=(A5c a0 a1).val
def Ata (a0:YBs) (a1:YI) (a2:YBs) (a3:YBs) (a4:YI) (a5:YBs):Tree (YBs):=
 .ob (Ac8 a0) fun r1=>
 .ob (Ac9 a1 a2 a3 a4 a5) fun r2=>
 .br ((r1.1.length:Int)==(0:Int)) (
 .leaf (([]:List YB),())) (
 .br ((r2.1.length:Int)==(0:Int)) (
 .leaf (([]:List YB),())) (
 .ob (Aej r1 r2) fun r3=>
 .leaf r3))
def Ab7 (a0:YBs) (a1:YI) (a2:YBs) (a3:YBs) (a4:YI) (a5:YBs):Option (YBs):=(Ata a0 a1 a2 a3 a4 a5).val
def Anp (a0:Ar):Tree (Ar):=
 letI u1:=a0.2.2.2;letI u2:=u1.2.2.2;.chk (decide (([]:List YB).length+a0.2.2.1.length<=4294967296)) <|
 .chk (decide (([]:List YB).length+a0.2.2.2.1.length<=4294967296)) <|
 .chk (decide (([]:List YB).length+a0.2.2.2.2.2.1.length<=4294967296)) <|
 .chk (decide (([]:List YB).length+a0.2.2.2.2.2.2.1.length<=4294967296)) <|
 .chk (decide (([]:List YB).length+a0.2.2.2.2.2.2.2.2.2.1.length<=4294967296)) <|
 .chk (decide (([]:List YB).length+a0.2.2.2.2.2.2.2.2.2.2.1.length<=4294967296)) <|
 .leaf (a0.1,a0.2.1,(([]:List YB)++a0.2.2.1),(([]:List YB)++u1.1),u1.2.1,(([]:List YB)++u1.2.2.1),(([]:List YB)++u2.1),u2.2.1,u2.2.2.1,(([]:List YB)++u2.2.2.2.1),(([]:List YB)++u2.2.2.2.2.1),())
def Adx (a0:Ar):Option (Ar):=(Anp a0).val
def Rg (a0:YBs) (a1:YI) (a2:Ar):Tree (Ar×(Bool×Unit)):=
 .ob (Nd a2) fun r1=>
 .br (!r1.1) (
 .leaf (((0:Int),(0:Int),([]:List YB),([]:List YB),(0:Int),([]:List YB),([]:List YB),(0:Int),(0:Int),([]:List YB),([]:List YB),()),(false,()))) (
 .br (a2.1 != (2:Int)) (
 .leaf (((0:Int),(0:Int),([]:List YB),([]:List YB),(0:Int),([]:List YB),([]:List YB),(0:Int),(0:Int),([]:List YB),([]:List YB),()),(false,()))) (
 .ob (Ab7 a0 a1 (a2.2.2.1,()) (a2.2.2.2.1,()) (a2.2.2.2.2.1,()) (a2.2.2.2.2.2.1,())) fun r2=>
 .br ((r2.1.length:Int)==(0:Int)) (
 .leaf (((0:Int),(0:Int),([]:List YB),([]:List YB),(0:Int),([]:List YB),([]:List YB),(0:Int),(0:Int),([]:List YB),([]:List YB),()),(false,()))) (
 .ob (Adx a2) fun r3=>letI u1:=r3.2.2.2;letI u2:=u1.2.2.2.2;
 .leaf (((3:Int),a1.1,r3.2.2.1,u1.1,u1.2.1,u1.2.2.1,r2.1,u2.1,u2.2.1,u2.2.2.1,u2.2.2.2.1,()),(true,())))))
def He (a0:YBs) (a1:YI) (a2:Ar):Option (Ar×(Bool×Unit)):=(Rg a0 a1 a2).val
def Ahv (a0:Aw) (a1:(List YI)×Unit):Tree (YI×Aw):=
 .ob (Bi a0 ((a1.1.length:Int),())) fun r1=>
 .ob (idx a1.1 r1.1.1) fun e2=>
 .leaf (e2,(a0.1,r1.2.2.1,r1.2.2.2.1,()))
def Cb (a0:Aw) (a1:(List YI)×Unit):Option (YI×Aw):=(Ahv a0 a1).val
def Ajh (a0:YBs) (a1:YBs) (a2:YBs):Tree (YBs):=
 .ob (Rs a0) fun r1=>
 .br (!r1.1) (
 .leaf (([]:List YB),())) (
 .br ((a1.1.length:Int) != (12:Int)) (
 .leaf (([]:List YB),())) (
 .br ((a2.1.length:Int) != (12:Int)) (
 .leaf (([]:List YB),())) (
 .chk (decide (([]:List YB).length+a1.1.length<=4294967296)) <|
 .chk (decide ((([]:List YB)++a1.1).length+a2.1.length<=4294967296)) <|
 .ob (Abm (((([]:List YB)++a1.1)++a2.1),()) a0) fun r2=>
 .leaf r2)))
def Aki (a0:YBs) (a1:YBs) (a2:YBs):Option (YBs):=(Ajh a0 a1 a2).val
def Ae5 (a0:YBs):Tree (YBs):=
 .br ((a0.1.length:Int) != (32:Int)) (
 .leaf (([]:List YB),())) (
 .ob (Dp a0 ((Da [101,112,111,99,104]),())) fun r1=>
 .leaf r1)
def Agl (a0:YBs):Option (YBs):=(Ae5 a0).val
def Qf (x2:Int×(List YB)×Int×Unit):Option ((Int×(List YB)×Int×Unit)⊕(YBs)):=
 Tree.val <|
 .br (decide (x2.2.2.1<x2.1)) (
 .ob (Dp (x2.2.1,()) ((Da [114,101,107,101,121]),())) fun r3=>
 .leaf (.inl (x2.1,r3.1,(i64.wrap (x2.2.2.1+(1:Int))),()))) (
 .leaf (.inr (x2.2.1,())))
def Atc (a0:YBs) (a1:YI):Tree (YBs):=
 .ob (Bt a1 ((0:Int),()) ((64:Int),())) fun r1=>
 .br (!r1.1) (
 .leaf (([]:List YB),())) (
 .chk (decide (([]:List YB).length+a0.1.length<=4294967296)) <|
 .ob (Ay Qf (a1.1,(([]:List YB)++a0.1),(0:Int),())) fun o4=>
 .leaf o4)
def Aut (a0:YBs) (a1:YI):Option (YBs):=(Atc a0 a1).val
def Ae6 (a0:YBs) (a1:YBs) (a2:YBs) (a3:YI):Tree (YBs):=
 .ob (Aki a0 a1 a2) fun r1=>
 .ob (Agl r1) fun r2=>
 .br ((r2.1.length:Int)==(0:Int)) (
 .leaf r2) (
 .ob (Aut r2 a3) fun r3=>
 .leaf r3)
def Xh (a0:YBs) (a1:YBs) (a2:YBs) (a3:YI):Option (YBs):=(Ae6 a0 a1 a2 a3).val
def Nr (x1:Int×Int×(List YI)×Int×(List YI)×Unit):Option ((Int×Int×(List YI)×Int×(List YI)×Unit)⊕((Int×(List YI)×Int×(List YI)×Unit))):=
 letI u1:=x1.2.2;Tree.val <|
 .br (decide (x1.1<(32:Int))) (
 .chk (decide (x1.2.2.2.2.1.length+[((0:Int),())].length<=4294967296)) <|
 .leaf (.inl ((i64.wrap (x1.1+(1:Int))),x1.2.1,u1.1,u1.2.1,(u1.2.2.1++[((0:Int),())]),()))) (
 .leaf (.inr (x1.2.1,u1.1,u1.2.1,u1.2.2.1,())))
def Anr:Tree (Dk):=
 .ob (Ay Nr ((0:Int),(0:Int),([]:List YI),(-1:Int),([]:List YI),())) fun o2=>
 .leaf (o2.2.2.1,o2.2.2.2.1,())
def Ady:Option (Dk):=(Anr).val
def Abz (a0:YI) (a1:YBs):Tree (YEp):=
 .ob (Bt a0 ((0:Int),()) ((4294967295:Int),())) fun r1=>
 .br (!r1.1) (
 .leaf ((0:Int),([]:List YB),(0:Int),(0:Int),([]:List YI),())) (
 .br ((a1.1.length:Int) != (32:Int)) (
 .leaf ((0:Int),([]:List YB),(0:Int),(0:Int),([]:List YI),())) (
 .chk (decide (([]:List YB).length+a1.1.length<=4294967296)) <|
 .ob Ady fun r2=>
 .leaf (a0.1,(([]:List YB)++a1.1),(0:Int),r2.1,r2.2.1,())))
def Fm (a0:YI) (a1:YBs):Option (YEp):=(Abz a0 a1).val
def Ub (a0:YI) (a1:YBs) (a2:YBs):Tree (Ap):=
 .ob (Bt a0 ((0:Int),()) ((1:Int),())) fun r1=>
 .br (!r1.1) (
 .leaf ((0:Int),([]:List YB),(0:Int),([]:List YB),(0:Int),(0:Int),([]:List YI),(0:Int),([]:List YB),(0:Int),(0:Int),([]:List YI),false,(0:Int),([]:List YB),())) (
 .br ((a1.1.length:Int) != (12:Int)) (
 .leaf ((0:Int),([]:List YB),(0:Int),([]:List YB),(0:Int),(0:Int),([]:List YI),(0:Int),([]:List YB),(0:Int),(0:Int),([]:List YI),false,(0:Int),([]:List YB),())) (
 .br ((a2.1.length:Int) != (32:Int)) (
 .leaf ((0:Int),([]:List YB),(0:Int),([]:List YB),(0:Int),(0:Int),([]:List YI),(0:Int),([]:List YB),(0:Int),(0:Int),([]:List YI),false,(0:Int),([]:List YB),())) (
 .chk (decide (([]:List YB).length+a1.1.length<=4294967296)) <|
 .ob (Fm ((0:Int),()) a2) fun r2=>
 .leaf (a0.1,(([]:List YB)++a1.1),r2.1,r2.2.1,r2.2.2.1,r2.2.2.2.1,r2.2.2.2.2.1,(0:Int),([]:List YB),(0:Int),(0:Int),([]:List YI),false,(0:Int),([]:List YB),()))))
def Hf (a0:YI) (a1:YBs) (a2:YBs):Option (Ap):=(Ub a0 a1 a2).val
def Ae8 (a0:A6):Tree (Bn):=
 .leaf (a0.1,a0.2.1,([]:List A8),())
def Li (a0:A6):Option (Bn):=(Ae8 a0).val
def Qg (a0:YBs) (a1:YI) (a2:A6) (a3:Ar):Tree (Ak):=
 letI u1:=a3.2.2;.ob (Rs a0) fun r1=>
 .br (!r1.1) (
 .leaf ((0:Int),([]:List YB),([]:List YB),(0:Int),([]:List YB),(0:Int),([]:List YB),(0:Int),(0:Int),([]:List YI),(0:Int),([]:List YB),(0:Int),(0:Int),([]:List YI),false,(0:Int),([]:List YB),(0:Int),(0:Int),([]:List A8),(0:Int),(0:Int),false,())) (
 .ob (Bt a1 ((0:Int),()) ((1000000:Int),())) fun r2=>
 .br (!r2.1) (
 .leaf ((0:Int),([]:List YB),([]:List YB),(0:Int),([]:List YB),(0:Int),([]:List YB),(0:Int),(0:Int),([]:List YI),(0:Int),([]:List YB),(0:Int),(0:Int),([]:List YI),false,(0:Int),([]:List YB),(0:Int),(0:Int),([]:List A8),(0:Int),(0:Int),false,())) (
 .ob (Hl a2) fun r3=>
 .br (!r3.1) (
 .leaf ((0:Int),([]:List YB),([]:List YB),(0:Int),([]:List YB),(0:Int),([]:List YB),(0:Int),(0:Int),([]:List YI),(0:Int),([]:List YB),(0:Int),(0:Int),([]:List YI),false,(0:Int),([]:List YB),(0:Int),(0:Int),([]:List A8),(0:Int),(0:Int),false,())) (
 .ob (Nd a3) fun r4=>
 .br (!r4.1) (
 .leaf ((0:Int),([]:List YB),([]:List YB),(0:Int),([]:List YB),(0:Int),([]:List YB),(0:Int),(0:Int),([]:List YI),(0:Int),([]:List YB),(0:Int),(0:Int),([]:List YI),false,(0:Int),([]:List YB),(0:Int),(0:Int),([]:List A8),(0:Int),(0:Int),false,())) (
 .br (a3.1 != (3:Int)) (
 .leaf ((0:Int),([]:List YB),([]:List YB),(0:Int),([]:List YB),(0:Int),([]:List YB),(0:Int),(0:Int),([]:List YI),(0:Int),([]:List YB),(0:Int),(0:Int),([]:List YI),false,(0:Int),([]:List YB),(0:Int),(0:Int),([]:List A8),(0:Int),(0:Int),false,())) (
 .chk (decide (([]:List YB).length+a3.2.2.1.length<=4294967296)) <|
 .chk (decide (([]:List YB).length+a3.2.2.2.1.length<=4294967296)) <|
 .ob (Xh a0 (u1.1,()) (u1.2.1,()) ((0:Int),())) fun r5=>
 .ob (Hf ((1:Int),()) (u1.2.1,()) r5) fun r6=>letI u2:=r6.2.2.2;letI u3:=u2.2.2.2;letI u4:=u3.2.2.2.2;
 .ob (Li a2) fun r7=>
 .leaf (a3.2.1,(([]:List YB)++u1.1),(([]:List YB)++u1.2.1),r6.1,r6.2.1,r6.2.2.1,u2.1,u2.2.1,u2.2.2.1,u3.1,u3.2.1,u3.2.2.1,u3.2.2.2.1,u4.1,u4.2.1,u4.2.2.1,u4.2.2.2.1,u4.2.2.2.2.1,r7.1,r7.2.1,r7.2.2.1,u1.2.2.1,a1.1,false,()))))))
def Ks (a0:YBs) (a1:YI) (a2:A6) (a3:Ar):Option (Ak):=(Qg a0 a1 a2 a3).val
def Anu (a0:Aw) (a1:YI):Tree ((Bool×Unit)×Aw):=
 .ob (Bi a0 a1) fun r1=>
 .leaf (((r1.1.1==(0:Int)),()),(a0.1,r1.2.2.1,r1.2.2.2.1,()))
def Av (a0:Aw) (a1:YI):Option ((Bool×Unit)×Aw):=(Anu a0 a1).val
def Wx (x3:(List YI)×Int×Int×(List YB)×Int×Int×Unit):Option (((List YI)×Int×Int×(List YB)×Int×Int×Unit)⊕(((List YI)×(List YB)×Int×Int×Unit))):=
 letI u1:=x3.2.2.2;Tree.val <|
 .br (decide (x3.2.2.1>(0:Int))) (
 .ob (Av (u1.1,u1.2.1,u1.2.2.1,()) ((6:Int),())) fun r4=>
 .br r4.1.1 (
 .ob (Cb (u1.1,r4.2.2.1,r4.2.2.2.1,()) ([((1:Int),()),((32:Int),()),((900:Int),()),((1023:Int),()),((1024:Int),()),((1025:Int),()),((3000:Int),())],())) fun r5=>
 .ob (Bi (u1.1,r5.2.2.1,r5.2.2.2.1,()) ((40:Int),())) fun r6=>
 .ob (Cb (u1.1,r6.2.2.1,r6.2.2.2.1,()) ([((0:Int),()),((0:Int),()),((20:Int),()),((1000:Int),())],())) fun r7=>
 .chk (decide (x3.1.length+[((i64.wrap ((i64.wrap ((i64.wrap (x3.2.1+r5.1.1))+r6.1.1))-r7.1.1)),())].length<=4294967296)) <|
 .leaf (.inl ((x3.1++[((i64.wrap ((i64.wrap ((i64.wrap (x3.2.1+r5.1.1))+r6.1.1))-r7.1.1)),())]),(i64.wrap (x3.2.1+r5.1.1)),(i64.wrap (x3.2.2.1-(1:Int))),u1.1,r7.2.2.1,r7.2.2.2.1,()))) (
 .ob (Bi (u1.1,r4.2.2.1,r4.2.2.2.1,()) ((40:Int),())) fun r8=>
 .ob (Cb (u1.1,r8.2.2.1,r8.2.2.2.1,()) ([((0:Int),()),((0:Int),()),((20:Int),()),((1000:Int),())],())) fun r9=>
 .chk (decide (x3.1.length+[((i64.wrap ((i64.wrap (x3.2.1+r8.1.1))-r9.1.1)),())].length<=4294967296)) <|
 .leaf (.inl ((x3.1++[((i64.wrap ((i64.wrap (x3.2.1+r8.1.1))-r9.1.1)),())]),x3.2.1,(i64.wrap (x3.2.2.1-(1:Int))),u1.1,r9.2.2.1,r9.2.2.2.1,())))) (
 .leaf (.inr (x3.1,u1.1,u1.2.1,u1.2.2.1,())))
def Anv (a0:Aw) (a1:YI):Tree (((List YI)×Unit)×Aw):=
 .ob (Cb a0 ([((0:Int),()),((0:Int),()),((0:Int),()),((1000:Int),()),((5000:Int),()),((281474976710000:Int),())],())) fun r1=>
 .ob (Bi (a0.1,r1.2.2.1,r1.2.2.2.1,()) ((i64.wrap (a1.1+(1:Int))),())) fun r2=>
 .ob (Ay Wx (([]:List YI),r1.1.1,r2.1.1,a0.1,r2.2.2.1,r2.2.2.2.1,())) fun o10=>
 .ob (Av (o10.2.1,o10.2.2.1,o10.2.2.2.1,()) ((5:Int),())) fun r11=>
 .br r11.1.1 (
 .ob (Cb (o10.2.1,r11.2.2.1,r11.2.2.2.1,()) ([((-1:Int),()),((281474976710655:Int),()),((281474976710656:Int),())],())) fun r12=>
 .chk (decide (o10.1.length+[r12.1].length<=4294967296)) <|
 .leaf (((o10.1++[r12.1]),()),(o10.2.1,r12.2.2.1,r12.2.2.2.1,()))) (
 .leaf ((o10.1,()),(o10.2.1,r11.2.2.1,r11.2.2.2.1,())))
def Apt (a0:Aw) (a1:YI):Option (((List YI)×Unit)×Aw):=(Anv a0 a1).val
def A2d (a0:Dk):Tree (Dk):=
 .chk (decide (([]:List YI).length+a0.2.1.length<=4294967296)) <|
 .leaf (a0.1,(([]:List YI)++a0.2.1),())
def Apu (a0:Dk):Option (Dk):=(A2d a0).val
def Ajj (a0:YI):Tree (YI):=
 .br (decide (a0.1<(1024:Int))) (
 .leaf ((0:Int),())) (
 .leaf ((i64.wrap ((i64.wrap (a0.1-(1024:Int)))+(1:Int))),()))
def Ayt (a0:YI):Option (YI):=(Ajj a0).val
def Anx (a0:Dk) (a1:YI):Tree ((Bool×Unit)):=
 .ob (Aia a0) fun r1=>
 .br (!r1.1) (
 .leaf (false,())) (
 .ob (Bt a1 ((0:Int),()) ((281474976710655:Int),())) fun r2=>
 .br (!r2.1) (
 .leaf (false,())) (
 .br (decide (a1.1>a0.1)) (
 .leaf (true,())) (
 .ob (Ayt (a0.1,())) fun r3=>
 .br (decide (a1.1≥r3.1)) (
 .ob (Ab6 a0 a1) fun r4=>
 .leaf ((!r4.1),())) (
 .leaf (false,())))))
def Adz (a0:Dk) (a1:YI):Option ((Bool×Unit)):=(Anx a0 a1).val
def Ns (x3:Int×Int×Int×Int×(List YI)×Int×(List YI)×Int×(List YI)×Unit):Option ((Int×Int×Int×Int×(List YI)×Int×(List YI)×Int×(List YI)×Unit)⊕((Int×Int×(List YI)×Int×(List YI)×Int×(List YI)×Unit))):=
 letI u1:=x3.2.2;letI u2:=u1.2.2;letI u3:=u2.2.2;Tree.val <|
 .br (decide (u1.1<=x3.1)) (
 .br (decide (x3.2.1<(1024:Int))) (
 .chk (decide ((0:Int)<=u1.1)) <|
 .chk (decide ((0:Int)<=(u1.1%(1024:Int)))) <|
 .chk (decide ((0:Int)<=(u1.1%(1024:Int)))) <|
 .ob (idx u3.2.2.1 ((u1.1%(1024:Int))/(32:Int))) fun e4=>
 .chk (decide ((0:Int)<=(u1.1%(1024:Int)))) <|
 .chk (decide ((0:Int)<=((u1.1%(1024:Int))%(32:Int)))) <|
 .ob (idx u3.2.2.1 ((u1.1%(1024:Int))/(32:Int))) fun e5=>
 let q6:=(x3.2.2.2.2.2.2.2.2.1.set (((u1.1%(1024:Int))/(32:Int))).toNat ((i64.wrap ((BitVec.ofInt (i64.bits) (e4.1) &&& ~~~ BitVec.ofInt (i64.bits) ((i64.wrap ((1:Int)*2^(min (((u1.1%(1024:Int))%(32:Int))).toNat i64.bits))))).toNat:Nat)),()))
 .leaf (.inl (x3.1,(i64.wrap (x3.2.1+(1:Int))),(i64.wrap (u1.1+(1:Int))),u1.2.1,u2.1,u2.2.1,u3.1,u3.2.1,q6,()))) (
 .leaf (.inr (x3.1,u1.2.1,u2.1,u2.2.1,u3.1,u3.2.1,u3.2.2.1,())))) (
 .leaf (.inr (x3.1,u1.2.1,u2.1,u2.2.1,u3.1,u3.2.1,u3.2.2.1,())))
def Any (a0:Dk) (a1:YI):Tree (Dk×(Bool×Unit)):=
 .ob (Apu a0) fun r1=>
 .ob (Adz a0 a1) fun r2=>
 .br (!r2.1) (
 .leaf (r1,(false,()))) (
 .ob (Ay Ns (a1.1,(0:Int),(i64.wrap (a0.1+(1:Int))),a0.1,a0.2.1,(0:Int),([]:List YI),r1.1,r1.2.1,())) fun o7=>letI u1:=o7.2.2.2.2.2;
 .chk (decide ((0:Int)<=o7.1)) <|
 .chk (decide ((0:Int)<=(o7.1%(1024:Int)))) <|
 .chk (decide ((0:Int)<=(o7.1%(1024:Int)))) <|
 .ob (idx u1.2.1 ((o7.1%(1024:Int))/(32:Int))) fun e8=>
 .chk (decide ((0:Int)<=(o7.1%(1024:Int)))) <|
 .chk (decide ((0:Int)<=((o7.1%(1024:Int))%(32:Int)))) <|
 .ob (idx u1.2.1 ((o7.1%(1024:Int))/(32:Int))) fun e9=>
 let q10:=(o7.2.2.2.2.2.2.1.set (((o7.1%(1024:Int))/(32:Int))).toNat ((i64.wrap ((BitVec.ofInt (i64.bits) (e8.1) ||| BitVec.ofInt (i64.bits) ((i64.wrap ((1:Int)*2^(min (((o7.1%(1024:Int))%(32:Int))).toNat i64.bits))))).toNat:Nat)),()))
 .br (decide (o7.1>o7.2.1)) (
 .leaf ((o7.1,q10,()),(true,()))) (
 .leaf ((u1.1,q10,()),(true,()))))
def Xi (a0:Dk) (a1:YI):Option (Dk×(Bool×Unit)):=(Any a0 a1).val
def Uc (x2:(List YI)×Int×Int×(List YI)×Int×(List YI)×Unit):Option (((List YI)×Int×Int×(List YI)×Int×(List YI)×Unit)⊕((Int×(List YI)×Int×(List YI)×Unit))):=
 letI u1:=x2.2.2.2;Tree.val <|
 .br (decide (x2.2.1<(x2.1.length:Int))) (
 .ob (idx x2.1 x2.2.1) fun e3=>
 .ob (Xi (u1.2.1,u1.2.2.1,()) e3) fun r4=>
 .leaf (.inl (x2.1,(i64.wrap (x2.2.1+(1:Int))),x2.2.2.1,u1.1,r4.1.1,r4.1.2.1,()))) (
 .leaf (.inr (x2.2.2.1,u1.1,u1.2.1,u1.2.2.1,())))
def Ahx (a0:(List YI)×Unit):Tree (Dk):=
 .ob Ady fun r1=>
 .ob (Ay Uc (a0.1,(0:Int),(0:Int),([]:List YI),r1.1,r1.2.1,())) fun o5=>
 .leaf (o5.2.2.1,o5.2.2.2.1,())
def Ab8 (a0:(List YI)×Unit):Option (Dk):=(Ahx a0).val
def Adp (a0:Aw):Tree (Dk×Aw):=
 .ob (Apt a0 ((12:Int),())) fun r1=>
 .ob (Ab8 r1.1) fun r2=>
 .leaf (r2,(a0.1,r1.2.2.1,r1.2.2.2.1,()))
def Xj (a0:Aw):Option (Dk×Aw):=(Adp a0).val
def Aa2 (a0:Aw) (a1:YI):Tree (Ap×Aw):=
 .ob (Df a0 ((12:Int),())) fun r1=>
 .ob (Df (a0.1,r1.2.2.1,r1.2.2.2.1,()) ((32:Int),())) fun r2=>
 .ob (Hf a1 r1.1 r2.1) fun r3=>letI u1:=r3.2.2.2;letI u2:=u1.2.2;letI u3:=u2.2.2;letI u4:=u3.2.2;letI u5:=u4.2.2;letI u6:=u5.2.2.2;
 .ob (Cb (a0.1,r2.2.2.1,r2.2.2.2.1,()) ([((0:Int),()),((0:Int),()),((3:Int),()),((281474976709656:Int),()),((281474976710656:Int),())],())) fun r4=>
 .ob (Av (a0.1,r4.2.2.1,r4.2.2.2.1,()) ((3:Int),())) fun r5=>
 .br r5.1.1 (
 .ob (Xj (a0.1,r5.2.2.1,r5.2.2.2.1,())) fun r6=>
 .ob (Av (a0.1,r6.2.2.1,r6.2.2.2.1,()) ((2:Int),())) fun r7=>letI u7:=r7.2.2;
 .br r7.1.1 (
 .ob (Cb (a0.1,u7.1,u7.2.1,()) ([((1:Int),()),((1:Int),()),((2:Int),()),((4294967295:Int),())],())) fun r8=>
 .ob (Dp (u1.1,()) ((Da [114,101,107,101,121]),())) fun r9=>
 .ob (Fm r8.1 r9) fun r10=>letI u8:=r10.2.2;letI u9:=u8.2.2;
 .ob (Cb (a0.1,r8.2.2.1,r8.2.2.2.1,()) ([((-1:Int),()),((0:Int),()),((5:Int),()),((7:Int),()),((1000005:Int),())],())) fun r11=>letI u10:=r11.2.2;
 .br (a1.1==(0:Int)) (
 .br (decide (r11.1.1<(0:Int))) (
 .br (a1.1==(0:Int)) (
 .br (decide (r10.1<(4294967295:Int))) (
 .ob (Av (a0.1,u10.1,u10.2.1,()) ((2:Int),())) fun r12=>
 .br r12.1.1 (
 .ob (Dp (r10.2.1,()) ((Da [114,101,107,101,121]),())) fun r13=>
 .leaf ((r3.1,r3.2.1,r10.1,r10.2.1,u8.1,u8.2.1,u9.1,(i64.wrap (r10.1-(1:Int))),u1.1,r4.1.1,r6.1.1,r6.1.2.1,true,(5:Int),r13.1,()),(a0.1,r12.2.2.1,r12.2.2.2.1,()))) (
 .leaf ((r3.1,r3.2.1,r10.1,r10.2.1,u8.1,u8.2.1,u9.1,(i64.wrap (r10.1-(1:Int))),u1.1,r4.1.1,r6.1.1,r6.1.2.1,true,(5:Int),u6.1,()),(a0.1,r12.2.2.1,r12.2.2.2.1,())))) (
 .leaf ((r3.1,r3.2.1,r10.1,r10.2.1,u8.1,u8.2.1,u9.1,(i64.wrap (r10.1-(1:Int))),u1.1,r4.1.1,r6.1.1,r6.1.2.1,true,(5:Int),u6.1,()),(a0.1,u10.1,u10.2.1,())))) (
 .leaf ((r3.1,r3.2.1,r10.1,r10.2.1,u8.1,u8.2.1,u9.1,(i64.wrap (r10.1-(1:Int))),u1.1,r4.1.1,r6.1.1,r6.1.2.1,true,(5:Int),u6.1,()),(a0.1,u10.1,u10.2.1,())))) (
 .br (a1.1==(0:Int)) (
 .br (decide (r10.1<(4294967295:Int))) (
 .ob (Av (a0.1,u10.1,u10.2.1,()) ((2:Int),())) fun r14=>
 .br r14.1.1 (
 .ob (Dp (r10.2.1,()) ((Da [114,101,107,101,121]),())) fun r15=>
 .leaf ((r3.1,r3.2.1,r10.1,r10.2.1,u8.1,u8.2.1,u9.1,(i64.wrap (r10.1-(1:Int))),u1.1,r4.1.1,r6.1.1,r6.1.2.1,true,r11.1.1,r15.1,()),(a0.1,r14.2.2.1,r14.2.2.2.1,()))) (
 .leaf ((r3.1,r3.2.1,r10.1,r10.2.1,u8.1,u8.2.1,u9.1,(i64.wrap (r10.1-(1:Int))),u1.1,r4.1.1,r6.1.1,r6.1.2.1,true,r11.1.1,u6.1,()),(a0.1,r14.2.2.1,r14.2.2.2.1,())))) (
 .leaf ((r3.1,r3.2.1,r10.1,r10.2.1,u8.1,u8.2.1,u9.1,(i64.wrap (r10.1-(1:Int))),u1.1,r4.1.1,r6.1.1,r6.1.2.1,true,r11.1.1,u6.1,()),(a0.1,u10.1,u10.2.1,())))) (
 .leaf ((r3.1,r3.2.1,r10.1,r10.2.1,u8.1,u8.2.1,u9.1,(i64.wrap (r10.1-(1:Int))),u1.1,r4.1.1,r6.1.1,r6.1.2.1,true,r11.1.1,u6.1,()),(a0.1,u10.1,u10.2.1,()))))) (
 .br (a1.1==(0:Int)) (
 .br (decide (r10.1<(4294967295:Int))) (
 .ob (Av (a0.1,u10.1,u10.2.1,()) ((2:Int),())) fun r16=>
 .br r16.1.1 (
 .ob (Dp (r10.2.1,()) ((Da [114,101,107,101,121]),())) fun r17=>
 .leaf ((r3.1,r3.2.1,r10.1,r10.2.1,u8.1,u8.2.1,u9.1,(i64.wrap (r10.1-(1:Int))),u1.1,r4.1.1,r6.1.1,r6.1.2.1,true,r11.1.1,r17.1,()),(a0.1,r16.2.2.1,r16.2.2.2.1,()))) (
 .leaf ((r3.1,r3.2.1,r10.1,r10.2.1,u8.1,u8.2.1,u9.1,(i64.wrap (r10.1-(1:Int))),u1.1,r4.1.1,r6.1.1,r6.1.2.1,true,r11.1.1,u6.1,()),(a0.1,r16.2.2.1,r16.2.2.2.1,())))) (
 .leaf ((r3.1,r3.2.1,r10.1,r10.2.1,u8.1,u8.2.1,u9.1,(i64.wrap (r10.1-(1:Int))),u1.1,r4.1.1,r6.1.1,r6.1.2.1,true,r11.1.1,u6.1,()),(a0.1,u10.1,u10.2.1,())))) (
 .leaf ((r3.1,r3.2.1,r10.1,r10.2.1,u8.1,u8.2.1,u9.1,(i64.wrap (r10.1-(1:Int))),u1.1,r4.1.1,r6.1.1,r6.1.2.1,true,r11.1.1,u6.1,()),(a0.1,u10.1,u10.2.1,()))))) (
 .br (a1.1==(0:Int)) (
 .br (decide (r3.2.2.1<(4294967295:Int))) (
 .ob (Av (a0.1,u7.1,u7.2.1,()) ((2:Int),())) fun r18=>
 .br r18.1.1 (
 .ob (Dp (u1.1,()) ((Da [114,101,107,101,121]),())) fun r19=>
 .leaf ((r3.1,r3.2.1,r3.2.2.1,u1.1,r4.1.1,r6.1.1,r6.1.2.1,u3.1,u3.2.1,u4.1,u4.2.1,u5.1,u5.2.1,u5.2.2.1,r19.1,()),(a0.1,r18.2.2.1,r18.2.2.2.1,()))) (
 .leaf ((r3.1,r3.2.1,r3.2.2.1,u1.1,r4.1.1,r6.1.1,r6.1.2.1,u3.1,u3.2.1,u4.1,u4.2.1,u5.1,u5.2.1,u5.2.2.1,u6.1,()),(a0.1,r18.2.2.1,r18.2.2.2.1,())))) (
 .leaf ((r3.1,r3.2.1,r3.2.2.1,u1.1,r4.1.1,r6.1.1,r6.1.2.1,u3.1,u3.2.1,u4.1,u4.2.1,u5.1,u5.2.1,u5.2.2.1,u6.1,()),(a0.1,u7.1,u7.2.1,())))) (
 .leaf ((r3.1,r3.2.1,r3.2.2.1,u1.1,r4.1.1,r6.1.1,r6.1.2.1,u3.1,u3.2.1,u4.1,u4.2.1,u5.1,u5.2.1,u5.2.2.1,u6.1,()),(a0.1,u7.1,u7.2.1,()))))) (
 .ob (Av (a0.1,r5.2.2.1,r5.2.2.2.1,()) ((2:Int),())) fun r20=>letI u11:=r20.2.2;
 .br r20.1.1 (
 .ob (Cb (a0.1,u11.1,u11.2.1,()) ([((1:Int),()),((1:Int),()),((2:Int),()),((4294967295:Int),())],())) fun r21=>
 .ob (Dp (u1.1,()) ((Da [114,101,107,101,121]),())) fun r22=>
 .ob (Fm r21.1 r22) fun r23=>letI u12:=r23.2.2;letI u13:=u12.2.2;
 .ob (Cb (a0.1,r21.2.2.1,r21.2.2.2.1,()) ([((-1:Int),()),((0:Int),()),((5:Int),()),((7:Int),()),((1000005:Int),())],())) fun r24=>letI u14:=r24.2.2;
 .br (a1.1==(0:Int)) (
 .br (decide (r24.1.1<(0:Int))) (
 .br (a1.1==(0:Int)) (
 .br (decide (r23.1<(4294967295:Int))) (
 .ob (Av (a0.1,u14.1,u14.2.1,()) ((2:Int),())) fun r25=>
 .br r25.1.1 (
 .ob (Dp (r23.2.1,()) ((Da [114,101,107,101,121]),())) fun r26=>
 .leaf ((r3.1,r3.2.1,r23.1,r23.2.1,u12.1,u12.2.1,u13.1,(i64.wrap (r23.1-(1:Int))),u1.1,r4.1.1,u2.1,u2.2.1,true,(5:Int),r26.1,()),(a0.1,r25.2.2.1,r25.2.2.2.1,()))) (
 .leaf ((r3.1,r3.2.1,r23.1,r23.2.1,u12.1,u12.2.1,u13.1,(i64.wrap (r23.1-(1:Int))),u1.1,r4.1.1,u2.1,u2.2.1,true,(5:Int),u6.1,()),(a0.1,r25.2.2.1,r25.2.2.2.1,())))) (
 .leaf ((r3.1,r3.2.1,r23.1,r23.2.1,u12.1,u12.2.1,u13.1,(i64.wrap (r23.1-(1:Int))),u1.1,r4.1.1,u2.1,u2.2.1,true,(5:Int),u6.1,()),(a0.1,u14.1,u14.2.1,())))) (
 .leaf ((r3.1,r3.2.1,r23.1,r23.2.1,u12.1,u12.2.1,u13.1,(i64.wrap (r23.1-(1:Int))),u1.1,r4.1.1,u2.1,u2.2.1,true,(5:Int),u6.1,()),(a0.1,u14.1,u14.2.1,())))) (
 .br (a1.1==(0:Int)) (
 .br (decide (r23.1<(4294967295:Int))) (
 .ob (Av (a0.1,u14.1,u14.2.1,()) ((2:Int),())) fun r27=>
 .br r27.1.1 (
 .ob (Dp (r23.2.1,()) ((Da [114,101,107,101,121]),())) fun r28=>
 .leaf ((r3.1,r3.2.1,r23.1,r23.2.1,u12.1,u12.2.1,u13.1,(i64.wrap (r23.1-(1:Int))),u1.1,r4.1.1,u2.1,u2.2.1,true,r24.1.1,r28.1,()),(a0.1,r27.2.2.1,r27.2.2.2.1,()))) (
 .leaf ((r3.1,r3.2.1,r23.1,r23.2.1,u12.1,u12.2.1,u13.1,(i64.wrap (r23.1-(1:Int))),u1.1,r4.1.1,u2.1,u2.2.1,true,r24.1.1,u6.1,()),(a0.1,r27.2.2.1,r27.2.2.2.1,())))) (
 .leaf ((r3.1,r3.2.1,r23.1,r23.2.1,u12.1,u12.2.1,u13.1,(i64.wrap (r23.1-(1:Int))),u1.1,r4.1.1,u2.1,u2.2.1,true,r24.1.1,u6.1,()),(a0.1,u14.1,u14.2.1,())))) (
 .leaf ((r3.1,r3.2.1,r23.1,r23.2.1,u12.1,u12.2.1,u13.1,(i64.wrap (r23.1-(1:Int))),u1.1,r4.1.1,u2.1,u2.2.1,true,r24.1.1,u6.1,()),(a0.1,u14.1,u14.2.1,()))))) (
 .br (a1.1==(0:Int)) (
 .br (decide (r23.1<(4294967295:Int))) (
 .ob (Av (a0.1,u14.1,u14.2.1,()) ((2:Int),())) fun r29=>
 .br r29.1.1 (
 .ob (Dp (r23.2.1,()) ((Da [114,101,107,101,121]),())) fun r30=>
 .leaf ((r3.1,r3.2.1,r23.1,r23.2.1,u12.1,u12.2.1,u13.1,(i64.wrap (r23.1-(1:Int))),u1.1,r4.1.1,u2.1,u2.2.1,true,r24.1.1,r30.1,()),(a0.1,r29.2.2.1,r29.2.2.2.1,()))) (
 .leaf ((r3.1,r3.2.1,r23.1,r23.2.1,u12.1,u12.2.1,u13.1,(i64.wrap (r23.1-(1:Int))),u1.1,r4.1.1,u2.1,u2.2.1,true,r24.1.1,u6.1,()),(a0.1,r29.2.2.1,r29.2.2.2.1,())))) (
 .leaf ((r3.1,r3.2.1,r23.1,r23.2.1,u12.1,u12.2.1,u13.1,(i64.wrap (r23.1-(1:Int))),u1.1,r4.1.1,u2.1,u2.2.1,true,r24.1.1,u6.1,()),(a0.1,u14.1,u14.2.1,())))) (
 .leaf ((r3.1,r3.2.1,r23.1,r23.2.1,u12.1,u12.2.1,u13.1,(i64.wrap (r23.1-(1:Int))),u1.1,r4.1.1,u2.1,u2.2.1,true,r24.1.1,u6.1,()),(a0.1,u14.1,u14.2.1,()))))) (
 .br (a1.1==(0:Int)) (
 .br (decide (r3.2.2.1<(4294967295:Int))) (
 .ob (Av (a0.1,u11.1,u11.2.1,()) ((2:Int),())) fun r31=>
 .br r31.1.1 (
 .ob (Dp (u1.1,()) ((Da [114,101,107,101,121]),())) fun r32=>
 .leaf ((r3.1,r3.2.1,r3.2.2.1,u1.1,r4.1.1,u2.1,u2.2.1,u3.1,u3.2.1,u4.1,u4.2.1,u5.1,u5.2.1,u5.2.2.1,r32.1,()),(a0.1,r31.2.2.1,r31.2.2.2.1,()))) (
 .leaf ((r3.1,r3.2.1,r3.2.2.1,u1.1,r4.1.1,u2.1,u2.2.1,u3.1,u3.2.1,u4.1,u4.2.1,u5.1,u5.2.1,u5.2.2.1,u6.1,()),(a0.1,r31.2.2.1,r31.2.2.2.1,())))) (
 .leaf ((r3.1,r3.2.1,r3.2.2.1,u1.1,r4.1.1,u2.1,u2.2.1,u3.1,u3.2.1,u4.1,u4.2.1,u5.1,u5.2.1,u5.2.2.1,u6.1,()),(a0.1,u11.1,u11.2.1,())))) (
 .leaf ((r3.1,r3.2.1,r3.2.2.1,u1.1,r4.1.1,u2.1,u2.2.1,u3.1,u3.2.1,u4.1,u4.2.1,u5.1,u5.2.1,u5.2.2.1,u6.1,()),(a0.1,u11.1,u11.2.1,())))))
def Um (a0:Aw) (a1:YI):Option (Ap×Aw):=(Aa2 a0 a1).val
def Ajl (a0:A8):Tree (A8):=
 .chk (decide (([]:List YB).length+a0.2.2.1.length<=4294967296)) <|
 .leaf (a0.1,a0.2.1,(([]:List YB)++a0.2.2.1),a0.2.2.2.1,())
def Qm (a0:A8):Option (A8):=(Ajl a0).val
def L3 (x1:Int×Int×Int×(List A8)×Int×Int×(List A8)×Int×Int×(List A8)×Unit):Option ((Int×Int×Int×(List A8)×Int×Int×(List A8)×Int×Int×(List A8)×Unit)⊕((Int×Int×(List A8)×Int×Int×(List A8)×Unit))):=
 letI u1:=x1.2.2.2;letI u2:=u1.2.2;letI u3:=u2.2.2;Tree.val <|
 .br (decide (x1.1<(x1.2.2.2.1.length:Int))) (
 .ob (idx u1.1 x1.1) fun e2=>
 .ob (Qm e2) fun r3=>
 .chk (decide (x1.2.2.2.2.2.2.2.2.2.1.length+[r3].length<=4294967296)) <|
 .leaf (.inl ((i64.wrap (x1.1+(1:Int))),x1.2.1,x1.2.2.1,u1.1,u1.2.1,u2.1,u2.2.1,u3.1,u3.2.1,(u3.2.2.1++[r3]),()))) (
 .leaf (.inr (u1.2.1,u2.1,u2.2.1,u3.1,u3.2.1,u3.2.2.1,())))
def Ajm (a0:Bn):Tree (Bn):=
 .ob (Ay L3 ((0:Int),a0.1,a0.2.1,a0.2.2.1,(0:Int),(0:Int),([]:List A8),a0.1,a0.2.1,([]:List A8),())) fun o4=>
 .leaf (o4.2.2.2.1,o4.2.2.2.2.1,o4.2.2.2.2.2.1,())
def Ed (a0:Bn):Option (Bn):=(Ajm a0).val
def K0 (x5:Int×Int×Int×Int×(List A8)×Int×Int×(List A8)×Int×Int×(List A8)×Unit):Option ((Int×Int×Int×Int×(List A8)×Int×Int×(List A8)×Int×Int×(List A8)×Unit)⊕((Int×Int×(List A8)×Int×Int×(List A8)×Unit))):=
 letI u1:=x5.2.2;letI u2:=u1.2.2;letI u3:=u2.2.2;letI u4:=u3.2.2;Tree.val <|
 .br (decide (x5.2.1<(x5.2.2.2.2.1.length:Int))) (
 .ob (idx u2.1 x5.2.1) fun e6=>
 .br (decide (e6.2.2.2.1≥x5.1)) (
 .ob (idx u2.1 x5.2.1) fun e7=>
 .ob (Qm e7) fun r8=>
 .chk (decide (x5.2.2.2.2.2.2.2.2.2.2.1.length+[r8].length<=4294967296)) <|
 .leaf (.inl (x5.1,(i64.wrap (x5.2.1+(1:Int))),u1.1,u1.2.1,u2.1,u2.2.1,u3.1,u3.2.1,u4.1,u4.2.1,(u4.2.2.1++[r8]),()))) (
 .leaf (.inl (x5.1,(i64.wrap (x5.2.1+(1:Int))),u1.1,u1.2.1,u2.1,u2.2.1,u3.1,u3.2.1,u4.1,u4.2.1,u4.2.2.1,())))) (
 .leaf (.inr (u2.2.1,u3.1,u3.2.1,u4.1,u4.2.1,u4.2.2.1,())))
def Afa (a0:Bn) (a1:YI):Tree (Bn):=
 .ob (Ql a0) fun r1=>
 .br (!r1.1) (
 .ob (Ed a0) fun r2=>
 .leaf r2) (
 .ob (Bt a1 ((0:Int),()) ((1000000:Int),())) fun r3=>
 .br (!r3.1) (
 .ob (Ed a0) fun r4=>
 .leaf r4) (
 .ob (Ay K0 (a1.1,(0:Int),a0.1,a0.2.1,a0.2.2.1,(0:Int),(0:Int),([]:List A8),a0.1,a0.2.1,([]:List A8),())) fun o9=>
 .leaf (o9.2.2.2.1,o9.2.2.2.2.1,o9.2.2.2.2.2.1,())))
def Agm (a0:Bn) (a1:YI):Option (Bn):=(Afa a0 a1).val
def Qh (x10:Int×(List YB)×Int×Int×Int×(List A8)×Int×Int×Int×Int×(List A8)×Int×Int×(List A8)×Unit):Option ((Int×(List YB)×Int×Int×Int×(List A8)×Int×Int×Int×Int×(List A8)×Int×Int×(List A8)×Unit)⊕((Bool×Int×Int×(List A8)×Unit)⊕(Int×(List YB)×Int×Int×(List A8)×Int×Int×Int×Int×(List A8)×Int×Int×(List A8)×Unit))):=
 letI u1:=x10.2.2;letI u2:=u1.2.2;letI u3:=u2.2.2;letI u4:=u3.2.2;letI u5:=u4.2.2;letI u6:=u5.2.2;Tree.val <|
 .br (decide (u1.1<(x10.2.2.2.2.2.2.2.2.2.2.2.2.2.1.length:Int))) (
 .ob (idx u6.2.1 u1.1) fun e11=>
 .br (and (e11.1==u3.1) (and (e11.2.1==u3.2.1) true)) (
 .ob (Ed (u1.2.1,u2.1,u2.2.1,())) fun r12=>
 .leaf (.inr (.inl (false,r12.1,r12.2.1,r12.2.2.1,())))) (
 .leaf (.inl (x10.1,x10.2.1,(i64.wrap (u1.1+(1:Int))),u1.2.1,u2.1,u2.2.1,u3.1,u3.2.1,u4.1,u4.2.1,u5.1,u5.2.1,u6.1,u6.2.1,())))) (
 .leaf (.inr (.inr (x10.1,x10.2.1,u1.2.1,u2.1,u2.2.1,u3.1,u3.2.1,u4.1,u4.2.1,u5.1,u5.2.1,u6.1,u6.2.1,()))))
def Ath (a0:Bn) (a1:YI) (a2:A6) (a3:YBs):Tree (Bn×(Bool×Unit)):=
 .ob (Ql a0) fun r1=>
 .br (!r1.1) (
 .ob (Ed a0) fun r2=>
 .leaf (r2,(false,()))) (
 .ob (Bt a1 ((0:Int),()) ((1000000:Int),())) fun r3=>
 .br (!r3.1) (
 .ob (Ed a0) fun r4=>
 .leaf (r4,(false,()))) (
 .ob (Hl a2) fun r5=>
 .br (!r5.1) (
 .ob (Ed a0) fun r6=>
 .leaf (r6,(false,()))) (
 .br ((a3.1.length:Int) != (12:Int)) (
 .ob (Ed a0) fun r7=>
 .leaf (r7,(false,()))) (
 .br (and (a2.1==a0.1) (and (a2.2.1==a0.2.1) true)) (
 .ob (Ed a0) fun r8=>
 .leaf (r8,(false,()))) (
 .ob (Agm a0 a1) fun r9=>
 .ob (Ay Qh (a1.1,a3.1,(0:Int),a0.1,a0.2.1,a0.2.2.1,a2.1,a2.2.1,(0:Int),(0:Int),([]:List A8),r9.1,r9.2.1,r9.2.2.1,())) fun o13=>
 .sm o13 (fun o14=>
 .leaf ((o14.2.1,o14.2.2.1,o14.2.2.2.1,()),(o14.1,()))) (fun o15=>letI u1:=o15.2.2;letI u2:=u1.2.2.2;letI u3:=u2.2.2.2.2.2;
 .br ((o15.2.2.2.2.2.2.2.2.2.2.2.2.1.length:Int)==(3:Int)) (
 .ob (Ed (u1.1,u1.2.1,u1.2.2.1,())) fun r16=>
 .leaf (r16,(false,()))) (
 .chk (decide (([]:List YB).length+o15.2.1.length<=4294967296)) <|
 .chk (decide (o15.2.2.2.2.2.2.2.2.2.2.2.2.1.length+[(u2.1,u2.2.1,(([]:List YB)++o15.2.1),(i64.wrap (o15.1+(6:Int))),())].length<=4294967296)) <|
 .leaf ((u3.1,u3.2.1,(u3.2.2.1++[(u2.1,u2.2.1,(([]:List YB)++o15.2.1),(i64.wrap (o15.1+(6:Int))),())]),()),(true,())))))))))
def Eo (a0:Bn) (a1:YI) (a2:A6) (a3:YBs):Option (Bn×(Bool×Unit)):=(Ath a0 a1 a2 a3).val
def U9 (x6:Int×Int×(List YB)×Int×Int×Int×Int×(List A8)×Int×Int×(List A8)×Unit):Option ((Int×Int×(List YB)×Int×Int×Int×Int×(List A8)×Int×Int×(List A8)×Unit)⊕(((List YB)×Int×Int×Int×Int×(List A8)×Int×Int×(List A8)×Unit))):=
 letI u1:=x6.2.2;letI u2:=u1.2.2;letI u3:=u2.2.2;letI u4:=u3.2.2;Tree.val <|
 .br (decide (x6.2.1>(0:Int))) (
 .ob (Bi (u1.1,u1.2.1,u2.1,()) ((7:Int),())) fun r7=>
 .ob (Ic r7.1) fun r8=>
 .ob (Df (u1.1,r7.2.2.1,r7.2.2.2.1,()) ((12:Int),())) fun r9=>
 .ob (Eo (u4.1,u4.2.1,u4.2.2.1,()) (x6.1,()) r8 r9.1) fun r10=>
 .ob (Bi (u1.1,r9.2.2.1,r9.2.2.2.1,()) ((3:Int),())) fun r11=>
 .leaf (.inl ((i64.wrap (x6.1+r11.1.1)),(i64.wrap (x6.2.1-(1:Int))),u1.1,r11.2.2.1,r11.2.2.2.1,u2.2.1,u3.1,u3.2.1,r10.1.1,r10.1.2.1,r10.1.2.2.1,()))) (
 .leaf (.inr (u1.1,u1.2.1,u2.1,u2.2.1,u3.1,u3.2.1,u4.1,u4.2.1,u4.2.2.1,())))
def Aa4 (a0:Aw):Tree (Bn×Aw):=
 .ob (Bi a0 ((5:Int),())) fun r1=>
 .ob (Ic r1.1) fun r2=>
 .ob (Li r2) fun r3=>
 .ob (Bi (a0.1,r1.2.2.1,r1.2.2.2.1,()) ((6:Int),())) fun r4=>
 .ob (Bi (a0.1,r4.2.2.1,r4.2.2.2.1,()) ((5:Int),())) fun r5=>
 .ob (Ay U9 (r4.1.1,r5.1.1,a0.1,r5.2.2.1,r5.2.2.2.1,(0:Int),(0:Int),([]:List A8),r3.1,r3.2.1,r3.2.2.1,())) fun o12=>letI u1:=o12.2.2.2.2.2.2;
 .leaf ((u1.1,u1.2.1,u1.2.2.1,()),(o12.1,o12.2.1,o12.2.2.1,()))
def Qn (a0:Aw):Option (Bn×Aw):=(Aa4 a0).val
def Aa5 (a0:Aw):Tree (Ak×Aw):=
 .ob (Df a0 ((16:Int),())) fun r1=>
 .ob (Bi (a0.1,r1.2.2.1,r1.2.2.2.1,()) ((2:Int),())) fun r2=>
 .ob (P0 (a0.1,r2.2.2.1,r2.2.2.2.1,())) fun r3=>
 .ob (He r1.1 ((i64.wrap ((1:Int)+r2.1.1)),()) r3.1) fun r4=>
 .ob (Df (a0.1,r3.2.2.1,r3.2.2.2.1,()) ((16:Int),())) fun r5=>
 .ob (Cb (a0.1,r5.2.2.1,r5.2.2.2.1,()) ([((0:Int),()),((5:Int),()),((90:Int),())],())) fun r6=>
 .ob (Bi (a0.1,r6.2.2.1,r6.2.2.2.1,()) ((5:Int),())) fun r7=>
 .ob (Ic ((i64.wrap ((1:Int)+r7.1.1)),())) fun r8=>
 .ob (Ks r5.1 r6.1 r8 r4.1) fun r9=>letI u1:=r9.2.2.2;letI u2:=u1.2.2.2;letI u3:=u2.2.2.2;letI u4:=u3.2.2.2;letI u5:=u4.2.2.2;letI u6:=u5.2.2.2;letI u7:=u6.2.2.2;
 .ob (Av (a0.1,r7.2.2.1,r7.2.2.2.1,()) ((2:Int),())) fun r10=>
 .br r10.1.1 (
 .ob (Um (a0.1,r10.2.2.1,r10.2.2.2.1,()) ((1:Int),())) fun r11=>letI u8:=r11.1.2.2;letI u9:=u8.2.2;letI u10:=u9.2.2;letI u11:=u10.2.2;letI u12:=u11.2.2;letI u13:=u12.2.2;
 .ob (Av (a0.1,r11.2.2.1,r11.2.2.2.1,()) ((2:Int),())) fun r12=>
 .br r12.1.1 (
 .ob (Qn (a0.1,r12.2.2.1,r12.2.2.2.1,())) fun r13=>
 .leaf ((r9.1,r9.2.1,r11.1.2.1,r11.1.1,r11.1.2.1,u8.1,u8.2.1,u9.1,u9.2.1,u10.1,u10.2.1,u11.1,u11.2.1,u12.1,u12.2.1,u13.1,u13.2.1,u13.2.2.1,r13.1.1,r13.1.2.1,r13.1.2.2.1,u7.1,u7.2.1,u7.2.2.1,()),(a0.1,r13.2.2.1,r13.2.2.2.1,()))) (
 .leaf ((r9.1,r9.2.1,r11.1.2.1,r11.1.1,r11.1.2.1,u8.1,u8.2.1,u9.1,u9.2.1,u10.1,u10.2.1,u11.1,u11.2.1,u12.1,u12.2.1,u13.1,u13.2.1,u13.2.2.1,u6.1,u6.2.1,u6.2.2.1,u7.1,u7.2.1,u7.2.2.1,()),(a0.1,r12.2.2.1,r12.2.2.2.1,())))) (
 .ob (Av (a0.1,r10.2.2.1,r10.2.2.2.1,()) ((2:Int),())) fun r14=>
 .br r14.1.1 (
 .ob (Qn (a0.1,r14.2.2.1,r14.2.2.2.1,())) fun r15=>
 .leaf ((r9.1,r9.2.1,r9.2.2.1,u1.1,u1.2.1,u1.2.2.1,u2.1,u2.2.1,u2.2.2.1,u3.1,u3.2.1,u3.2.2.1,u4.1,u4.2.1,u4.2.2.1,u5.1,u5.2.1,u5.2.2.1,r15.1.1,r15.1.2.1,r15.1.2.2.1,u7.1,u7.2.1,u7.2.2.1,()),(a0.1,r15.2.2.1,r15.2.2.2.1,()))) (
 .leaf (r9,(a0.1,r14.2.2.1,r14.2.2.2.1,()))))
def Un (a0:Aw):Option (Ak×Aw):=(Aa5 a0).val
def An0 (a0:YEp):Tree (YEp):=
 .chk (decide (([]:List YB).length+a0.2.1.length<=4294967296)) <|
 .ob (Apu (a0.2.2.2.1,a0.2.2.2.2.1,())) fun r1=>
 .leaf (a0.1,(([]:List YB)++a0.2.1),a0.2.2.1,r1.1,r1.2.1,())
def Td (a0:YEp):Option (YEp):=(An0 a0).val
def Ati (a0:YEp) (a1:Bool×Unit):Tree (YEp):=
 .br (!a1.1) (
 .chk (decide (([]:List YB).length+a0.2.1.length<=4294967296)) <|
 .chk (decide (([]:List YI).length+a0.2.2.2.2.1.length<=4294967296)) <|
 .leaf (a0.1,(([]:List YB)++a0.2.1),a0.2.2.1,a0.2.2.2.1,(([]:List YI)++a0.2.2.2.2.1),())) (
 .ob (Td a0) fun r1=>
 .leaf r1)
def Auu (a0:YEp) (a1:Bool×Unit):Option (YEp):=(Ati a0 a1).val
def Ajn (a0:Ap):Tree (Ap):=
 letI u1:=a0.2.2.2;letI u2:=u1.2.2.2;letI u3:=u2.2.2.2;letI u4:=u3.2.2.2;.chk (decide (([]:List YB).length+a0.2.1.length<=4294967296)) <|
 .ob (Td (a0.2.2.1,u1.1,u1.2.1,u1.2.2.1,u2.1,())) fun r1=>
 .ob (Auu (u2.2.1,u2.2.2.1,u3.1,u3.2.1,u3.2.2.1,()) (u4.1,())) fun r2=>
 .chk (decide (([]:List YB).length+a0.2.2.2.2.2.2.2.2.2.2.2.2.2.2.1.length<=4294967296)) <|
 .leaf (a0.1,(([]:List YB)++a0.2.1),r1.1,r1.2.1,r1.2.2.1,r1.2.2.2.1,r1.2.2.2.2.1,r2.1,r2.2.1,r2.2.2.1,r2.2.2.2.1,r2.2.2.2.2.1,u4.1,u4.2.1,(([]:List YB)++u4.2.2.1),())
def I2 (a0:Ap):Option (Ap):=(Ajn a0).val
def Ajo (a0:Ak):Tree (Ak):=
 letI u1:=a0.2.2.2;letI u2:=u1.2.2.2;letI u3:=u2.2.2.2;letI u4:=u3.2.2.2;letI u5:=u4.2.2.2;letI u6:=u5.2.2.2.2;.chk (decide (([]:List YB).length+a0.2.1.length<=4294967296)) <|
 .chk (decide (([]:List YB).length+a0.2.2.1.length<=4294967296)) <|
 .ob (I2 (u1.1,u1.2.1,u1.2.2.1,u2.1,u2.2.1,u2.2.2.1,u3.1,u3.2.1,u3.2.2.1,u4.1,u4.2.1,u4.2.2.1,u5.1,u5.2.1,u5.2.2.1,())) fun r1=>letI u7:=r1.2.2.2;letI u8:=u7.2.2.2;letI u9:=u8.2.2.2.2;
 .ob (Ed (u5.2.2.2.1,u6.1,u6.2.1,())) fun r2=>
 .leaf (a0.1,(([]:List YB)++a0.2.1),(([]:List YB)++a0.2.2.1),r1.1,r1.2.1,r1.2.2.1,u7.1,u7.2.1,u7.2.2.1,u8.1,u8.2.1,u8.2.2.1,u8.2.2.2.1,u9.1,u9.2.1,u9.2.2.1,u9.2.2.2.1,u9.2.2.2.2.1,r2.1,r2.2.1,r2.2.2.1,u6.2.2.1,u6.2.2.2.1,u6.2.2.2.2.1,())
def Nf (a0:Ak):Option (Ak):=(Ajo a0).val
def L4 (x1:Int×Int×(List Ak)×Int×(List Ak)×Int×(List Ak)×Unit):Option ((Int×Int×(List Ak)×Int×(List Ak)×Int×(List Ak)×Unit)⊕((Int×(List Ak)×Int×(List Ak)×Unit))):=
 letI u1:=x1.2.2;letI u2:=u1.2.2;Tree.val <|
 .br (decide (x1.1<(x1.2.2.1.length:Int))) (
 .ob (idx u1.1 x1.1) fun e2=>
 .ob (Nf e2) fun r3=>
 .chk (decide (x1.2.2.2.2.2.2.1.length+[r3].length<=4294967296)) <|
 .leaf (.inl ((i64.wrap (x1.1+(1:Int))),x1.2.1,u1.1,u1.2.1,u2.1,u2.2.1,(u2.2.2.1++[r3]),()))) (
 .leaf (.inr (u1.2.1,u2.1,u2.2.1,u2.2.2.1,())))
def Ajp (a0:Cj):Tree (Cj):=
 .ob (Ay L4 ((0:Int),a0.1,a0.2.1,(0:Int),([]:List Ak),a0.1,([]:List Ak),())) fun o4=>
 .leaf (o4.2.2.1,o4.2.2.2.1,())
def Akj (a0:Cj):Option (Cj):=(Ajp a0).val
def Ajr (a0:Cj) (a1:Ak):Tree (Cj×YI):=
 .ob (Akj a0) fun r1=>
 .ob (Aib a0) fun r2=>
 .br (!r2.1) (
 .leaf (r1,((1:Int),()))) (
 .ob (O7 a1) fun r3=>
 .br (!r3.1) (
 .leaf (r1,((1:Int),()))) (
 .br a1.2.2.2.2.2.2.2.2.2.2.2.2.2.2.2.2.2.2.2.2.2.2.2.1 (
 .leaf (r1,((1:Int),()))) (
 .ob (Adw a0 (a1.2.2.1,())) fun r4=>
 .br (decide (r4.1≥(0:Int))) (
 .leaf (r1,((3:Int),()))) (
 .ob (Agj a0) fun r5=>
 .br (r5.1==a0.1) (
 .leaf (r1,((7:Int),()))) (
 .br ((a0.2.1.length:Int)==(12:Int)) (
 .leaf (r1,((7:Int),()))) (
 .ob (Nf a1) fun r6=>
 .chk (decide (r1.2.1.length+[r6].length<=4294967296)) <|
 .leaf ((r1.1,(r1.2.1++[r6]),()),((0:Int),()))))))))
def Qo (a0:Cj) (a1:Ak):Option (Cj×YI):=(Ajr a0 a1).val
def An1 (a0:Ak):Tree (Ak):=
 .ob (O7 a0) fun r1=>
 .br (!r1.1) (
 .ob (Nf a0) fun r2=>
 .leaf r2) (
 .chk (decide (([]:List YB).length+a0.2.1.length<=4294967296)) <|
 .chk (decide (([]:List YB).length+a0.2.2.1.length<=4294967296)) <|
 .leaf (a0.1,(([]:List YB)++a0.2.1),(([]:List YB)++a0.2.2.1),(0:Int),([]:List YB),(0:Int),([]:List YB),(0:Int),(0:Int),([]:List YI),(0:Int),([]:List YB),(0:Int),(0:Int),([]:List YI),false,(0:Int),([]:List YB),(0:Int),(0:Int),([]:List A8),a0.2.2.2.2.2.2.2.2.2.2.2.2.2.2.2.2.2.2.2.2.2.1,(0:Int),true,()))
def Zx (a0:Ak):Option (Ak):=(An1 a0).val
def L5 (x4:Int×(List YB)×Int×Int×Int×(List Ak)×Int×(List Ak)×Unit):Option ((Int×(List YB)×Int×Int×Int×(List Ak)×Int×(List Ak)×Unit)⊕(((List YB)×Int×Int×Int×(List Ak)×Int×(List Ak)×Unit))):=
 letI u1:=x4.2.2.2;letI u2:=u1.2.2;Tree.val <|
 .br (decide (x4.1>(0:Int))) (
 .ob (Un (x4.2.1,x4.2.2.1,u1.1,())) fun r5=>
 .ob (Qo (u2.2.1,u2.2.2.1,()) r5.1) fun r6=>
 .br (decide ((r6.1.2.1.length:Int)>(0:Int))) (
 .ob (Av (x4.2.1,r5.2.2.1,r5.2.2.2.1,()) ((3:Int),())) fun r7=>
 .br r7.1.1 (
 .ob (Bi (x4.2.1,r7.2.2.1,r7.2.2.2.1,()) ((r6.1.2.1.length:Int),())) fun r8=>
 .ob (idx r6.1.2.1 r8.1.1) fun e9=>
 .ob (Zx e9) fun r10=>
 .ob (idx r6.1.2.1 r8.1.1) fun e11=>
 let q12:=(r6.1.2.1.set (r8.1.1).toNat r10)
 .leaf (.inl ((i64.wrap (x4.1-(1:Int))),x4.2.1,r8.2.2.1,r8.2.2.2.1,u1.2.1,u2.1,r6.1.1,q12,()))) (
 .leaf (.inl ((i64.wrap (x4.1-(1:Int))),x4.2.1,r7.2.2.1,r7.2.2.2.1,u1.2.1,u2.1,r6.1.1,r6.1.2.1,())))) (
 .leaf (.inl ((i64.wrap (x4.1-(1:Int))),x4.2.1,r5.2.2.1,r5.2.2.2.1,u1.2.1,u2.1,r6.1.1,r6.1.2.1,())))) (
 .leaf (.inr (x4.2.1,x4.2.2.1,u1.1,u1.2.1,u2.1,u2.2.1,u2.2.2.1,())))
def Aa7 (a0:Aw):Tree (Cj×Aw):=
 .ob (Bi a0 ((6:Int),())) fun r1=>
 .ob (O6 ((i64.wrap ((1:Int)+r1.1.1)),())) fun r2=>
 .ob (Bi (a0.1,r1.2.2.1,r1.2.2.2.1,()) ((6:Int),())) fun r3=>
 .ob (Ay L5 (r3.1.1,a0.1,r3.2.2.1,r3.2.2.2.1,(0:Int),([]:List Ak),r2.1,r2.2.1,())) fun o13=>
 .leaf ((o13.2.2.2.2.2.1,o13.2.2.2.2.2.2.1,()),(o13.1,o13.2.1,o13.2.2.1,()))
def Uo (a0:Aw):Option (Cj×Aw):=(Aa7 a0).val
def Ud (x1:(List Am)×Int×Int×Int×Unit):Option (((List Am)×Int×Int×Int×Unit)⊕(YI⊕(Unit))):=
 Tree.val <|
 .br (decide (x1.2.1<(x1.1.length:Int))) (
 .ob (idx x1.1 x1.2.1) fun e2=>
 .br (and (e2.1==x1.2.2.1) (and (e2.2.1==x1.2.2.2.1) true)) (
 .leaf (.inr (.inl (x1.2.1,())))) (
 .leaf (.inl (x1.1,(i64.wrap (x1.2.1+(1:Int))),x1.2.2.1,x1.2.2.2.1,())))) (
 .leaf (.inr (.inr ())))
def Atk (a0:(List Am)×Unit) (a1:A6):Tree (YI):=
 .ob (Ay Ud (a0.1,(0:Int),a1.1,a1.2.1,())) fun o3=>
 .sm o3 (fun o4=>
 .leaf o4) (fun o5=>
 .leaf ((-1:Int),()))
def Ab9 (a0:(List Am)×Unit) (a1:A6):Option (YI):=(Atk a0 a1).val
def An3 (a0:(List Am)×Unit) (a1:A6) (a2:YI):Tree (((List Am)×Unit)):=
 .chk (decide (([]:List Am).length+a0.1.length<=4294967296)) <|
 .ob (Mg a0) fun r1=>
 .br (!r1.1) (
 .leaf ((([]:List Am)++a0.1),())) (
 .ob (Hl a1) fun r2=>
 .br (!r2.1) (
 .leaf ((([]:List Am)++a0.1),())) (
 .ob (Bt a2 ((0:Int),()) ((1000000:Int),())) fun r3=>
 .br (!r3.1) (
 .leaf ((([]:List Am)++a0.1),())) (
 .ob (Ab9 a0 a1) fun r4=>
 .br (decide (r4.1<(0:Int))) (
 .br ((a0.1.length:Int)==(8:Int)) (
 .leaf ((([]:List Am)++a0.1),())) (
 .chk (decide ((([]:List Am)++a0.1).length+[(a1.1,a1.2.1,a2.1,(0:Int),())].length<=4294967296)) <|
 .leaf (((([]:List Am)++a0.1)++[(a1.1,a1.2.1,a2.1,(0:Int),())]),()))) (
 .ob (idx (([]:List Am)++a0.1) r4.1) fun e5=>
 .ob (idx (([]:List Am)++a0.1) r4.1) fun e6=>
 let q7:=((([]:List Am)++a0.1).set (r4.1).toNat (e6.1,e6.2.1,(i64.wrap (e5.2.2.1+a2.1)),e6.2.2.2.1,()))
 .ob (idx q7 r4.1) fun e8=>
 .br (decide (e8.2.2.1>(1000000:Int))) (
 .ob (idx q7 r4.1) fun e9=>
 let q10:=(q7.set (r4.1).toNat (e9.1,e9.2.1,(1000000:Int),e9.2.2.2.1,()))
 .leaf (q10,())) (
 .leaf (q7,()))))))
def Agn (a0:(List Am)×Unit) (a1:A6) (a2:YI):Option (((List Am)×Unit)):=(An3 a0 a1 a2).val
def Ue (a0:(List Am)×Unit) (a1:A6):Tree (YI):=
 .ob (Ab9 a0 a1) fun r1=>
 .ob (Mg a0) fun r2=>
 .br (!r2.1) (
 .leaf ((0:Int),())) (
 .br (decide (r1.1<(0:Int))) (
 .leaf ((0:Int),())) (
 .ob (idx a0.1 r1.1) fun e3=>
 .ob (idx a0.1 r1.1) fun e4=>
 .leaf ((i64.wrap ((i64.wrap ((3:Int)*e3.2.2.1))-e4.2.2.2.1)),())))
def Ng (a0:(List Am)×Unit) (a1:A6):Option (YI):=(Ue a0 a1).val
def Ahz (a0:(List Am)×Unit) (a1:A6) (a2:YI):Tree (((List Am)×Unit)×(Bool×Unit)):=
 .chk (decide (([]:List Am).length+a0.1.length<=4294967296)) <|
 .ob (Ab9 a0 a1) fun r1=>
 .br (decide (r1.1<(0:Int))) (
 .leaf (((([]:List Am)++a0.1),()),(false,()))) (
 .ob (Mg a0) fun r2=>
 .br (!r2.1) (
 .leaf (((([]:List Am)++a0.1),()),(false,()))) (
 .ob (Ng a0 a1) fun r3=>
 .ob (Bt a2 ((0:Int),()) r3) fun r4=>
 .br (!r4.1) (
 .leaf (((([]:List Am)++a0.1),()),(false,()))) (
 .ob (idx (([]:List Am)++a0.1) r1.1) fun e5=>
 .ob (idx (([]:List Am)++a0.1) r1.1) fun e6=>
 let q7:=((([]:List Am)++a0.1).set (r1.1).toNat (e6.1,e6.2.1,e6.2.2.1,(i64.wrap (e5.2.2.2.1+a2.1)),()))
 .leaf ((q7,()),(true,())))))
def Rt (a0:(List Am)×Unit) (a1:A6) (a2:YI):Option (((List Am)×Unit)×(Bool×Unit)):=(Ahz a0 a1 a2).val
def L6 (x2:(List Am)×Int×(List YB)×Int×Int×Unit):Option (((List Am)×Int×(List YB)×Int×Int×Unit)⊕(((List Am)×(List YB)×Int×Int×Unit))):=
 letI u1:=x2.2.2;Tree.val <|
 .br (decide (x2.2.1>(0:Int))) (
 .ob (Bi (u1.1,u1.2.1,u1.2.2.1,()) ((10:Int),())) fun r3=>
 .ob (Ic r3.1) fun r4=>
 .ob (Cb (u1.1,r3.2.2.1,r3.2.2.2.1,()) ([((0:Int),()),((1:Int),()),((34:Int),()),((60:Int),()),((999999:Int),()),((1000000:Int),())],())) fun r5=>
 .ob (Agn (x2.1,()) r4 r5.1) fun r6=>
 .ob (Cb (u1.1,r5.2.2.1,r5.2.2.2.1,()) ([((0:Int),()),((3:Int),()),((45:Int),()),((102:Int),()),((1000:Int),())],())) fun r7=>
 .ob (Rt r6 r4 r7.1) fun r8=>
 .leaf (.inl (r8.1.1,(i64.wrap (x2.2.1-(1:Int))),u1.1,r7.2.2.1,r7.2.2.2.1,()))) (
 .leaf (.inr (x2.1,u1.1,u1.2.1,u1.2.2.1,())))
def Aa8 (a0:Aw) (a1:YI):Tree (((List Am)×Unit)×Aw):=
 .ob (Bi a0 ((i64.wrap (a1.1+(1:Int))),())) fun r1=>
 .ob (Ay L6 (([]:List Am),r1.1.1,a0.1,r1.2.2.1,r1.2.2.2.1,())) fun o9=>
 .leaf ((o9.1,()),(o9.2.1,o9.2.2.1,o9.2.2.2.1,()))
def Up (a0:Aw) (a1:YI):Option (((List Am)×Unit)×Aw):=(Aa8 a0 a1).val
def L7 (x6:Int×(List YB)×Int×Int×(List YBs)×(List YB)×(List YB)×Int×Int×(List Ak)×(List Am)×(List YBs)×(List YB)×(List YB)×Int×Int×(List Ak)×(List Am)×Int×(List Ak)×Unit):Option ((Int×(List YB)×Int×Int×(List YBs)×(List YB)×(List YB)×Int×Int×(List Ak)×(List Am)×(List YBs)×(List YB)×(List YB)×Int×Int×(List Ak)×(List Am)×Int×(List Ak)×Unit)⊕(((List YB)×Int×Int×(List YBs)×(List YB)×(List YB)×Int×Int×(List Ak)×(List Am)×(List YBs)×(List YB)×(List YB)×Int×Int×(List Ak)×(List Am)×Unit))):=
 letI u1:=x6.2.2;letI u2:=u1.2.2;letI u3:=u2.2.2;letI u4:=u3.2.2;letI u5:=u4.2.2;letI u6:=u5.2.2;letI u7:=u6.2.2;letI u8:=u7.2.2;letI u9:=u8.2.2;Tree.val <|
 .br (decide (x6.1<(x6.2.2.2.2.2.2.2.2.2.2.2.2.2.2.2.2.2.2.2.1.length:Int))) (
 .ob (idx u9.2.1 x6.1) fun e7=>
 .br (decide (e7.1<=(x6.2.2.2.2.2.2.2.2.2.2.2.1.length:Int))) (
 .ob (idx u9.2.1 x6.1) fun e8=>
 .ob (Qo (u7.2.1,u8.1,()) e8) fun r9=>
 .leaf (.inl ((i64.wrap (x6.1+(1:Int))),x6.2.1,u1.1,u1.2.1,u2.1,u2.2.1,u3.1,u3.2.1,u4.1,u4.2.1,u5.1,u5.2.1,u6.1,u6.2.1,u7.1,r9.1.1,r9.1.2.1,u8.2.1,u9.1,u9.2.1,()))) (
 .leaf (.inl ((i64.wrap (x6.1+(1:Int))),x6.2.1,u1.1,u1.2.1,u2.1,u2.2.1,u3.1,u3.2.1,u4.1,u4.2.1,u5.1,u5.2.1,u6.1,u6.2.1,u7.1,u7.2.1,u8.1,u8.2.1,u9.1,u9.2.1,())))) (
 .leaf (.inr (x6.2.1,u1.1,u1.2.1,u2.1,u2.2.1,u3.1,u3.2.1,u4.1,u4.2.1,u5.1,u5.2.1,u6.1,u6.2.1,u7.1,u7.2.1,u8.1,u8.2.1,())))
def Aa9 (a0:Aw):Tree (Bs×Aw):=
 .ob (Uk a0) fun r1=>
 .ob (Df (a0.1,r1.2.2.1,r1.2.2.2.1,()) ((8:Int),())) fun r2=>
 .ob (Bi (a0.1,r2.2.2.1,r2.2.2.2.1,()) ((4:Int),())) fun r3=>
 .ob (Pz r1.1 r2.1 ((i64.wrap ((1:Int)+r3.1.1)),())) fun r4=>letI u1:=r4.2.2.2;
 .ob (Uo (a0.1,r3.2.2.1,r3.2.2.2.1,())) fun r5=>
 .ob (Ay L7 ((0:Int),a0.1,r5.2.2.1,r5.2.2.2.1,([]:List YBs),([]:List YB),([]:List YB),(0:Int),(0:Int),([]:List Ak),([]:List Am),r4.1,r4.2.1,r4.2.2.1,u1.1,u1.2.1,u1.2.2.1,u1.2.2.2.1,r5.1.1,r5.1.2.1,())) fun o10=>letI u2:=o10.2.2.2.2.2.2.2.2.2.2;
 .ob (Up (o10.1,o10.2.1,o10.2.2.1,()) ((6:Int),())) fun r11=>
 .ob (Bi (o10.1,r11.2.2.1,r11.2.2.2.1,()) ((30:Int),())) fun r12=>
 .leaf ((u2.1,u2.2.1,u2.2.2.1,(i64.wrap ((1:Int)+r12.1.1)),u2.2.2.2.2.1,u2.2.2.2.2.2.1,r11.1.1,()),(o10.1,r12.2.2.1,r12.2.2.2.1,()))
def Uq (a0:Aw):Option (Bs×Aw):=(Aa9 a0).val
def Js (x2:Ge):Option (Ge⊕(YBs)):=
 Tree.val <|
 .br (decide (x2.2.1<(20:Int))) (
 .chk (decide (x2.1.length+[((0:Int),())].length<=4294967296)) <|
 .leaf (.inl ((x2.1++[((0:Int),())]),(i64.wrap (x2.2.1+(1:Int))),()))) (
 .leaf (.inr (x2.1,())))
def Afc (a0:Ar):Tree (YBs):=
 letI u1:=a0.2.2;letI u2:=u1.2.2.2;letI u3:=u2.2.2.2;.ob (Nd a0) fun r1=>
 .br (!r1.1) (
 .leaf (([]:List YB),())) (
 .br (a0.1==(1:Int)) (
 .chk (decide ([((u8.wrap (a0.1)),())].length+[((u8.wrap (a0.2.1)),())].length<=4294967296)) <|
 .chk (decide (([((u8.wrap (a0.1)),())]++[((u8.wrap (a0.2.1)),())]).length+a0.2.2.1.length<=4294967296)) <|
 .ob (Ay Js ((([((u8.wrap (a0.1)),())]++[((u8.wrap (a0.2.1)),())])++u1.1),(0:Int),())) fun o3=>
 .leaf o3) (
 .br (a0.1==(2:Int)) (
 .chk (decide ([((u8.wrap (a0.1)),())].length+a0.2.2.1.length<=4294967296)) <|
 .chk (decide (([((u8.wrap (a0.1)),())]++u1.1).length+a0.2.2.2.1.length<=4294967296)) <|
 .ob (Ep ((([((u8.wrap (a0.1)),())]++u1.1)++u1.2.1),()) (u1.2.2.1,()) ((4:Int),())) fun r4=>
 .chk (decide (r4.1.length+a0.2.2.2.2.2.1.length<=4294967296)) <|
 .leaf ((r4.1++u2.1),())) (
 .br (a0.1==(3:Int)) (
 .chk (decide ([((u8.wrap (a0.1)),())].length+[((u8.wrap (a0.2.1)),())].length<=4294967296)) <|
 .chk (decide (([((u8.wrap (a0.1)),())]++[((u8.wrap (a0.2.1)),())]).length+a0.2.2.1.length<=4294967296)) <|
 .chk (decide ((([((u8.wrap (a0.1)),())]++[((u8.wrap (a0.2.1)),())])++u1.1).length+a0.2.2.2.1.length<=4294967296)) <|
 .ob (Ep (((([((u8.wrap (a0.1)),())]++[((u8.wrap (a0.2.1)),())])++u1.1)++u1.2.1),()) (u1.2.2.1,()) ((4:Int),())) fun r5=>
 .chk (decide (r5.1.length+a0.2.2.2.2.2.1.length<=4294967296)) <|
 .chk (decide ((r5.1++u2.1).length+a0.2.2.2.2.2.2.1.length<=4294967296)) <|
 .leaf (((r5.1++u2.1)++u2.2.1),())) (
 .chk (decide ([((u8.wrap (a0.1)),())].length+a0.2.2.2.1.length<=4294967296)) <|
 .ob (Ep (([((u8.wrap (a0.1)),())]++u1.2.1),()) (u2.2.2.1,()) ((4:Int),())) fun r6=>
 .ob (Ep r6 (u3.1,()) ((6:Int),())) fun r7=>
 .chk (decide (r7.1.length+a0.2.2.2.2.2.2.2.2.2.2.1.length<=4294967296)) <|
 .chk (decide ((r7.1++u3.2.2.1).length+a0.2.2.2.2.2.2.2.2.2.1.length<=4294967296)) <|
 .leaf (((r7.1++u3.2.2.1)++u3.2.1),())))))
def Lj (a0:Ar):Option (YBs):=(Afc a0).val
def Ajs (a0:YBs) (a1:A6):Tree (YBs):=
 .ob (Hl a1) fun r1=>
 .br (!r1.1) (
 .chk (decide (([]:List YB).length+a0.1.length<=4294967296)) <|
 .leaf ((([]:List YB)++a0.1),())) (
 .ob (Ep a0 (a1.1,()) ((4:Int),())) fun r2=>
 .ob (Ep r2 (a1.2.1,()) ((2:Int),())) fun r3=>
 .leaf r3)
def Ayu (a0:YBs) (a1:A6):Option (YBs):=(Ajs a0 a1).val
def Wy (a0:A6) (a1:YI) (a2:YBs) (a3:YBs) (a4:YI):Tree (YBs):=
 .ob (Hl a0) fun r1=>
 .br (!r1.1) (
 .leaf (([]:List YB),())) (
 .ob (Bt a1 ((1:Int),()) ((9:Int),())) fun r2=>
 .br (!r2.1) (
 .leaf (([]:List YB),())) (
 .br ((a2.1.length:Int) != (12:Int)) (
 .leaf (([]:List YB),())) (
 .br ((a3.1.length:Int) != (12:Int)) (
 .leaf (([]:List YB),())) (
 .ob (Bt a4 ((0:Int),()) ((1000000:Int),())) fun r3=>
 .br (!r3.1) (
 .leaf (([]:List YB),())) (
 .ob (Ayu ([((99:Int),())],()) a0) fun r4=>
 .chk (decide (r4.1.length+[((u8.wrap (a1.1)),())].length<=4294967296)) <|
 .chk (decide ((r4.1++[((u8.wrap (a1.1)),())]).length+a2.1.length<=4294967296)) <|
 .chk (decide (((r4.1++[((u8.wrap (a1.1)),())])++a2.1).length+a3.1.length<=4294967296)) <|
 .ob (Ep ((((r4.1++[((u8.wrap (a1.1)),())])++a2.1)++a3.1),()) a4 ((4:Int),())) fun r5=>
 .leaf r5)))))
def N6 (a0:A6) (a1:YI) (a2:YBs) (a3:YBs) (a4:YI):Option (YBs):=(Wy a0 a1 a2 a3 a4).val
def An4 (a0:YBs) (a1:A6) (a2:YI) (a3:YBs) (a4:YBs) (a5:YI):Tree (YBs):=
 .ob (N6 a1 a2 a3 a4 a5) fun r1=>
 .ob (Aus a0) fun r2=>
 .br (!r2.1) (
 .leaf (([]:List YB),())) (
 .br ((r1.1.length:Int)==(0:Int)) (
 .leaf (([]:List YB),())) (
 .ob (Aej a0 r1) fun r3=>
 .leaf r3))
def Zy (a0:YBs) (a1:A6) (a2:YI) (a3:YBs) (a4:YBs) (a5:YI):Option (YBs):=(An4 a0 a1 a2 a3 a4 a5).val
def An6 (a0:Aw) (a1:YBs):Tree (YBs×Aw):=
 .chk (decide (([]:List YB).length+a1.1.length<=4294967296)) <|
 .ob (Bi a0 ((8:Int),())) fun r1=>letI u1:=r1.2.2;
 .br (r1.1.1==(0:Int)) (
 .br (decide (((([]:List YB)++a1.1).length:Int)>(0:Int))) (
 .ob (Bi (a0.1,u1.1,u1.2.1,()) (((([]:List YB)++a1.1).length:Int),())) fun r2=>
 .ob (idx (([]:List YB)++a1.1) r2.1.1) fun e3=>
 .ob (Bi (a0.1,r2.2.2.1,r2.2.2.2.1,()) ((255:Int),())) fun r4=>
 .ob (idx (([]:List YB)++a1.1) r2.1.1) fun e5=>
 let q6:=((([]:List YB)++a1.1).set (r2.1.1).toNat ((u8.wrap ((BitVec.ofInt (u8.bits) (e3.1) ^^^ BitVec.ofInt (u8.bits) ((u8.wrap ((i64.wrap ((1:Int)+r4.1.1)))))).toNat:Nat)),()))
 .leaf ((q6,()),(a0.1,r4.2.2.1,r4.2.2.2.1,()))) (
 .leaf (((([]:List YB)++a1.1),()),(a0.1,u1.1,u1.2.1,())))) (
 .br (r1.1.1==(1:Int)) (
 .br (decide (((([]:List YB)++a1.1).length:Int)>(0:Int))) (
 .ob (Bi (a0.1,u1.1,u1.2.1,()) (((([]:List YB)++a1.1).length:Int),())) fun r7=>
 .chk (decide ((0:Int)<=r7.1.1)) <|
 .chk (decide (r7.1.1<=((([]:List YB)++a1.1).length:Int))) <|
 .leaf (((((([]:List YB)++a1.1).take (r7.1.1).toNat).drop ((0:Int)).toNat),()),(a0.1,r7.2.2.1,r7.2.2.2.1,()))) (
 .leaf (((([]:List YB)++a1.1),()),(a0.1,u1.1,u1.2.1,())))) (
 .br (r1.1.1==(2:Int)) (
 .ob (Ke (a0.1,u1.1,u1.2.1,())) fun r8=>
 .chk (decide ((([]:List YB)++a1.1).length+[((u8.wrap (r8.1.1)),())].length<=4294967296)) <|
 .leaf ((((([]:List YB)++a1.1)++[((u8.wrap (r8.1.1)),())]),()),(a0.1,r8.2.2.1,r8.2.2.2.1,()))) (
 .leaf (((([]:List YB)++a1.1),()),(a0.1,u1.1,u1.2.1,())))))
def Kh (a0:Aw) (a1:YBs):Option (YBs×Aw):=(An6 a0 a1).val
def An7 (a0:Aw):Tree (YI×YBs×Aw):=
 .ob (Bi a0 ((6:Int),())) fun r1=>letI u1:=r1.2.2;
 .br (r1.1.1==(0:Int)) (
 .ob (Bi (a0.1,u1.1,u1.2.1,()) ((2:Int),())) fun r2=>
 .ob (Df (a0.1,r2.2.2.1,r2.2.2.2.1,()) ((12:Int),())) fun r3=>
 .leaf (((i64.wrap ((5:Int)+r2.1.1)),()),r3.1,(a0.1,r3.2.2.1,r3.2.2.2.1,()))) (
 .br (r1.1.1==(1:Int)) (
 .ob (Bi (a0.1,u1.1,u1.2.1,()) ((2:Int),())) fun r4=>
 .ob (Df (a0.1,r4.2.2.1,r4.2.2.2.1,()) ((4:Int),())) fun r5=>
 .leaf (((i64.wrap ((7:Int)+r4.1.1)),()),r5.1,(a0.1,r5.2.2.1,r5.2.2.2.1,()))) (
 .ob (Cb (a0.1,u1.1,u1.2.1,()) ([((0:Int),()),((1:Int),()),((3:Int),()),((12:Int),()),((33:Int),()),((40:Int),())],())) fun r6=>
 .ob (Df (a0.1,r6.2.2.1,r6.2.2.2.1,()) r6.1) fun r7=>
 .leaf (((4:Int),()),r7.1,(a0.1,r7.2.2.1,r7.2.2.2.1,()))))
def Apv (a0:Aw):Option (YI×YBs×Aw):=(An7 a0).val
def An9 (a0:YI) (a1:YBs) (a2:YI) (a3:YI):Tree (YBs):=
 .ob (Bt a0 ((0:Int),()) ((1:Int),())) fun r1=>
 .br (!r1.1) (
 .leaf (([]:List YB),())) (
 .br ((a1.1.length:Int) != (12:Int)) (
 .leaf (([]:List YB),())) (
 .ob (Bt a2 ((0:Int),()) ((4294967295:Int),())) fun r2=>
 .br (!r2.1) (
 .leaf (([]:List YB),())) (
 .ob (Bt a3 ((0:Int),()) ((281474976710655:Int),())) fun r3=>
 .br (!r3.1) (
 .leaf (([]:List YB),())) (
 .chk (decide ([((u8.wrap (a0.1)),())].length+a1.1.length<=4294967296)) <|
 .ob (Ep (([((u8.wrap (a0.1)),())]++a1.1),()) a2 ((4:Int),())) fun r4=>
 .ob (Ep r4 a3 ((6:Int),())) fun r5=>
 .leaf r5))))
def Te (a0:YI) (a1:YBs) (a2:YI) (a3:YI):Option (YBs):=(An9 a0 a1 a2 a3).val
def Ajt (a0:YBs) (a1:YBs) (a2:YI):Tree (YBs):=
 .ob (Bt a2 ((0:Int),()) ((6:Int),())) fun r1=>
 .br (!r1.1) (
 .leaf (([]:List YB),())) (
 .br (decide ((a1.1.length:Int)>(100:Int))) (
 .leaf (([]:List YB),())) (
 .chk (decide ([((115:Int),())].length+a1.1.length<=4294967296)) <|
 .ob (Ep (([((115:Int),())]++a1.1),()) a2 ((4:Int),())) fun r2=>
 .ob (Vo a0 r2) fun r3=>
 .leaf r3))
def Akk (a0:YBs) (a1:YBs) (a2:YI):Option (YBs):=(Ajt a0 a1 a2).val
def Nt (x2:(List YB)×(List YB)×Int×(List YB)×Int×Unit):Option (((List YB)×(List YB)×Int×(List YB)×Int×Unit)⊕((Int×(List YB)×Unit))):=
 letI u1:=x2.2.2;Tree.val <|
 .br (decide ((x2.2.2.2.1.length:Int)<u1.1)) (
 .ob (Akk (x2.1,()) (x2.2.1,()) (u1.2.2.1,())) fun r3=>
 .chk (decide (x2.2.2.2.1.length+r3.1.length<=4294967296)) <|
 .leaf (.inl (x2.1,x2.2.1,u1.1,(u1.2.1++r3.1),(i64.wrap (u1.2.2.1+(1:Int))),()))) (
 .leaf (.inr (u1.1,u1.2.1,())))
def Aoa (a0:YBs) (a1:YBs) (a2:YI):Tree (YBs):=
 .ob (Bt a2 ((0:Int),()) ((200:Int),())) fun r1=>
 .br (!r1.1) (
 .leaf (([]:List YB),())) (
 .br (decide ((a1.1.length:Int)>(100:Int))) (
 .leaf (([]:List YB),())) (
 .br (decide ((a0.1.length:Int)>(1048576:Int))) (
 .leaf (([]:List YB),())) (
 .ob (Ay Nt (a0.1,a1.1,a2.1,([]:List YB),(0:Int),())) fun o4=>
 .chk (decide ((0:Int)<=o4.1)) <|
 .chk (decide (o4.1<=(o4.2.1.length:Int))) <|
 .chk (decide (([]:List YB).length+((o4.2.1.take (o4.1).toNat).drop ((0:Int)).toNat).length<=4294967296)) <|
 .leaf ((([]:List YB)++((o4.2.1.take (o4.1).toNat).drop ((0:Int)).toNat)),()))))
def Apw (a0:YBs) (a1:YBs) (a2:YI):Option (YBs):=(Aoa a0 a1 a2).val
def V7 (x2:(List YB)×(List YB)×(List YB)×Int×Unit):Option (((List YB)×(List YB)×(List YB)×Int×Unit)⊕(YBs)):=
 letI u1:=x2.2.2;Tree.val <|
 .br (decide (u1.2.1<(x2.1.length:Int))) (
 .ob (idx x2.1 u1.2.1) fun e3=>
 .ob (idx u1.1 u1.2.1) fun e4=>
 .chk (decide (x2.2.1.length+[((u8.wrap ((BitVec.ofInt (u8.bits) (e3.1) ^^^ BitVec.ofInt (u8.bits) (e4.1)).toNat:Nat)),())].length<=4294967296)) <|
 .leaf (.inl (x2.1,(x2.2.1++[((u8.wrap ((BitVec.ofInt (u8.bits) (e3.1) ^^^ BitVec.ofInt (u8.bits) (e4.1)).toNat:Nat)),())]),u1.1,(i64.wrap (u1.2.1+(1:Int))),()))) (
 .leaf (.inr (x2.2.1,())))
def A5d (a0:YBs) (a1:YBs) (a2:YBs):Tree (YBs):=
 .br (decide ((a2.1.length:Int)>(200:Int))) (
 .leaf (([]:List YB),())) (
 .br (decide ((a1.1.length:Int)>(100:Int))) (
 .leaf (([]:List YB),())) (
 .br (decide ((a0.1.length:Int)>(1048576:Int))) (
 .leaf (([]:List YB),())) (
 .ob (Apw a0 a1 ((a2.1.length:Int),())) fun r1=>
 .ob (Ay V7 (a2.1,([]:List YB),r1.1,(0:Int),())) fun o5=>
 .leaf o5)))
def Awl (a0:YBs) (a1:YBs) (a2:YBs):Option (YBs):=(A5d a0 a1 a2).val
def Afd (a0:YI) (a1:Ar):Tree (YBs):=
 letI u1:=a1.2.2.2.2.2.2.2;.ob (Bt a0 ((0:Int),()) ((1:Int),())) fun r1=>
 .br (!r1.1) (
 .leaf (([]:List YB),())) (
 .ob (Nd a1) fun r2=>
 .br (!r2.1) (
 .leaf (([]:List YB),())) (
 .ob (O8 (a1.1,())) fun r3=>
 .br (!r3.1) (
 .leaf (([]:List YB),())) (
 .ob (Te a0 (a1.2.2.2.1,()) (u1.1,()) (u1.2.1,())) fun r4=>
 .chk (decide ([((116:Int),())].length+r4.1.length<=4294967296)) <|
 .chk (decide (([((116:Int),())]++r4.1).length+[((u8.wrap (a1.1)),())].length<=4294967296)) <|
 .chk (decide ((([((116:Int),())]++r4.1)++[((u8.wrap (a1.1)),())]).length+a1.2.2.2.2.2.2.2.2.2.1.length<=4294967296)) <|
 .leaf (((([((116:Int),())]++r4.1)++[((u8.wrap (a1.1)),())])++u1.2.2.1),()))))
def Lk (a0:YI) (a1:Ar):Option (YBs):=(Afd a0 a1).val
def O0 (x5:(List YB)×Int×Int×Int×Int×(List YB)×(List YB)×Int×(List YB)×(List YB)×Int×Int×(List YB)×(List YB)×Int×Int×(List YB)×(List YB)×Int×(List YB)×(List YB)×Int×Int×(List YB)×(List YB)×Unit):Option (((List YB)×Int×Int×Int×Int×(List YB)×(List YB)×Int×(List YB)×(List YB)×Int×Int×(List YB)×(List YB)×Int×Int×(List YB)×(List YB)×Int×(List YB)×(List YB)×Int×Int×(List YB)×(List YB)×Unit)⊕(((List YB)×Int×Int×Int×(List YB)×(List YB)×Int×(List YB)×(List YB)×Int×Int×(List YB)×(List YB)×Int×Int×(List YB)×(List YB)×Int×(List YB)×(List YB)×Int×Int×(List YB)×(List YB)×Unit))):=
 letI u1:=x5.2.2;letI u2:=u1.2.2;letI u3:=u2.2.2;letI u4:=u3.2.2;letI u5:=u4.2.2;letI u6:=u5.2.2;letI u7:=u6.2.2;letI u8:=u7.2.2;letI u9:=u8.2.2;letI u10:=u9.2.2;letI u11:=u10.2.2;Tree.val <|
 .br (decide (u1.1<(16:Int))) (
 .chk (decide (x5.2.2.2.2.2.2.2.2.2.2.2.2.2.2.2.2.2.2.2.2.2.2.2.2.1.length+[((0:Int),())].length<=4294967296)) <|
 .leaf (.inl (x5.1,x5.2.1,(i64.wrap (u1.1+(1:Int))),u1.2.1,u2.1,u2.2.1,u3.1,u3.2.1,u4.1,u4.2.1,u5.1,u5.2.1,u6.1,u6.2.1,u7.1,u7.2.1,u8.1,u8.2.1,u9.1,u9.2.1,u10.1,u10.2.1,u11.1,u11.2.1,(u11.2.2.1++[((0:Int),())]),()))) (
 .leaf (.inr (x5.1,x5.2.1,u1.2.1,u2.1,u2.2.1,u3.1,u3.2.1,u4.1,u4.2.1,u5.1,u5.2.1,u6.1,u6.2.1,u7.1,u7.2.1,u8.1,u8.2.1,u9.1,u9.2.1,u10.1,u10.2.1,u11.1,u11.2.1,u11.2.2.1,())))
def Aob (a0:YBs) (a1:YI) (a2:YBs) (a3:YI) (a4:YI) (a5:YI) (a6:YBs):Tree (Ar×(Bool×Unit)):=
 .ob (Te a1 a2 a3 a4) fun r1=>
 .br ((a0.1.length:Int) != (32:Int)) (
 .leaf (((0:Int),(0:Int),([]:List YB),([]:List YB),(0:Int),([]:List YB),([]:List YB),(0:Int),(0:Int),([]:List YB),([]:List YB),()),(false,()))) (
 .br ((r1.1.length:Int)==(0:Int)) (
 .leaf (((0:Int),(0:Int),([]:List YB),([]:List YB),(0:Int),([]:List YB),([]:List YB),(0:Int),(0:Int),([]:List YB),([]:List YB),()),(false,()))) (
 .ob (O8 a5) fun r2=>
 .br (!r2.1) (
 .leaf (((0:Int),(0:Int),([]:List YB),([]:List YB),(0:Int),([]:List YB),([]:List YB),(0:Int),(0:Int),([]:List YB),([]:List YB),()),(false,()))) (
 .ob (Xg a5 ((a6.1.length:Int),())) fun r3=>
 .br (!r3.1) (
 .leaf (((0:Int),(0:Int),([]:List YB),([]:List YB),(0:Int),([]:List YB),([]:List YB),(0:Int),(0:Int),([]:List YB),([]:List YB),()),(false,()))) (
 .chk (decide (([]:List YB).length+a2.1.length<=4294967296)) <|
 .ob (Awl a0 r1 a6) fun r4=>
 .ob (Ay O0 (a0.1,a1.1,(0:Int),(0:Int),(0:Int),([]:List YB),([]:List YB),(0:Int),([]:List YB),([]:List YB),(0:Int),(0:Int),([]:List YB),([]:List YB),a5.1,(0:Int),([]:List YB),(([]:List YB)++a2.1),(0:Int),([]:List YB),([]:List YB),a3.1,a4.1,r4.1,([]:List YB),())) fun o6=>letI u1:=o6.2.2.2.2.2.2.2.2.2.2.2.2.2;letI u2:=u1.2.2;letI u3:=u2.2.2;letI u4:=u3.2.2;letI u5:=u4.2.2;
 .ob (Lk (o6.2.1,()) (u1.1,u1.2.1,u2.1,u2.2.1,u3.1,u3.2.1,u4.1,u4.2.1,u5.1,u5.2.1,u5.2.2.1,())) fun r7=>
 .ob (Aej (o6.1,()) r7) fun r8=>
 .leaf ((u1.1,u1.2.1,u2.1,u2.2.1,u3.1,u3.2.1,u4.1,u4.2.1,u5.1,u5.2.1,r8.1,()),(true,()))))))
def B0 (a0:YBs) (a1:YI) (a2:YBs) (a3:YI) (a4:YI) (a5:YI) (a6:YBs):Option (Ar×(Bool×Unit)):=(Aob a0 a1 a2 a3 a4 a5 a6).val
def Aod (a0:Aw) (a1:Ar):Tree (Ar×Aw):=
 .ob (Adx a1) fun r1=>letI u1:=r1.2.2;letI u2:=u1.2.2;letI u3:=u2.2.2;letI u4:=u3.2.2;letI u5:=u4.2.2;
 .ob (Bi a0 ((14:Int),())) fun r2=>letI u6:=r2.2.2;
 .br (r2.1.1==(0:Int)) (
 .ob (Cb (a0.1,u6.1,u6.2.1,()) ([((1:Int),()),((-1:Int),()),((7:Int),())],())) fun r3=>
 .leaf ((r1.1,r1.2.1,u1.1,u1.2.1,u2.1,u2.2.1,u3.1,u3.2.1,(i64.wrap (u4.1+r3.1.1)),u4.2.1,u5.1,()),(a0.1,r3.2.2.1,r3.2.2.2.1,()))) (
 .br (r2.1.1==(1:Int)) (
 .ob (Cb (a0.1,u6.1,u6.2.1,()) ([((1:Int),()),((-1:Int),())],())) fun r4=>
 .leaf ((r1.1,r1.2.1,u1.1,u1.2.1,u2.1,u2.2.1,u3.1,(i64.wrap (u3.2.1+r4.1.1)),u4.1,u4.2.1,u5.1,()),(a0.1,r4.2.2.1,r4.2.2.2.1,()))) (
 .br (r2.1.1==(2:Int)) (
 .ob (Kh (a0.1,u6.1,u6.2.1,()) (u1.2.1,())) fun r5=>
 .leaf ((r1.1,r1.2.1,u1.1,r5.1.1,u2.1,u2.2.1,u3.1,u3.2.1,u4.1,u4.2.1,u5.1,()),(a0.1,r5.2.2.1,r5.2.2.2.1,()))) (
 .br (r2.1.1==(3:Int)) (
 .ob (Kh (a0.1,u6.1,u6.2.1,()) (u4.2.1,())) fun r6=>
 .leaf ((r1.1,r1.2.1,u1.1,u1.2.1,u2.1,u2.2.1,u3.1,u3.2.1,u4.1,r6.1.1,u5.1,()),(a0.1,r6.2.2.1,r6.2.2.2.1,()))) (
 .br (r2.1.1==(4:Int)) (
 .ob (Kh (a0.1,u6.1,u6.2.1,()) (u4.2.1,())) fun r7=>
 .leaf ((r1.1,r1.2.1,u1.1,u1.2.1,u2.1,u2.2.1,u3.1,u3.2.1,u4.1,r7.1.1,u5.1,()),(a0.1,r7.2.2.1,r7.2.2.2.1,()))) (
 .br (r2.1.1==(5:Int)) (
 .ob (Kh (a0.1,u6.1,u6.2.1,()) (u5.1,())) fun r8=>
 .leaf ((r1.1,r1.2.1,u1.1,u1.2.1,u2.1,u2.2.1,u3.1,u3.2.1,u4.1,u4.2.1,r8.1.1,()),(a0.1,r8.2.2.1,r8.2.2.2.1,()))) (
 .br (r2.1.1==(6:Int)) (
 .ob (Kh (a0.1,u6.1,u6.2.1,()) (u5.1,())) fun r9=>
 .leaf ((r1.1,r1.2.1,u1.1,u1.2.1,u2.1,u2.2.1,u3.1,u3.2.1,u4.1,u4.2.1,r9.1.1,()),(a0.1,r9.2.2.1,r9.2.2.2.1,()))) (
 .br (r2.1.1==(7:Int)) (
 .ob (Bi (a0.1,u6.1,u6.2.1,()) ((10:Int),())) fun r10=>
 .leaf ((r10.1.1,r1.2.1,u1.1,u1.2.1,u2.1,u2.2.1,u3.1,u3.2.1,u4.1,u4.2.1,u5.1,()),(a0.1,r10.2.2.1,r10.2.2.2.1,()))) (
 .leaf (r1,(a0.1,u6.1,u6.2.1,()))))))))))
def B8 (a0:Aw) (a1:Ar):Option (Ar×Aw):=(Aod a0 a1).val
def Afe (a0:Aw) (a1:Ap):Tree (Ar×Aw):=
 letI u1:=a1.2.2;letI u2:=u1.2.2.2;letI u3:=u2.2.2;letI u4:=u3.2.2.2;letI u5:=u4.2.2.2.2;.ob (Apv a0) fun r1=>letI u6:=r1.2.2.2;
 .br u4.2.2.1 (
 .ob (Av (a0.1,u6.1,u6.2.1,()) ((3:Int),())) fun r2=>letI u7:=r2.2.2;
 .br r2.1.1 (
 .br (decide ((a1.2.2.2.2.2.2.2.2.2.2.2.2.2.2.1.length:Int)>(0:Int))) (
 .ob (Av (a0.1,u7.1,u7.2.1,()) ((2:Int),())) fun r3=>
 .br r3.1.1 (
 .ob (Fm ((i64.wrap (u1.1+(1:Int))),()) (u5.1,())) fun r4=>
 .ob (Cb (a0.1,r3.2.2.1,r3.2.2.2.1,()) ([((1:Int),()),((1:Int),()),((2:Int),()),((0:Int),()),((-1:Int),()),((5:Int),())],())) fun r5=>
 .br (decide ((i64.wrap (r4.2.2.2.1+r5.1.1))<(0:Int))) (
 .ob (Av (a0.1,r5.2.2.1,r5.2.2.2.1,()) ((10:Int),())) fun r6=>
 .br r6.1.1 (
 .ob (B0 (r4.2.1,()) (a1.1,()) (a1.2.1,()) (r4.1,()) ((0:Int),()) r1.1 r1.2.1) fun r7=>
 .ob (Av (a0.1,r6.2.2.1,r6.2.2.2.1,()) ((5:Int),())) fun r8=>
 .br r8.1.1 (
 .ob (B8 (a0.1,r8.2.2.1,r8.2.2.2.1,()) r7.1) fun r9=>
 .leaf (r9.1,(a0.1,r9.2.2.1,r9.2.2.2.1,()))) (
 .leaf (r7.1,(a0.1,r8.2.2.1,r8.2.2.2.1,())))) (
 .ob (B0 (r4.2.1,()) ((i64.wrap ((1:Int)-a1.1)),()) (a1.2.1,()) (r4.1,()) ((0:Int),()) r1.1 r1.2.1) fun r10=>
 .ob (Av (a0.1,r6.2.2.1,r6.2.2.2.1,()) ((5:Int),())) fun r11=>
 .br r11.1.1 (
 .ob (B8 (a0.1,r11.2.2.1,r11.2.2.2.1,()) r10.1) fun r12=>
 .leaf (r12.1,(a0.1,r12.2.2.1,r12.2.2.2.1,()))) (
 .leaf (r10.1,(a0.1,r11.2.2.1,r11.2.2.2.1,()))))) (
 .ob (Av (a0.1,r5.2.2.1,r5.2.2.2.1,()) ((10:Int),())) fun r13=>
 .br r13.1.1 (
 .ob (B0 (r4.2.1,()) (a1.1,()) (a1.2.1,()) (r4.1,()) ((i64.wrap (r4.2.2.2.1+r5.1.1)),()) r1.1 r1.2.1) fun r14=>
 .ob (Av (a0.1,r13.2.2.1,r13.2.2.2.1,()) ((5:Int),())) fun r15=>
 .br r15.1.1 (
 .ob (B8 (a0.1,r15.2.2.1,r15.2.2.2.1,()) r14.1) fun r16=>
 .leaf (r16.1,(a0.1,r16.2.2.1,r16.2.2.2.1,()))) (
 .leaf (r14.1,(a0.1,r15.2.2.1,r15.2.2.2.1,())))) (
 .ob (B0 (r4.2.1,()) ((i64.wrap ((1:Int)-a1.1)),()) (a1.2.1,()) (r4.1,()) ((i64.wrap (r4.2.2.2.1+r5.1.1)),()) r1.1 r1.2.1) fun r17=>
 .ob (Av (a0.1,r13.2.2.1,r13.2.2.2.1,()) ((5:Int),())) fun r18=>
 .br r18.1.1 (
 .ob (B8 (a0.1,r18.2.2.1,r18.2.2.2.1,()) r17.1) fun r19=>
 .leaf (r19.1,(a0.1,r19.2.2.1,r19.2.2.2.1,()))) (
 .leaf (r17.1,(a0.1,r18.2.2.1,r18.2.2.2.1,())))))) (
 .ob (Cb (a0.1,r3.2.2.1,r3.2.2.2.1,()) ([((1:Int),()),((1:Int),()),((2:Int),()),((0:Int),()),((-1:Int),()),((5:Int),())],())) fun r20=>
 .br (decide ((i64.wrap (u4.1+r20.1.1))<(0:Int))) (
 .ob (Av (a0.1,r20.2.2.1,r20.2.2.2.1,()) ((10:Int),())) fun r21=>
 .br r21.1.1 (
 .ob (B0 (u3.2.1,()) (a1.1,()) (a1.2.1,()) (u3.1,()) ((0:Int),()) r1.1 r1.2.1) fun r22=>
 .ob (Av (a0.1,r21.2.2.1,r21.2.2.2.1,()) ((5:Int),())) fun r23=>
 .br r23.1.1 (
 .ob (B8 (a0.1,r23.2.2.1,r23.2.2.2.1,()) r22.1) fun r24=>
 .leaf (r24.1,(a0.1,r24.2.2.1,r24.2.2.2.1,()))) (
 .leaf (r22.1,(a0.1,r23.2.2.1,r23.2.2.2.1,())))) (
 .ob (B0 (u3.2.1,()) ((i64.wrap ((1:Int)-a1.1)),()) (a1.2.1,()) (u3.1,()) ((0:Int),()) r1.1 r1.2.1) fun r25=>
 .ob (Av (a0.1,r21.2.2.1,r21.2.2.2.1,()) ((5:Int),())) fun r26=>
 .br r26.1.1 (
 .ob (B8 (a0.1,r26.2.2.1,r26.2.2.2.1,()) r25.1) fun r27=>
 .leaf (r27.1,(a0.1,r27.2.2.1,r27.2.2.2.1,()))) (
 .leaf (r25.1,(a0.1,r26.2.2.1,r26.2.2.2.1,()))))) (
 .ob (Av (a0.1,r20.2.2.1,r20.2.2.2.1,()) ((10:Int),())) fun r28=>
 .br r28.1.1 (
 .ob (B0 (u3.2.1,()) (a1.1,()) (a1.2.1,()) (u3.1,()) ((i64.wrap (u4.1+r20.1.1)),()) r1.1 r1.2.1) fun r29=>
 .ob (Av (a0.1,r28.2.2.1,r28.2.2.2.1,()) ((5:Int),())) fun r30=>
 .br r30.1.1 (
 .ob (B8 (a0.1,r30.2.2.1,r30.2.2.2.1,()) r29.1) fun r31=>
 .leaf (r31.1,(a0.1,r31.2.2.1,r31.2.2.2.1,()))) (
 .leaf (r29.1,(a0.1,r30.2.2.1,r30.2.2.2.1,())))) (
 .ob (B0 (u3.2.1,()) ((i64.wrap ((1:Int)-a1.1)),()) (a1.2.1,()) (u3.1,()) ((i64.wrap (u4.1+r20.1.1)),()) r1.1 r1.2.1) fun r32=>
 .ob (Av (a0.1,r28.2.2.1,r28.2.2.2.1,()) ((5:Int),())) fun r33=>
 .br r33.1.1 (
 .ob (B8 (a0.1,r33.2.2.1,r33.2.2.2.1,()) r32.1) fun r34=>
 .leaf (r34.1,(a0.1,r34.2.2.1,r34.2.2.2.1,()))) (
 .leaf (r32.1,(a0.1,r33.2.2.1,r33.2.2.2.1,()))))))) (
 .ob (Cb (a0.1,u7.1,u7.2.1,()) ([((1:Int),()),((1:Int),()),((2:Int),()),((0:Int),()),((-1:Int),()),((5:Int),())],())) fun r35=>
 .br (decide ((i64.wrap (u4.1+r35.1.1))<(0:Int))) (
 .ob (Av (a0.1,r35.2.2.1,r35.2.2.2.1,()) ((10:Int),())) fun r36=>
 .br r36.1.1 (
 .ob (B0 (u3.2.1,()) (a1.1,()) (a1.2.1,()) (u3.1,()) ((0:Int),()) r1.1 r1.2.1) fun r37=>
 .ob (Av (a0.1,r36.2.2.1,r36.2.2.2.1,()) ((5:Int),())) fun r38=>
 .br r38.1.1 (
 .ob (B8 (a0.1,r38.2.2.1,r38.2.2.2.1,()) r37.1) fun r39=>
 .leaf (r39.1,(a0.1,r39.2.2.1,r39.2.2.2.1,()))) (
 .leaf (r37.1,(a0.1,r38.2.2.1,r38.2.2.2.1,())))) (
 .ob (B0 (u3.2.1,()) ((i64.wrap ((1:Int)-a1.1)),()) (a1.2.1,()) (u3.1,()) ((0:Int),()) r1.1 r1.2.1) fun r40=>
 .ob (Av (a0.1,r36.2.2.1,r36.2.2.2.1,()) ((5:Int),())) fun r41=>
 .br r41.1.1 (
 .ob (B8 (a0.1,r41.2.2.1,r41.2.2.2.1,()) r40.1) fun r42=>
 .leaf (r42.1,(a0.1,r42.2.2.1,r42.2.2.2.1,()))) (
 .leaf (r40.1,(a0.1,r41.2.2.1,r41.2.2.2.1,()))))) (
 .ob (Av (a0.1,r35.2.2.1,r35.2.2.2.1,()) ((10:Int),())) fun r43=>
 .br r43.1.1 (
 .ob (B0 (u3.2.1,()) (a1.1,()) (a1.2.1,()) (u3.1,()) ((i64.wrap (u4.1+r35.1.1)),()) r1.1 r1.2.1) fun r44=>
 .ob (Av (a0.1,r43.2.2.1,r43.2.2.2.1,()) ((5:Int),())) fun r45=>
 .br r45.1.1 (
 .ob (B8 (a0.1,r45.2.2.1,r45.2.2.2.1,()) r44.1) fun r46=>
 .leaf (r46.1,(a0.1,r46.2.2.1,r46.2.2.2.1,()))) (
 .leaf (r44.1,(a0.1,r45.2.2.1,r45.2.2.2.1,())))) (
 .ob (B0 (u3.2.1,()) ((i64.wrap ((1:Int)-a1.1)),()) (a1.2.1,()) (u3.1,()) ((i64.wrap (u4.1+r35.1.1)),()) r1.1 r1.2.1) fun r47=>
 .ob (Av (a0.1,r43.2.2.1,r43.2.2.2.1,()) ((5:Int),())) fun r48=>
 .br r48.1.1 (
 .ob (B8 (a0.1,r48.2.2.1,r48.2.2.2.1,()) r47.1) fun r49=>
 .leaf (r49.1,(a0.1,r49.2.2.1,r49.2.2.2.1,()))) (
 .leaf (r47.1,(a0.1,r48.2.2.1,r48.2.2.2.1,()))))))) (
 .br (decide ((a1.2.2.2.2.2.2.2.2.2.2.2.2.2.2.1.length:Int)>(0:Int))) (
 .ob (Av (a0.1,u7.1,u7.2.1,()) ((2:Int),())) fun r50=>
 .br r50.1.1 (
 .ob (Fm ((i64.wrap (u1.1+(1:Int))),()) (u5.1,())) fun r51=>
 .ob (Cb (a0.1,r50.2.2.1,r50.2.2.2.1,()) ([((1:Int),()),((1:Int),()),((2:Int),()),((0:Int),()),((-1:Int),()),((5:Int),())],())) fun r52=>
 .br (decide ((i64.wrap (r51.2.2.2.1+r52.1.1))<(0:Int))) (
 .ob (Av (a0.1,r52.2.2.1,r52.2.2.2.1,()) ((10:Int),())) fun r53=>
 .br r53.1.1 (
 .ob (B0 (r51.2.1,()) (a1.1,()) (a1.2.1,()) (r51.1,()) ((0:Int),()) r1.1 r1.2.1) fun r54=>
 .ob (Av (a0.1,r53.2.2.1,r53.2.2.2.1,()) ((5:Int),())) fun r55=>
 .br r55.1.1 (
 .ob (B8 (a0.1,r55.2.2.1,r55.2.2.2.1,()) r54.1) fun r56=>
 .leaf (r56.1,(a0.1,r56.2.2.1,r56.2.2.2.1,()))) (
 .leaf (r54.1,(a0.1,r55.2.2.1,r55.2.2.2.1,())))) (
 .ob (B0 (r51.2.1,()) ((i64.wrap ((1:Int)-a1.1)),()) (a1.2.1,()) (r51.1,()) ((0:Int),()) r1.1 r1.2.1) fun r57=>
 .ob (Av (a0.1,r53.2.2.1,r53.2.2.2.1,()) ((5:Int),())) fun r58=>
 .br r58.1.1 (
 .ob (B8 (a0.1,r58.2.2.1,r58.2.2.2.1,()) r57.1) fun r59=>
 .leaf (r59.1,(a0.1,r59.2.2.1,r59.2.2.2.1,()))) (
 .leaf (r57.1,(a0.1,r58.2.2.1,r58.2.2.2.1,()))))) (
 .ob (Av (a0.1,r52.2.2.1,r52.2.2.2.1,()) ((10:Int),())) fun r60=>
 .br r60.1.1 (
 .ob (B0 (r51.2.1,()) (a1.1,()) (a1.2.1,()) (r51.1,()) ((i64.wrap (r51.2.2.2.1+r52.1.1)),()) r1.1 r1.2.1) fun r61=>
 .ob (Av (a0.1,r60.2.2.1,r60.2.2.2.1,()) ((5:Int),())) fun r62=>
 .br r62.1.1 (
 .ob (B8 (a0.1,r62.2.2.1,r62.2.2.2.1,()) r61.1) fun r63=>
 .leaf (r63.1,(a0.1,r63.2.2.1,r63.2.2.2.1,()))) (
 .leaf (r61.1,(a0.1,r62.2.2.1,r62.2.2.2.1,())))) (
 .ob (B0 (r51.2.1,()) ((i64.wrap ((1:Int)-a1.1)),()) (a1.2.1,()) (r51.1,()) ((i64.wrap (r51.2.2.2.1+r52.1.1)),()) r1.1 r1.2.1) fun r64=>
 .ob (Av (a0.1,r60.2.2.1,r60.2.2.2.1,()) ((5:Int),())) fun r65=>
 .br r65.1.1 (
 .ob (B8 (a0.1,r65.2.2.1,r65.2.2.2.1,()) r64.1) fun r66=>
 .leaf (r66.1,(a0.1,r66.2.2.1,r66.2.2.2.1,()))) (
 .leaf (r64.1,(a0.1,r65.2.2.1,r65.2.2.2.1,())))))) (
 .ob (Cb (a0.1,r50.2.2.1,r50.2.2.2.1,()) ([((1:Int),()),((1:Int),()),((2:Int),()),((0:Int),()),((-1:Int),()),((5:Int),())],())) fun r67=>
 .br (decide ((i64.wrap (u2.1+r67.1.1))<(0:Int))) (
 .ob (Av (a0.1,r67.2.2.1,r67.2.2.2.1,()) ((10:Int),())) fun r68=>
 .br r68.1.1 (
 .ob (B0 (u1.2.1,()) (a1.1,()) (a1.2.1,()) (u1.1,()) ((0:Int),()) r1.1 r1.2.1) fun r69=>
 .ob (Av (a0.1,r68.2.2.1,r68.2.2.2.1,()) ((5:Int),())) fun r70=>
 .br r70.1.1 (
 .ob (B8 (a0.1,r70.2.2.1,r70.2.2.2.1,()) r69.1) fun r71=>
 .leaf (r71.1,(a0.1,r71.2.2.1,r71.2.2.2.1,()))) (
 .leaf (r69.1,(a0.1,r70.2.2.1,r70.2.2.2.1,())))) (
 .ob (B0 (u1.2.1,()) ((i64.wrap ((1:Int)-a1.1)),()) (a1.2.1,()) (u1.1,()) ((0:Int),()) r1.1 r1.2.1) fun r72=>
 .ob (Av (a0.1,r68.2.2.1,r68.2.2.2.1,()) ((5:Int),())) fun r73=>
 .br r73.1.1 (
 .ob (B8 (a0.1,r73.2.2.1,r73.2.2.2.1,()) r72.1) fun r74=>
 .leaf (r74.1,(a0.1,r74.2.2.1,r74.2.2.2.1,()))) (
 .leaf (r72.1,(a0.1,r73.2.2.1,r73.2.2.2.1,()))))) (
 .ob (Av (a0.1,r67.2.2.1,r67.2.2.2.1,()) ((10:Int),())) fun r75=>
 .br r75.1.1 (
 .ob (B0 (u1.2.1,()) (a1.1,()) (a1.2.1,()) (u1.1,()) ((i64.wrap (u2.1+r67.1.1)),()) r1.1 r1.2.1) fun r76=>
 .ob (Av (a0.1,r75.2.2.1,r75.2.2.2.1,()) ((5:Int),())) fun r77=>
 .br r77.1.1 (
 .ob (B8 (a0.1,r77.2.2.1,r77.2.2.2.1,()) r76.1) fun r78=>
 .leaf (r78.1,(a0.1,r78.2.2.1,r78.2.2.2.1,()))) (
 .leaf (r76.1,(a0.1,r77.2.2.1,r77.2.2.2.1,())))) (
 .ob (B0 (u1.2.1,()) ((i64.wrap ((1:Int)-a1.1)),()) (a1.2.1,()) (u1.1,()) ((i64.wrap (u2.1+r67.1.1)),()) r1.1 r1.2.1) fun r79=>
 .ob (Av (a0.1,r75.2.2.1,r75.2.2.2.1,()) ((5:Int),())) fun r80=>
 .br r80.1.1 (
 .ob (B8 (a0.1,r80.2.2.1,r80.2.2.2.1,()) r79.1) fun r81=>
 .leaf (r81.1,(a0.1,r81.2.2.1,r81.2.2.2.1,()))) (
 .leaf (r79.1,(a0.1,r80.2.2.1,r80.2.2.2.1,()))))))) (
 .ob (Cb (a0.1,u7.1,u7.2.1,()) ([((1:Int),()),((1:Int),()),((2:Int),()),((0:Int),()),((-1:Int),()),((5:Int),())],())) fun r82=>
 .br (decide ((i64.wrap (u2.1+r82.1.1))<(0:Int))) (
 .ob (Av (a0.1,r82.2.2.1,r82.2.2.2.1,()) ((10:Int),())) fun r83=>
 .br r83.1.1 (
 .ob (B0 (u1.2.1,()) (a1.1,()) (a1.2.1,()) (u1.1,()) ((0:Int),()) r1.1 r1.2.1) fun r84=>
 .ob (Av (a0.1,r83.2.2.1,r83.2.2.2.1,()) ((5:Int),())) fun r85=>
 .br r85.1.1 (
 .ob (B8 (a0.1,r85.2.2.1,r85.2.2.2.1,()) r84.1) fun r86=>
 .leaf (r86.1,(a0.1,r86.2.2.1,r86.2.2.2.1,()))) (
 .leaf (r84.1,(a0.1,r85.2.2.1,r85.2.2.2.1,())))) (
 .ob (B0 (u1.2.1,()) ((i64.wrap ((1:Int)-a1.1)),()) (a1.2.1,()) (u1.1,()) ((0:Int),()) r1.1 r1.2.1) fun r87=>
 .ob (Av (a0.1,r83.2.2.1,r83.2.2.2.1,()) ((5:Int),())) fun r88=>
 .br r88.1.1 (
 .ob (B8 (a0.1,r88.2.2.1,r88.2.2.2.1,()) r87.1) fun r89=>
 .leaf (r89.1,(a0.1,r89.2.2.1,r89.2.2.2.1,()))) (
 .leaf (r87.1,(a0.1,r88.2.2.1,r88.2.2.2.1,()))))) (
 .ob (Av (a0.1,r82.2.2.1,r82.2.2.2.1,()) ((10:Int),())) fun r90=>
 .br r90.1.1 (
 .ob (B0 (u1.2.1,()) (a1.1,()) (a1.2.1,()) (u1.1,()) ((i64.wrap (u2.1+r82.1.1)),()) r1.1 r1.2.1) fun r91=>
 .ob (Av (a0.1,r90.2.2.1,r90.2.2.2.1,()) ((5:Int),())) fun r92=>
 .br r92.1.1 (
 .ob (B8 (a0.1,r92.2.2.1,r92.2.2.2.1,()) r91.1) fun r93=>
 .leaf (r93.1,(a0.1,r93.2.2.1,r93.2.2.2.1,()))) (
 .leaf (r91.1,(a0.1,r92.2.2.1,r92.2.2.2.1,())))) (
 .ob (B0 (u1.2.1,()) ((i64.wrap ((1:Int)-a1.1)),()) (a1.2.1,()) (u1.1,()) ((i64.wrap (u2.1+r82.1.1)),()) r1.1 r1.2.1) fun r94=>
 .ob (Av (a0.1,r90.2.2.1,r90.2.2.2.1,()) ((5:Int),())) fun r95=>
 .br r95.1.1 (
 .ob (B8 (a0.1,r95.2.2.1,r95.2.2.2.1,()) r94.1) fun r96=>
 .leaf (r96.1,(a0.1,r96.2.2.1,r96.2.2.2.1,()))) (
 .leaf (r94.1,(a0.1,r95.2.2.1,r95.2.2.2.1,())))))))) (
 .br (decide ((a1.2.2.2.2.2.2.2.2.2.2.2.2.2.2.1.length:Int)>(0:Int))) (
 .ob (Av (a0.1,u6.1,u6.2.1,()) ((2:Int),())) fun r97=>
 .br r97.1.1 (
 .ob (Fm ((i64.wrap (u1.1+(1:Int))),()) (u5.1,())) fun r98=>
 .ob (Cb (a0.1,r97.2.2.1,r97.2.2.2.1,()) ([((1:Int),()),((1:Int),()),((2:Int),()),((0:Int),()),((-1:Int),()),((5:Int),())],())) fun r99=>
 .br (decide ((i64.wrap (r98.2.2.2.1+r99.1.1))<(0:Int))) (
 .ob (Av (a0.1,r99.2.2.1,r99.2.2.2.1,()) ((10:Int),())) fun r100=>
 .br r100.1.1 (
 .ob (B0 (r98.2.1,()) (a1.1,()) (a1.2.1,()) (r98.1,()) ((0:Int),()) r1.1 r1.2.1) fun r101=>
 .ob (Av (a0.1,r100.2.2.1,r100.2.2.2.1,()) ((5:Int),())) fun r102=>
 .br r102.1.1 (
 .ob (B8 (a0.1,r102.2.2.1,r102.2.2.2.1,()) r101.1) fun r103=>
 .leaf (r103.1,(a0.1,r103.2.2.1,r103.2.2.2.1,()))) (
 .leaf (r101.1,(a0.1,r102.2.2.1,r102.2.2.2.1,())))) (
 .ob (B0 (r98.2.1,()) ((i64.wrap ((1:Int)-a1.1)),()) (a1.2.1,()) (r98.1,()) ((0:Int),()) r1.1 r1.2.1) fun r104=>
 .ob (Av (a0.1,r100.2.2.1,r100.2.2.2.1,()) ((5:Int),())) fun r105=>
 .br r105.1.1 (
 .ob (B8 (a0.1,r105.2.2.1,r105.2.2.2.1,()) r104.1) fun r106=>
 .leaf (r106.1,(a0.1,r106.2.2.1,r106.2.2.2.1,()))) (
 .leaf (r104.1,(a0.1,r105.2.2.1,r105.2.2.2.1,()))))) (
 .ob (Av (a0.1,r99.2.2.1,r99.2.2.2.1,()) ((10:Int),())) fun r107=>
 .br r107.1.1 (
 .ob (B0 (r98.2.1,()) (a1.1,()) (a1.2.1,()) (r98.1,()) ((i64.wrap (r98.2.2.2.1+r99.1.1)),()) r1.1 r1.2.1) fun r108=>
 .ob (Av (a0.1,r107.2.2.1,r107.2.2.2.1,()) ((5:Int),())) fun r109=>
 .br r109.1.1 (
 .ob (B8 (a0.1,r109.2.2.1,r109.2.2.2.1,()) r108.1) fun r110=>
 .leaf (r110.1,(a0.1,r110.2.2.1,r110.2.2.2.1,()))) (
 .leaf (r108.1,(a0.1,r109.2.2.1,r109.2.2.2.1,())))) (
 .ob (B0 (r98.2.1,()) ((i64.wrap ((1:Int)-a1.1)),()) (a1.2.1,()) (r98.1,()) ((i64.wrap (r98.2.2.2.1+r99.1.1)),()) r1.1 r1.2.1) fun r111=>
 .ob (Av (a0.1,r107.2.2.1,r107.2.2.2.1,()) ((5:Int),())) fun r112=>
 .br r112.1.1 (
 .ob (B8 (a0.1,r112.2.2.1,r112.2.2.2.1,()) r111.1) fun r113=>
 .leaf (r113.1,(a0.1,r113.2.2.1,r113.2.2.2.1,()))) (
 .leaf (r111.1,(a0.1,r112.2.2.1,r112.2.2.2.1,())))))) (
 .ob (Cb (a0.1,r97.2.2.1,r97.2.2.2.1,()) ([((1:Int),()),((1:Int),()),((2:Int),()),((0:Int),()),((-1:Int),()),((5:Int),())],())) fun r114=>
 .br (decide ((i64.wrap (u2.1+r114.1.1))<(0:Int))) (
 .ob (Av (a0.1,r114.2.2.1,r114.2.2.2.1,()) ((10:Int),())) fun r115=>
 .br r115.1.1 (
 .ob (B0 (u1.2.1,()) (a1.1,()) (a1.2.1,()) (u1.1,()) ((0:Int),()) r1.1 r1.2.1) fun r116=>
 .ob (Av (a0.1,r115.2.2.1,r115.2.2.2.1,()) ((5:Int),())) fun r117=>
 .br r117.1.1 (
 .ob (B8 (a0.1,r117.2.2.1,r117.2.2.2.1,()) r116.1) fun r118=>
 .leaf (r118.1,(a0.1,r118.2.2.1,r118.2.2.2.1,()))) (
 .leaf (r116.1,(a0.1,r117.2.2.1,r117.2.2.2.1,())))) (
 .ob (B0 (u1.2.1,()) ((i64.wrap ((1:Int)-a1.1)),()) (a1.2.1,()) (u1.1,()) ((0:Int),()) r1.1 r1.2.1) fun r119=>
 .ob (Av (a0.1,r115.2.2.1,r115.2.2.2.1,()) ((5:Int),())) fun r120=>
 .br r120.1.1 (
 .ob (B8 (a0.1,r120.2.2.1,r120.2.2.2.1,()) r119.1) fun r121=>
 .leaf (r121.1,(a0.1,r121.2.2.1,r121.2.2.2.1,()))) (
 .leaf (r119.1,(a0.1,r120.2.2.1,r120.2.2.2.1,()))))) (
 .ob (Av (a0.1,r114.2.2.1,r114.2.2.2.1,()) ((10:Int),())) fun r122=>
 .br r122.1.1 (
 .ob (B0 (u1.2.1,()) (a1.1,()) (a1.2.1,()) (u1.1,()) ((i64.wrap (u2.1+r114.1.1)),()) r1.1 r1.2.1) fun r123=>
 .ob (Av (a0.1,r122.2.2.1,r122.2.2.2.1,()) ((5:Int),())) fun r124=>
 .br r124.1.1 (
 .ob (B8 (a0.1,r124.2.2.1,r124.2.2.2.1,()) r123.1) fun r125=>
 .leaf (r125.1,(a0.1,r125.2.2.1,r125.2.2.2.1,()))) (
 .leaf (r123.1,(a0.1,r124.2.2.1,r124.2.2.2.1,())))) (
 .ob (B0 (u1.2.1,()) ((i64.wrap ((1:Int)-a1.1)),()) (a1.2.1,()) (u1.1,()) ((i64.wrap (u2.1+r114.1.1)),()) r1.1 r1.2.1) fun r126=>
 .ob (Av (a0.1,r122.2.2.1,r122.2.2.2.1,()) ((5:Int),())) fun r127=>
 .br r127.1.1 (
 .ob (B8 (a0.1,r127.2.2.1,r127.2.2.2.1,()) r126.1) fun r128=>
 .leaf (r128.1,(a0.1,r128.2.2.1,r128.2.2.2.1,()))) (
 .leaf (r126.1,(a0.1,r127.2.2.1,r127.2.2.2.1,()))))))) (
 .ob (Cb (a0.1,u6.1,u6.2.1,()) ([((1:Int),()),((1:Int),()),((2:Int),()),((0:Int),()),((-1:Int),()),((5:Int),())],())) fun r129=>
 .br (decide ((i64.wrap (u2.1+r129.1.1))<(0:Int))) (
 .ob (Av (a0.1,r129.2.2.1,r129.2.2.2.1,()) ((10:Int),())) fun r130=>
 .br r130.1.1 (
 .ob (B0 (u1.2.1,()) (a1.1,()) (a1.2.1,()) (u1.1,()) ((0:Int),()) r1.1 r1.2.1) fun r131=>
 .ob (Av (a0.1,r130.2.2.1,r130.2.2.2.1,()) ((5:Int),())) fun r132=>
 .br r132.1.1 (
 .ob (B8 (a0.1,r132.2.2.1,r132.2.2.2.1,()) r131.1) fun r133=>
 .leaf (r133.1,(a0.1,r133.2.2.1,r133.2.2.2.1,()))) (
 .leaf (r131.1,(a0.1,r132.2.2.1,r132.2.2.2.1,())))) (
 .ob (B0 (u1.2.1,()) ((i64.wrap ((1:Int)-a1.1)),()) (a1.2.1,()) (u1.1,()) ((0:Int),()) r1.1 r1.2.1) fun r134=>
 .ob (Av (a0.1,r130.2.2.1,r130.2.2.2.1,()) ((5:Int),())) fun r135=>
 .br r135.1.1 (
 .ob (B8 (a0.1,r135.2.2.1,r135.2.2.2.1,()) r134.1) fun r136=>
 .leaf (r136.1,(a0.1,r136.2.2.1,r136.2.2.2.1,()))) (
 .leaf (r134.1,(a0.1,r135.2.2.1,r135.2.2.2.1,()))))) (
 .ob (Av (a0.1,r129.2.2.1,r129.2.2.2.1,()) ((10:Int),())) fun r137=>
 .br r137.1.1 (
 .ob (B0 (u1.2.1,()) (a1.1,()) (a1.2.1,()) (u1.1,()) ((i64.wrap (u2.1+r129.1.1)),()) r1.1 r1.2.1) fun r138=>
 .ob (Av (a0.1,r137.2.2.1,r137.2.2.2.1,()) ((5:Int),())) fun r139=>
 .br r139.1.1 (
 .ob (B8 (a0.1,r139.2.2.1,r139.2.2.2.1,()) r138.1) fun r140=>
 .leaf (r140.1,(a0.1,r140.2.2.1,r140.2.2.2.1,()))) (
 .leaf (r138.1,(a0.1,r139.2.2.1,r139.2.2.2.1,())))) (
 .ob (B0 (u1.2.1,()) ((i64.wrap ((1:Int)-a1.1)),()) (a1.2.1,()) (u1.1,()) ((i64.wrap (u2.1+r129.1.1)),()) r1.1 r1.2.1) fun r141=>
 .ob (Av (a0.1,r137.2.2.1,r137.2.2.2.1,()) ((5:Int),())) fun r142=>
 .br r142.1.1 (
 .ob (B8 (a0.1,r142.2.2.1,r142.2.2.2.1,()) r141.1) fun r143=>
 .leaf (r143.1,(a0.1,r143.2.2.1,r143.2.2.2.1,()))) (
 .leaf (r141.1,(a0.1,r142.2.2.1,r142.2.2.2.1,())))))))
def Xk (a0:Aw) (a1:Ap):Option (Ar×Aw):=(Afe a0 a1).val
def Acr (a0:YI):Tree (YBs):=
 .ob (Bt a0 ((0:Int),()) ((4294967295:Int),())) fun r1=>
 .br (!r1.1) (
 .leaf (([]:List YB),())) (
 .ob (Ep (([]:List YB),()) a0 ((4:Int),())) fun r2=>
 .leaf r2)
def Fd (a0:YI):Option (YBs):=(Acr a0).val
def Aoe (a0:Aw):Tree (A6×Aw):=
 .ob (Av a0 ((3:Int),())) fun r1=>
 .br r1.1.1 (
 .ob (Bi (a0.1,r1.2.2.1,r1.2.2.2.1,()) ((16777216:Int),())) fun r2=>
 .ob (Ke (a0.1,r2.2.2.1,r2.2.2.2.1,())) fun r3=>
 .ob (Bi (a0.1,r3.2.2.1,r3.2.2.2.1,()) ((65536:Int),())) fun r4=>
 .leaf (((i64.wrap ((i64.wrap (r2.1.1*(256:Int)))+r3.1.1)),r4.1.1,()),(a0.1,r4.2.2.1,r4.2.2.2.1,()))) (
 .ob (Bi (a0.1,r1.2.2.1,r1.2.2.2.1,()) ((6:Int),())) fun r5=>
 .ob (Ic r5.1) fun r6=>
 .leaf (r6,(a0.1,r5.2.2.1,r5.2.2.2.1,())))
def Apx (a0:Aw):Option (A6×Aw):=(Aoe a0).val
def Atp (a0:Aw):Tree (YI×Aw):=
 .ob (Cb a0 ([((-1:Int),()),((0:Int),()),((1:Int),()),((2:Int),()),((255:Int),()),((256:Int),()),((65535:Int),()),((2147483647:Int),()),((2147483648:Int),()),((4294967295:Int),()),((4294967296:Int),()),((-2147483648:Int),()),((9223372036854775807:Int),()),((-9223372036854775808:Int),())],())) fun r1=>
 .leaf (r1.1,(a0.1,r1.2.2.1,r1.2.2.2.1,()))
def Auv (a0:Aw):Option (YI×Aw):=(Atp a0).val
def Atq (a0:Aw):Tree (A6×Aw):=
 .ob (Apx a0) fun r1=>
 .ob (Bi (a0.1,r1.2.2.1,r1.2.2.2.1,()) ((10:Int),())) fun r2=>letI u1:=r2.2.2;
 .br (r2.1.1==(0:Int)) (
 .ob (Auv (a0.1,u1.1,u1.2.1,())) fun r3=>
 .leaf ((r3.1.1,r1.1.2.1,()),(a0.1,r3.2.2.1,r3.2.2.2.1,()))) (
 .br (r2.1.1==(1:Int)) (
 .ob (Cb (a0.1,u1.1,u1.2.1,()) ([((-1:Int),()),((65535:Int),()),((65536:Int),()),((0:Int),())],())) fun r4=>
 .leaf ((r1.1.1,r4.1.1,()),(a0.1,r4.2.2.1,r4.2.2.2.1,()))) (
 .leaf (r1.1,(a0.1,u1.1,u1.2.1,()))))
def Gl (a0:Aw):Option (A6×Aw):=(Atq a0).val
def Aff (a0:Aw) (a1:Ak):Tree (A6×Ar×Aw):=
 letI u1:=a1.2.2;letI u2:=u1.2.2.2;letI u3:=u2.2.2.2;letI u4:=u3.2.2;letI u5:=u4.2.2.2;letI u6:=u5.2.2;letI u7:=u6.2.2.2;.ob (Av a0 ((2:Int),())) fun r1=>
 .br r1.1.1 (
 .ob (Bi (a0.1,r1.2.2.1,r1.2.2.2.1,()) ((7:Int),())) fun r2=>
 .ob (Ic ((i64.wrap ((1:Int)+r2.1.1)),())) fun r3=>
 .ob (Xk (a0.1,r2.2.2.1,r2.2.2.2.1,()) (u1.2.1,u1.2.2.1,u2.1,u2.2.1,u2.2.2.1,u3.1,u3.2.1,u4.1,u4.2.1,u4.2.2.1,u5.1,u5.2.1,u6.1,u6.2.1,u6.2.2.1,())) fun r4=>
 .ob (Bi (a0.1,r4.2.2.1,r4.2.2.2.1,()) ((5:Int),())) fun r5=>letI u8:=r5.2.2;
 .br (r5.1.1==(0:Int)) (
 .br (decide ((a1.2.2.2.2.2.2.2.2.2.2.2.2.2.2.2.2.2.2.2.2.1.length:Int)>(0:Int))) (
 .ob (Bi (a0.1,u8.1,u8.2.1,()) ((a1.2.2.2.2.2.2.2.2.2.2.2.2.2.2.2.2.2.2.2.2.1.length:Int),())) fun r6=>
 .ob (idx u7.2.2.1 r6.1.1) fun e7=>
 .ob (B0 (u2.2.1,()) ((0:Int),()) (u1.1,()) (u2.1,()) ((i64.wrap (u3.1+(1:Int))),()) ((6:Int),()) (e7.2.2.1,())) fun r8=>
 .ob (Av (a0.1,r6.2.2.1,r6.2.2.2.1,()) ((12:Int),())) fun r9=>
 .br r9.1.1 (
 .ob (Gl (a0.1,r9.2.2.1,r9.2.2.2.1,())) fun r10=>
 .leaf (r10.1,r8.1,(a0.1,r10.2.2.1,r10.2.2.2.1,()))) (
 .leaf ((e7.1,e7.2.1,()),r8.1,(a0.1,r9.2.2.1,r9.2.2.2.1,())))) (
 .ob (Av (a0.1,u8.1,u8.2.1,()) ((12:Int),())) fun r11=>
 .br r11.1.1 (
 .ob (Gl (a0.1,r11.2.2.1,r11.2.2.2.1,())) fun r12=>
 .leaf (r12.1,r4.1,(a0.1,r12.2.2.1,r12.2.2.2.1,()))) (
 .leaf (r3,r4.1,(a0.1,r11.2.2.1,r11.2.2.2.1,()))))) (
 .br (r5.1.1==(1:Int)) (
 .br u6.1 (
 .ob (Av (a0.1,u8.1,u8.2.1,()) ((2:Int),())) fun r13=>
 .br r13.1.1 (
 .ob (Fd ((i64.wrap (u4.1+(1:Int))),())) fun r14=>
 .ob (B0 (u4.2.1,()) ((0:Int),()) (u1.1,()) (u4.1,()) ((i64.wrap (u5.1+(1:Int))),()) ((7:Int),()) r14) fun r15=>
 .ob (Av (a0.1,r13.2.2.1,r13.2.2.2.1,()) ((12:Int),())) fun r16=>
 .br r16.1.1 (
 .ob (Gl (a0.1,r16.2.2.1,r16.2.2.2.1,())) fun r17=>
 .leaf (r17.1,r15.1,(a0.1,r17.2.2.1,r17.2.2.2.1,()))) (
 .leaf (r3,r15.1,(a0.1,r16.2.2.1,r16.2.2.2.1,())))) (
 .ob (Fd ((i64.wrap (u2.1+(1:Int))),())) fun r18=>
 .ob (B0 (u2.2.1,()) ((0:Int),()) (u1.1,()) (u2.1,()) ((i64.wrap (u3.1+(1:Int))),()) ((7:Int),()) r18) fun r19=>
 .ob (Av (a0.1,r13.2.2.1,r13.2.2.2.1,()) ((12:Int),())) fun r20=>
 .br r20.1.1 (
 .ob (Gl (a0.1,r20.2.2.1,r20.2.2.2.1,())) fun r21=>
 .leaf (r21.1,r19.1,(a0.1,r21.2.2.1,r21.2.2.2.1,()))) (
 .leaf (r3,r19.1,(a0.1,r20.2.2.1,r20.2.2.2.1,()))))) (
 .ob (Fd ((i64.wrap (u2.1+(1:Int))),())) fun r22=>
 .ob (B0 (u2.2.1,()) ((0:Int),()) (u1.1,()) (u2.1,()) ((i64.wrap (u3.1+(1:Int))),()) ((7:Int),()) r22) fun r23=>
 .ob (Av (a0.1,u8.1,u8.2.1,()) ((12:Int),())) fun r24=>
 .br r24.1.1 (
 .ob (Gl (a0.1,r24.2.2.1,r24.2.2.2.1,())) fun r25=>
 .leaf (r25.1,r23.1,(a0.1,r25.2.2.1,r25.2.2.2.1,()))) (
 .leaf (r3,r23.1,(a0.1,r24.2.2.1,r24.2.2.2.1,()))))) (
 .ob (Av (a0.1,u8.1,u8.2.1,()) ((12:Int),())) fun r26=>
 .br r26.1.1 (
 .ob (Gl (a0.1,r26.2.2.1,r26.2.2.2.1,())) fun r27=>
 .leaf (r27.1,r4.1,(a0.1,r27.2.2.1,r27.2.2.2.1,()))) (
 .leaf (r3,r4.1,(a0.1,r26.2.2.1,r26.2.2.2.1,())))))) (
 .ob (Xk (a0.1,r1.2.2.1,r1.2.2.2.1,()) (u1.2.1,u1.2.2.1,u2.1,u2.2.1,u2.2.2.1,u3.1,u3.2.1,u4.1,u4.2.1,u4.2.2.1,u5.1,u5.2.1,u6.1,u6.2.1,u6.2.2.1,())) fun r28=>
 .ob (Bi (a0.1,r28.2.2.1,r28.2.2.2.1,()) ((5:Int),())) fun r29=>letI u9:=r29.2.2;
 .br (r29.1.1==(0:Int)) (
 .br (decide ((a1.2.2.2.2.2.2.2.2.2.2.2.2.2.2.2.2.2.2.2.2.1.length:Int)>(0:Int))) (
 .ob (Bi (a0.1,u9.1,u9.2.1,()) ((a1.2.2.2.2.2.2.2.2.2.2.2.2.2.2.2.2.2.2.2.2.1.length:Int),())) fun r30=>
 .ob (idx u7.2.2.1 r30.1.1) fun e31=>
 .ob (B0 (u2.2.1,()) ((0:Int),()) (u1.1,()) (u2.1,()) ((i64.wrap (u3.1+(1:Int))),()) ((6:Int),()) (e31.2.2.1,())) fun r32=>
 .ob (Av (a0.1,r30.2.2.1,r30.2.2.2.1,()) ((12:Int),())) fun r33=>
 .br r33.1.1 (
 .ob (Gl (a0.1,r33.2.2.1,r33.2.2.2.1,())) fun r34=>
 .leaf (r34.1,r32.1,(a0.1,r34.2.2.1,r34.2.2.2.1,()))) (
 .leaf ((e31.1,e31.2.1,()),r32.1,(a0.1,r33.2.2.1,r33.2.2.2.1,())))) (
 .ob (Av (a0.1,u9.1,u9.2.1,()) ((12:Int),())) fun r35=>
 .br r35.1.1 (
 .ob (Gl (a0.1,r35.2.2.1,r35.2.2.2.1,())) fun r36=>
 .leaf (r36.1,r28.1,(a0.1,r36.2.2.1,r36.2.2.2.1,()))) (
 .leaf ((u7.1,u7.2.1,()),r28.1,(a0.1,r35.2.2.1,r35.2.2.2.1,()))))) (
 .br (r29.1.1==(1:Int)) (
 .br u6.1 (
 .ob (Av (a0.1,u9.1,u9.2.1,()) ((2:Int),())) fun r37=>
 .br r37.1.1 (
 .ob (Fd ((i64.wrap (u4.1+(1:Int))),())) fun r38=>
 .ob (B0 (u4.2.1,()) ((0:Int),()) (u1.1,()) (u4.1,()) ((i64.wrap (u5.1+(1:Int))),()) ((7:Int),()) r38) fun r39=>
 .ob (Av (a0.1,r37.2.2.1,r37.2.2.2.1,()) ((12:Int),())) fun r40=>
 .br r40.1.1 (
 .ob (Gl (a0.1,r40.2.2.1,r40.2.2.2.1,())) fun r41=>
 .leaf (r41.1,r39.1,(a0.1,r41.2.2.1,r41.2.2.2.1,()))) (
 .leaf ((u7.1,u7.2.1,()),r39.1,(a0.1,r40.2.2.1,r40.2.2.2.1,())))) (
 .ob (Fd ((i64.wrap (u2.1+(1:Int))),())) fun r42=>
 .ob (B0 (u2.2.1,()) ((0:Int),()) (u1.1,()) (u2.1,()) ((i64.wrap (u3.1+(1:Int))),()) ((7:Int),()) r42) fun r43=>
 .ob (Av (a0.1,r37.2.2.1,r37.2.2.2.1,()) ((12:Int),())) fun r44=>
 .br r44.1.1 (
 .ob (Gl (a0.1,r44.2.2.1,r44.2.2.2.1,())) fun r45=>
 .leaf (r45.1,r43.1,(a0.1,r45.2.2.1,r45.2.2.2.1,()))) (
 .leaf ((u7.1,u7.2.1,()),r43.1,(a0.1,r44.2.2.1,r44.2.2.2.1,()))))) (
 .ob (Fd ((i64.wrap (u2.1+(1:Int))),())) fun r46=>
 .ob (B0 (u2.2.1,()) ((0:Int),()) (u1.1,()) (u2.1,()) ((i64.wrap (u3.1+(1:Int))),()) ((7:Int),()) r46) fun r47=>
 .ob (Av (a0.1,u9.1,u9.2.1,()) ((12:Int),())) fun r48=>
 .br r48.1.1 (
 .ob (Gl (a0.1,r48.2.2.1,r48.2.2.2.1,())) fun r49=>
 .leaf (r49.1,r47.1,(a0.1,r49.2.2.1,r49.2.2.2.1,()))) (
 .leaf ((u7.1,u7.2.1,()),r47.1,(a0.1,r48.2.2.1,r48.2.2.2.1,()))))) (
 .ob (Av (a0.1,u9.1,u9.2.1,()) ((12:Int),())) fun r50=>
 .br r50.1.1 (
 .ob (Gl (a0.1,r50.2.2.1,r50.2.2.2.1,())) fun r51=>
 .leaf (r51.1,r28.1,(a0.1,r51.2.2.1,r51.2.2.2.1,()))) (
 .leaf ((u7.1,u7.2.1,()),r28.1,(a0.1,r50.2.2.1,r50.2.2.2.1,()))))))
def Ago (a0:Aw) (a1:Ak):Option (A6×Ar×Aw):=(Aff a0 a1).val
def O9 (a0:Aw) (j:YBs) (r2:A6) (r3:YI×Aw) (e:YBs) (x:Int) (cn sn:YBs) (c:Aw):Tree (YI×A6×YBs×Aw):=
 .ob (Zy j r2 ((i64.wrap ((1:Int)+x)),()) cn sn r3.1) fun r16=>
 .ob (He e ((i64.wrap ((1:Int)+x)),()) ((2:Int),(0:Int),cn.1,sn.1,r3.1.1,r16.1,([]:List YB),(0:Int),(0:Int),([]:List YB),([]:List YB),())) fun r17=>
 .ob (Lj r17.1) fun r18=>
 .ob (Av c ((3:Int),())) fun r19=>
 .br r19.1.1 (
 .ob (Kh (a0.1,r19.2.2.1,r19.2.2.2.1,()) r18) fun r20=>
 .ob (Cb (a0.1,r20.2.2.1,r20.2.2.2.1,()) ([((0:Int),()),((0:Int),()),((0:Int),()),((10:Int),()),((11:Int),())],())) fun r21=>
 .leaf (((i64.wrap (r3.1.1+r21.1.1)),()),r2,r20.1,(a0.1,r21.2.2.1,r21.2.2.2.1,()))) (
 .ob (Cb (a0.1,r19.2.2.1,r19.2.2.2.1,()) ([((0:Int),()),((0:Int),()),((0:Int),()),((10:Int),()),((11:Int),())],())) fun r22=>
 .leaf (((i64.wrap (r3.1.1+r22.1.1)),()),r2,r18,(a0.1,r22.2.2.1,r22.2.2.2.1,())))
def A0n (a0:Aw) (a1:Bs) (r2:A6) (r3:YI×Aw) (r4:YI×Aw):Tree (YI×A6×YBs×Aw):=
 .ob (Df (a0.1,r4.2.2.1,r4.2.2.2.1,()) ((12:Int),())) fun r8=>
 .ob (Df (a0.1,r8.2.2.1,r8.2.2.2.1,()) ((12:Int),())) fun r9=>
 .ob (Bi (a0.1,r9.2.2.1,r9.2.2.2.1,()) ((3:Int),())) fun r10=>letI u1:=r10.2.2;
 .br (decide ((i64.wrap ((1:Int)+r10.1.1))<=(a1.1.length:Int))) (
 .ob (idx a1.1 (i64.wrap ((i64.wrap ((1:Int)+r10.1.1))-(1:Int)))) fun e11=>
 .br (decide ((a1.2.2.2.2.2.1.length:Int)>(0:Int))) (
 .ob (Av (a0.1,u1.1,u1.2.1,()) ((3:Int),())) fun r12=>
 .br r12.1.1 (
 .ob (Bi (a0.1,r12.2.2.1,r12.2.2.2.1,()) ((a1.2.2.2.2.2.1.length:Int),())) fun r13=>
 .ob (idx a1.2.2.2.2.2.1 r13.1.1) fun e14=>
 .ob (Av (a0.1,r13.2.2.1,r13.2.2.2.1,()) ((2:Int),())) fun r15=>
 .br r15.1.1 (
 O9 a0 (a1.2.1,()) r2 r3 e11 r10.1.1 (e14.2.1,()) (e14.2.2.1,()) (a0.1,r15.2.2.1,r15.2.2.2.1,())) (
 O9 a0 (a1.2.1,()) r2 r3 e11 r10.1.1 r8.1 (e14.2.2.1,()) (a0.1,r15.2.2.1,r15.2.2.2.1,()))) (
 O9 a0 (a1.2.1,()) r2 r3 e11 r10.1.1 r8.1 r9.1 (a0.1,r12.2.2.1,r12.2.2.2.1,()))) (
 O9 a0 (a1.2.1,()) r2 r3 e11 r10.1.1 r8.1 r9.1 (a0.1,u1.1,u1.2.1,()))) (
 .br (decide ((a1.2.2.2.2.2.1.length:Int)>(0:Int))) (
 .ob (Av (a0.1,u1.1,u1.2.1,()) ((3:Int),())) fun r44=>
 .br r44.1.1 (
 .ob (Bi (a0.1,r44.2.2.1,r44.2.2.2.1,()) ((a1.2.2.2.2.2.1.length:Int),())) fun r45=>
 .ob (idx a1.2.2.2.2.2.1 r45.1.1) fun e46=>
 .ob (Av (a0.1,r45.2.2.1,r45.2.2.2.1,()) ((2:Int),())) fun r47=>
 .br r47.1.1 (
 O9 a0 (a1.2.1,()) r2 r3 ([((1:Int),())],()) r10.1.1 (e46.2.1,()) (e46.2.2.1,()) (a0.1,r47.2.2.1,r47.2.2.2.1,())) (
 O9 a0 (a1.2.1,()) r2 r3 ([((1:Int),())],()) r10.1.1 r8.1 (e46.2.2.1,()) (a0.1,r47.2.2.1,r47.2.2.2.1,()))) (
 O9 a0 (a1.2.1,()) r2 r3 ([((1:Int),())],()) r10.1.1 r8.1 r9.1 (a0.1,r44.2.2.1,r44.2.2.2.1,()))) (
 O9 a0 (a1.2.1,()) r2 r3 ([((1:Int),())],()) r10.1.1 r8.1 r9.1 (a0.1,u1.1,u1.2.1,())))
def Afg (a0:Aw) (a1:Bs):Tree (YI×A6×YBs×Aw):=
 .ob (Bi a0 ((9:Int),())) fun r1=>
 .ob (Ic ((i64.wrap ((1:Int)+r1.1.1)),())) fun r2=>
 .ob (Cb (a0.1,r1.2.2.1,r1.2.2.2.1,()) ([((0:Int),()),((5:Int),()),((6:Int),()),((8:Int),()),((300:Int),()),((95:Int),())],())) fun r3=>
 .ob (Bi (a0.1,r3.2.2.1,r3.2.2.2.1,()) ((5:Int),())) fun r4=>letI u1:=r4.2.2;
 .br (r4.1.1==(0:Int)) (
 .ob (Bi (a0.1,u1.1,u1.2.1,()) ((4:Int),())) fun r5=>
 .ob (Df (a0.1,r5.2.2.1,r5.2.2.2.1,()) ((12:Int),())) fun r6=>
 .ob (Lj ((1:Int),(i64.wrap ((1:Int)+r5.1.1)),r6.1.1,([]:List YB),(0:Int),([]:List YB),([]:List YB),(0:Int),(0:Int),([]:List YB),([]:List YB),())) fun r7=>
 .leaf (r3.1,r2,r7,(a0.1,r6.2.2.1,r6.2.2.2.1,()))) (
 .br (r4.1.1==(1:Int)) (A0n a0 a1 r2 r3 r4) (
 .br (r4.1.1==(2:Int)) (A0n a0 a1 r2 r3 r4) (
 .br (r4.1.1==(3:Int)) (
 .br (decide ((a1.2.2.2.2.2.1.length:Int)>(0:Int))) (
 .ob (Bi (a0.1,u1.1,u1.2.1,()) ((a1.2.2.2.2.2.1.length:Int),())) fun r144=>
 .ob (idx a1.2.2.2.2.2.1 r144.1.1) fun e145=>
 .ob (Ago (a0.1,r144.2.2.1,r144.2.2.2.1,()) e145) fun r146=>
 .ob (Cb (a0.1,r146.2.2.2.1,r146.2.2.2.2.1,()) ([((0:Int),()),((5:Int),()),((6:Int),()),((8:Int),())],())) fun r147=>
 .ob (Lj r146.2.1) fun r148=>
 .leaf (r147.1,r146.1,r148,(a0.1,r147.2.2.1,r147.2.2.2.1,()))) (
 .ob (Bi (a0.1,u1.1,u1.2.1,()) ((80:Int),())) fun r149=>
 .ob (Df (a0.1,r149.2.2.1,r149.2.2.2.1,()) r149.1) fun r150=>
 .leaf (r3.1,r2,r150.1,(a0.1,r150.2.2.1,r150.2.2.2.1,())))) (
 .ob (Bi (a0.1,u1.1,u1.2.1,()) ((80:Int),())) fun r151=>
 .ob (Df (a0.1,r151.2.2.1,r151.2.2.2.1,()) r151.1) fun r152=>
 .leaf (r3.1,r2,r152.1,(a0.1,r152.2.2.1,r152.2.2.2.1,()))))))
def Agp (a0:Aw) (a1:Bs):Option (YI×A6×YBs×Aw):=(Afg a0 a1).val
def S4 (a0:YBs):Tree (Bs×YI×A6×YBs):=
 .ob (Auq a0) fun r1=>
 .ob (Uq r1) fun r2=>
 .ob (Agp (r1.1,r2.2.2.1,r2.2.2.2.1,()) r2.1) fun r3=>
 .leaf (r2.1,r3.1,r3.2.1,r3.2.2.1)
def K8 (a0:YBs):Option (Bs×YI×A6×YBs):=(S4 a0).val
def Att (a0:YBs):Tree (YBs):=
 .chk (decide (([]:List YB).length+a0.1.length<=4294967296)) <|
 .leaf ((([]:List YB)++a0.1),())
def Bk (a0:YBs):Option (YBs):=(Att a0).val
def K4 (x1:(List YBs)×(List YBs)×Int×Int×Unit):Option (((List YBs)×(List YBs)×Int×Int×Unit)⊕(((List YBs)×Unit))):=
 letI u1:=x1.2.2;Tree.val <|
 .br (decide (u1.2.1<u1.1)) (
 .ob (idx x1.2.1 u1.2.1) fun e2=>
 .ob (Bk e2) fun r3=>
 .chk (decide (x1.1.length+[r3].length<=4294967296)) <|
 .leaf (.inl ((x1.1++[r3]),x1.2.1,u1.1,(i64.wrap (u1.2.1+(1:Int))),()))) (
 .leaf (.inr (x1.1,())))
def Afh (a0:(List YBs)×Unit):Tree (((List YBs)×Unit)):=
 .ob (Ay K4 (([]:List YBs),a0.1,(a0.1.length:Int),(0:Int),())) fun o4=>
 .leaf o4
def Agq (a0:(List YBs)×Unit):Option (((List YBs)×Unit)):=(Afh a0).val
def Ajv (a0:Dk):Tree (Dk):=
 .chk (decide (([]:List YI).length+a0.2.1.length<=4294967296)) <|
 .leaf (a0.1,(([]:List YI)++a0.2.1),())
def Abn (a0:Dk):Option (Dk):=(Ajv a0).val
def Aof (a0:YEp):Tree (YEp):=
 .ob (Bk (a0.2.1,())) fun r1=>
 .ob (Abn (a0.2.2.2.1,a0.2.2.2.2.1,())) fun r2=>
 .leaf (a0.1,r1.1,a0.2.2.1,r2.1,r2.2.1,())
def Tf (a0:YEp):Option (YEp):=(Aof a0).val
def Afi (a0:Ap):Tree (Ap):=
 letI u1:=a0.2.2.2;letI u2:=u1.2.2.2;letI u3:=u2.2.2.2.2;.ob (Bk (a0.2.1,())) fun r1=>
 .ob (Bk (u3.2.2.2.2.1,())) fun r2=>
 .ob (Tf (a0.2.2.1,u1.1,u1.2.1,u1.2.2.1,u2.1,())) fun r3=>
 .ob (Tf (u2.2.1,u2.2.2.1,u2.2.2.2.1,u3.1,u3.2.1,())) fun r4=>
 .leaf (a0.1,r1.1,r3.1,r3.2.1,r3.2.2.1,r3.2.2.2.1,r3.2.2.2.2.1,r4.1,r4.2.1,r4.2.2.1,r4.2.2.2.1,r4.2.2.2.2.1,u3.2.2.1,u3.2.2.2.1,r2.1,())
def Id (a0:Ap):Option (Ap):=(Afi a0).val
def Jt (x1:(List A8)×Int×Int×Int×Int×(List A8)×Int×Int×(List A8)×Unit):Option (((List A8)×Int×Int×Int×Int×(List A8)×Int×Int×(List A8)×Unit)⊕((Int×Int×(List A8)×Int×Int×(List A8)×Unit))):=
 letI u1:=x1.2.2;letI u2:=u1.2.2;letI u3:=u2.2.2;Tree.val <|
 .br (decide (u1.1<x1.2.1)) (
 .ob (idx x1.1 u1.1) fun e2=>
 .ob (Bk (e2.2.2.1,())) fun r3=>
 .chk (decide (x1.2.2.2.2.2.2.2.2.1.length+[(e2.1,e2.2.1,r3.1,e2.2.2.2.1,())].length<=4294967296)) <|
 .leaf (.inl (x1.1,x1.2.1,(i64.wrap (u1.1+(1:Int))),u1.2.1,u2.1,u2.2.1,u3.1,u3.2.1,(u3.2.2.1++[(e2.1,e2.2.1,r3.1,e2.2.2.2.1,())]),()))) (
 .leaf (.inr (u1.2.1,u2.1,u2.2.1,u3.1,u3.2.1,u3.2.2.1,())))
def Acs (a0:Bn):Tree (Bn):=
 .ob (Ay Jt (a0.2.2.1,(a0.2.2.1.length:Int),(0:Int),(0:Int),(0:Int),([]:List A8),a0.1,a0.2.1,([]:List A8),())) fun o4=>
 .leaf (o4.2.2.2.1,o4.2.2.2.2.1,o4.2.2.2.2.2.1,())
def Fe (a0:Bn):Option (Bn):=(Acs a0).val
def Afj (a0:Ak):Tree (Ak):=
 letI u1:=a0.2.2.2;letI u2:=u1.2.2.2;letI u3:=u2.2.2.2;letI u4:=u3.2.2.2;letI u5:=u4.2.2.2;letI u6:=u5.2.2.2.2;.ob (Bk (a0.2.1,())) fun r1=>
 .ob (Bk (a0.2.2.1,())) fun r2=>
 .ob (Id (u1.1,u1.2.1,u1.2.2.1,u2.1,u2.2.1,u2.2.2.1,u3.1,u3.2.1,u3.2.2.1,u4.1,u4.2.1,u4.2.2.1,u5.1,u5.2.1,u5.2.2.1,())) fun r3=>letI u7:=r3.2.2.2;letI u8:=u7.2.2.2;letI u9:=u8.2.2.2.2;
 .ob (Fe (u5.2.2.2.1,u6.1,u6.2.1,())) fun r4=>
 .leaf (a0.1,r1.1,r2.1,r3.1,r3.2.1,r3.2.2.1,u7.1,u7.2.1,u7.2.2.1,u8.1,u8.2.1,u8.2.2.1,u8.2.2.2.1,u9.1,u9.2.1,u9.2.2.1,u9.2.2.2.1,u9.2.2.2.2.1,r4.1,r4.2.1,r4.2.2.1,u6.2.2.1,u6.2.2.2.1,u6.2.2.2.2.1,())
def Jb (a0:Ak):Option (Ak):=(Afj a0).val
def L9 (x1:(List Ak)×Int×Int×Int×(List Ak)×Int×(List Ak)×Unit):Option (((List Ak)×Int×Int×Int×(List Ak)×Int×(List Ak)×Unit)⊕((Int×(List Ak)×Int×(List Ak)×Unit))):=
 letI u1:=x1.2.2;letI u2:=u1.2.2;Tree.val <|
 .br (decide (u1.1<x1.2.1)) (
 .ob (idx x1.1 u1.1) fun e2=>
 .ob (Jb e2) fun r3=>
 .chk (decide (x1.2.2.2.2.2.2.1.length+[r3].length<=4294967296)) <|
 .leaf (.inl (x1.1,x1.2.1,(i64.wrap (u1.1+(1:Int))),u1.2.1,u2.1,u2.2.1,(u2.2.2.1++[r3]),()))) (
 .leaf (.inr (u1.2.1,u2.1,u2.2.1,u2.2.2.1,())))
def Ajx (a0:Cj):Tree (Cj):=
 .ob (Ay L9 (a0.2.1,(a0.2.1.length:Int),(0:Int),(0:Int),([]:List Ak),a0.1,([]:List Ak),())) fun o4=>
 .leaf (o4.2.2.1,o4.2.2.2.1,())
def Qp (a0:Cj):Option (Cj):=(Ajx a0).val
def Wz (a0:(List Am)×Unit):Tree (((List Am)×Unit)):=
 .chk (decide (([]:List Am).length+a0.1.length<=4294967296)) <|
 .leaf ((([]:List Am)++a0.1),())
def Mq (a0:(List Am)×Unit):Option (((List Am)×Unit)):=(Wz a0).val
def Zs (a0:Bs):Tree (Bs):=
 letI u1:=a0.2.2.2;.ob (Agq (a0.1,())) fun r1=>
 .ob (Bk (a0.2.1,())) fun r2=>
 .ob (Bk (a0.2.2.1,())) fun r3=>
 .ob (Qp (u1.2.1,u1.2.2.1,())) fun r4=>
 .ob (Mq (u1.2.2.2.1,())) fun r5=>
 .leaf (r1.1,r2.1,r3.1,u1.1,r4.1,r4.2.1,r5.1,())
def Zz (a0:Bs):Option (Bs):=(Zs a0).val
def Aog (a0:YI) (a1:YI) (a2:YI):Tree ((Bool×Unit)):=
 .br (decide (a0.1≥a1.1)) (
 .leaf ((decide (a0.1<=a2.1)),())) (
 .leaf (false,()))
def Bg (a0:YI) (a1:YI) (a2:YI):Option ((Bool×Unit)):=(Aog a0 a1 a2).val
def A7m (a0:YBs):Tree ((Bool×Unit)):=
 .leaf (((a0.1.length:Int)==(32:Int)),())
def Aic (a0:YBs):Option ((Bool×Unit)):=(A7m a0).val
def Aoj (a0:Ge):Tree ((Bool×Unit)):=
 .ob (Bg ((a0.1.length:Int),()) ((1:Int),()) ((32:Int),())) fun r1=>
 .br r1.1 (
 .ob (Bg (a0.2.1,()) ((0:Int),()) ((10000:Int),())) fun r2=>
 .leaf r2) (
 .leaf (false,()))
def Ad0 (a0:Ge):Option ((Bool×Unit)):=(Aoj a0).val
def Kd (x1:Int×(List Ak)×Int×Int×Unit):Option ((Int×(List Ak)×Int×Int×Unit)⊕(YI)):=
 letI u1:=x1.2.2;Tree.val <|
 .br (decide (u1.2.1<u1.1)) (
 .ob (idx x1.2.1 u1.2.1) fun e2=>
 .br (!e2.2.2.2.2.2.2.2.2.2.2.2.2.2.2.2.2.2.2.2.2.2.2.2.1) (
 .leaf (.inl ((i64.wrap (x1.1+(1:Int))),x1.2.1,u1.1,(i64.wrap (u1.2.1+(1:Int))),()))) (
 .leaf (.inl (x1.1,x1.2.1,u1.1,(i64.wrap (u1.2.1+(1:Int))),())))) (
 .leaf (.inr (x1.1,())))
def Aok (a0:Cj):Tree (YI):=
 .ob (Ay Kd ((0:Int),a0.2.1,(a0.2.1.length:Int),(0:Int),())) fun o3=>
 .leaf o3
def Vq (a0:Cj):Option (YI):=(Aok a0).val
def Ax8 (a0:YBs):Tree ((Bool×Unit)):=
 .leaf (((a0.1.length:Int)==(12:Int)),())
def Dx (a0:YBs):Option ((Bool×Unit)):=(Ax8 a0).val
def Ar1 (a0:YBs) (a1:YBs):Tree ((Bool×Unit)):=
 .leaf ((decide ((T0 a0.1)=(T0 a1.1))),())
def Cf (a0:YBs) (a1:YBs):Option ((Bool×Unit)):=(Ar1 a0 a1).val
def Alo (x1:(List YI)×(List YI)×Int×Int×Unit):Option (((List YI)×(List YI)×Int×Int×Unit)⊕((Bool×Unit)⊕(Unit))):=
 letI u1:=x1.2.2;Tree.val <|
 .br (decide (u1.2.1<u1.1)) (
 .ob (idx x1.2.1 u1.2.1) fun e2=>
 .ob (idx x1.1 u1.2.1) fun e3=>
 .br (e2.1 != e3.1) (
 .leaf (.inr (.inl (false,())))) (
 .leaf (.inl (x1.1,x1.2.1,u1.1,(i64.wrap (u1.2.1+(1:Int))),())))) (
 .leaf (.inr (.inr ())))
def Afl (a0:(List YI)×Unit) (a1:(List YI)×Unit):Tree ((Bool×Unit)):=
 .br ((a0.1.length:Int) != (a1.1.length:Int)) (
 .leaf (false,())) (
 .ob (Ay Alo (a1.1,a0.1,(a0.1.length:Int),(0:Int),())) fun o4=>
 .sm o4 (fun o5=>
 .leaf o5) (fun o6=>
 .leaf (true,())))
def Agr (a0:(List YI)×Unit) (a1:(List YI)×Unit):Option ((Bool×Unit)):=(Afl a0 a1).val
def Aom (a0:YEp) (a1:YEp):Tree ((Bool×Unit)):=
 .br (a0.1==a1.1) (
 .ob (Cf (a0.2.1,()) (a1.2.1,())) fun r1=>
 .br r1.1 (
 .br (a0.2.2.1==a1.2.2.1) (
 .br (a0.2.2.2.1==a1.2.2.2.1) (
 .ob (Agr (a0.2.2.2.2.1,()) (a1.2.2.2.2.1,())) fun r2=>
 .leaf r2) (
 .leaf (false,()))) (
 .leaf (false,()))) (
 .leaf (false,()))) (
 .leaf (false,()))
def Xl (a0:YEp) (a1:YEp):Option ((Bool×Unit)):=(Aom a0 a1).val
def Zt (a0:Ap):Tree ((Bool×Unit)):=
 letI u1:=a0.2.2.2;letI u2:=u1.2.2.2;letI u3:=u2.2.2.2;.br (a0.1==(0:Int)) (
 .br ((a0.2.1.length:Int)==(0:Int)) (
 .ob (Xl (a0.2.2.1,u1.1,u1.2.1,u1.2.2.1,u2.1,()) ((0:Int),([]:List YB),(0:Int),(0:Int),([]:List YI),())) fun r1=>
 .br r1.1 (
 .ob (Xl (u2.2.1,u2.2.2.1,u3.1,u3.2.1,u3.2.2.1,()) ((0:Int),([]:List YB),(0:Int),(0:Int),([]:List YI),())) fun r2=>
 .br r2.1 (
 .br (!u3.2.2.2.1) (
 .br (u3.2.2.2.2.1==(0:Int)) (
 .leaf (((a0.2.2.2.2.2.2.2.2.2.2.2.2.2.2.1.length:Int)==(0:Int)),())) (
 .leaf (false,()))) (
 .leaf (false,()))) (
 .leaf (false,()))) (
 .leaf (false,()))) (
 .leaf (false,()))) (
 .leaf (false,()))
def Z0 (a0:Ap):Option ((Bool×Unit)):=(Zt a0).val
def Aon (a0:YI):Tree ((Bool×Unit)):=
 .br (a0.1==(0:Int)) (
 .leaf (true,())) (
 .leaf ((a0.1==(1:Int)),()))
def Pa (a0:YI):Option ((Bool×Unit)):=(Aon a0).val
def Nv (x1:(List YI)×Int×(List YI)×Int×Int×Unit):Option (((List YI)×Int×(List YI)×Int×Int×Unit)⊕((Bool×Unit)⊕((List YI)×Int×Unit))):=
 letI u1:=x1.2.2;Tree.val <|
 .br (decide (u1.2.2.1<u1.2.1)) (
 .ob (idx u1.1 u1.2.2.1) fun e2=>
 .ob (Bg e2 ((0:Int),()) ((4294967295:Int),())) fun r3=>
 .br (!r3.1) (
 .leaf (.inr (.inl (false,())))) (
 .leaf (.inl (x1.1,x1.2.1,u1.1,u1.2.1,(i64.wrap (u1.2.2.1+(1:Int))),())))) (
 .leaf (.inr (.inr (x1.1,x1.2.1,()))))
def Afm (a0:(List YI)×Unit) (a1:YI):Tree ((Bool×Unit)):=
 .ob (Ay Nv (a0.1,a1.1,a0.1,(a0.1.length:Int),(0:Int),())) fun o4=>
 .sm o4 (fun o5=>
 .leaf o5) (fun o6=>
 .leaf (((o6.1.length:Int)==o6.2.1),()))
def Ru (a0:(List YI)×Unit) (a1:YI):Option ((Bool×Unit)):=(Afm a0 a1).val
def Aop (a0:Dk) (a1:YI):Tree ((Bool×Unit)):=
 .chk (decide ((0:Int)<=a1.1)) <|
 .chk (decide ((0:Int)<=(a1.1%(1024:Int)))) <|
 .ob (idx a0.2.1 ((a1.1%(1024:Int))/(32:Int))) fun e1=>
 .chk (decide ((0:Int)<=a1.1)) <|
 .chk (decide ((0:Int)<=(a1.1%(32:Int)))) <|
 .leaf (((i64.wrap ((BitVec.ofInt (i64.bits) ((Int.fdiv e1.1 (2^(min ((a1.1%(32:Int))).toNat i64.bits)))) &&& BitVec.ofInt (i64.bits) ((1:Int))).toNat:Nat))==(1:Int)),())
def Xm (a0:Dk) (a1:YI):Option ((Bool×Unit)):=(Aop a0 a1).val
def Qi (x3:Int×Int×(List YI)×Unit):Option ((Int×Int×(List YI)×Unit)⊕((Bool×Unit)⊕Dk)):=
 Tree.val <|
 .br (decide (x3.1<(1024:Int))) (
 .ob (Xm (x3.2.1,x3.2.2.1,()) (x3.1,())) fun r4=>
 .br r4.1 (
 .leaf (.inr (.inl (false,())))) (
 .leaf (.inl ((i64.wrap (x3.1+(1:Int))),x3.2.1,x3.2.2.1,())))) (
 .leaf (.inr (.inr (x3.2.1,x3.2.2.1,()))))
def Aty (a0:Dk):Tree ((Bool×Unit)):=
 .ob (Bg (a0.1,()) ((-1:Int),()) ((281474976710655:Int),())) fun r1=>
 .br (!r1.1) (
 .leaf (false,())) (
 .ob (Ru (a0.2.1,()) ((32:Int),())) fun r2=>
 .br (!r2.1) (
 .leaf (false,())) (
 .ob (Ay Qi ((i64.wrap (a0.1+(1:Int))),a0.1,a0.2.1,())) fun o5=>
 .sm o5 (fun o6=>
 .leaf o6) (fun o7=>
 .br (o7.1==(-1:Int)) (
 .leaf (true,())) (
 .ob (Xm o7 (o7.1,())) fun r8=>
 .leaf r8))))
def Aid (a0:Dk):Option ((Bool×Unit)):=(Aty a0).val
def Az1 (a0:YEp):Tree ((Bool×Unit)):=
 .ob (Bg (a0.1,()) ((0:Int),()) ((4294967295:Int),())) fun r1=>
 .br r1.1 (
 .br ((a0.2.1.length:Int)==(32:Int)) (
 .ob (Bg (a0.2.2.1,()) ((0:Int),()) ((281474976710656:Int),())) fun r2=>
 .br r2.1 (
 .ob (Aid (a0.2.2.2.1,a0.2.2.2.2.1,())) fun r3=>
 .leaf r3) (
 .leaf (false,()))) (
 .leaf (false,()))) (
 .leaf (false,()))
def Z1 (a0:YEp):Option ((Bool×Unit)):=(Az1 a0).val
def Atz (a0:Ap):Tree ((Bool×Unit)):=
 letI u1:=a0.2.2.2.2.2.2.2;letI u2:=u1.2.2;letI u3:=u2.2.2;.br (!u3.2.1) (
 .ob (Xl (u1.1,u1.2.1,u2.1,u2.2.1,u3.1,()) ((0:Int),([]:List YB),(0:Int),(0:Int),([]:List YI),())) fun r1=>
 .br r1.1 (
 .leaf ((u3.2.2.1==(0:Int)),())) (
 .leaf (false,()))) (
 .ob (Z1 (u1.1,u1.2.1,u2.1,u2.2.1,u3.1,())) fun r2=>
 .br (!r2.1) (
 .leaf (false,())) (
 .br (u1.1 != (i64.wrap (a0.2.2.1-(1:Int)))) (
 .leaf (false,())) (
 .ob (Bg (u3.2.2.1,()) ((0:Int),()) ((1000005:Int),())) fun r3=>
 .br r3.1 (
 .leaf (true,())) (
 .br (u3.2.2.1==(-1:Int)) (
 .leaf ((a0.1==(1:Int)),())) (
 .leaf (false,()))))))
def Auw (a0:Ap):Option ((Bool×Unit)):=(Atz a0).val
def Aoq (a0:Ap):Tree ((Bool×Unit)):=
 letI u1:=a0.2.2;.ob (Pa (a0.1,())) fun r1=>
 .br (!r1.1) (
 .leaf (false,())) (
 .ob (Dx (a0.2.1,())) fun r2=>
 .br (!r2.1) (
 .leaf (false,())) (
 .ob (Z1 (u1.1,u1.2.1,u1.2.2.1,u1.2.2.2.1,u1.2.2.2.2.1,())) fun r3=>
 .br (!r3.1) (
 .leaf (false,())) (
 .ob (Auw a0) fun r4=>
 .br (!r4.1) (
 .leaf (false,())) (
 .br ((a0.2.2.2.2.2.2.2.2.2.2.2.2.2.2.1.length:Int)==(0:Int)) (
 .leaf (true,())) (
 .br (a0.1==(0:Int)) (
 .br ((a0.2.2.2.2.2.2.2.2.2.2.2.2.2.2.1.length:Int)==(32:Int)) (
 .leaf ((decide (u1.1<(4294967295:Int))),())) (
 .leaf (false,()))) (
 .leaf (false,())))))))
def Ki (a0:Ap):Option ((Bool×Unit)):=(Aoq a0).val
def Aor (a0:A6):Tree ((Bool×Unit)):=
 .ob (Bg (a0.1,()) ((0:Int),()) ((4294967295:Int),())) fun r1=>
 .br r1.1 (
 .ob (Bg (a0.2.1,()) ((0:Int),()) ((65535:Int),())) fun r2=>
 .leaf r2) (
 .leaf (false,()))
def Fu (a0:A6):Option ((Bool×Unit)):=(Aor a0).val
def J1 (x7:(List A8)×Int×Int×(List A8)×Int×Int×Int×Int×(List A8)×Int×Int×(List YB)×Int×Unit):Option (((List A8)×Int×Int×(List A8)×Int×Int×Int×Int×(List A8)×Int×Int×(List YB)×Int×Unit)⊕((Bool×Unit)⊕((List A8)×Int×Int×Int×Int×(List A8)×Unit))):=
 letI u1:=x7.2.2;letI u2:=u1.2.2.2;letI u3:=u2.2.2;letI u4:=u3.2.2;Tree.val <|
 .br (decide (u2.1<u1.2.2.1)) (
 .ob (idx u1.2.1 u2.1) fun e8=>
 .br (and (e8.1==u4.1) (and (e8.2.1==u4.2.1) true)) (
 .leaf (.inr (.inl (false,())))) (
 .leaf (.inl (x7.1,x7.2.1,u1.1,u1.2.1,u1.2.2.1,(i64.wrap (u2.1+(1:Int))),u2.2.1,u3.1,u3.2.1,u4.1,u4.2.1,u4.2.2.1,u4.2.2.2.1,())))) (
 .leaf (.inr (.inr (x7.1,x7.2.1,u1.1,u2.2.1,u3.1,u3.2.1,()))))
def Ma (x2:(List A8)×Int×Int×Int×Int×(List A8)×Unit):Option (((List A8)×Int×Int×Int×Int×(List A8)×Unit)⊕((Bool×Unit)⊕(Unit))):=
 letI u1:=x2.2.2;Tree.val <|
 .br (decide (u1.1<x2.2.1)) (
 .ob (idx x2.1 u1.1) fun e3=>
 .ob (Fu (e3.1,e3.2.1,())) fun r4=>
 .br (!r4.1) (
 .leaf (.inr (.inl (false,())))) (
 .br (and (e3.1==u1.2.1) (and (e3.2.1==u1.2.2.1) true)) (
 .leaf (.inr (.inl (false,())))) (
 .ob (Dx (e3.2.2.1,())) fun r5=>
 .br (!r5.1) (
 .leaf (.inr (.inl (false,())))) (
 .ob (Bg (e3.2.2.2.1,()) ((0:Int),()) ((1000006:Int),())) fun r6=>
 .br (!r6.1) (
 .leaf (.inr (.inl (false,())))) (
 .chk (decide ((0:Int)<=u1.1)) <|
 .chk (decide (u1.1<=(x2.2.2.2.2.2.1.length:Int))) <|
 .ob (Ay J1 (x2.1,x2.2.1,u1.1,((x2.2.2.2.2.2.1.take (u1.1).toNat).drop ((0:Int)).toNat),(((x2.2.2.2.2.2.1.take (u1.1).toNat).drop ((0:Int)).toNat).length:Int),(0:Int),u1.2.1,u1.2.2.1,u1.2.2.2.1,e3.1,e3.2.1,e3.2.2.1,e3.2.2.2.1,())) fun o9=>
 .sm o9 (fun o10=>
 .leaf (.inr (.inl o10))) (fun o11=>
 .leaf (.inl (o11.1,o11.2.1,(i64.wrap (o11.2.2.1+(1:Int))),o11.2.2.2.1,o11.2.2.2.2.1,o11.2.2.2.2.2.1,())))))))) (
 .leaf (.inr (.inr ())))
def Abc (a0:Bn):Tree ((Bool×Unit)):=
 .ob (Fu (a0.1,a0.2.1,())) fun r1=>
 .br (!r1.1) (
 .leaf (false,())) (
 .br (decide ((a0.2.2.1.length:Int)>(3:Int))) (
 .leaf (false,())) (
 .ob (Ay Ma (a0.2.2.1,(a0.2.2.1.length:Int),(0:Int),a0.1,a0.2.1,a0.2.2.1,())) fun o12=>
 .sm o12 (fun o13=>
 .leaf o13) (fun o14=>
 .leaf (true,()))))
def Ur (a0:Bn):Option ((Bool×Unit)):=(Abc a0).val
def Aos (a0:Ak):Tree ((Bool×Unit)):=
 letI u1:=a0.2.2;letI u2:=u1.2.2;letI u3:=u2.2.2;letI u4:=u3.2.2;letI u5:=u4.2.2;letI u6:=u5.2.2;letI u7:=u6.2.2;letI u8:=u7.2.2;letI u9:=u8.2.2;letI u10:=u9.2.2.2;.ob (Bg (a0.1,()) ((1:Int),()) ((9:Int),())) fun r1=>
 .br (!r1.1) (
 .leaf (false,())) (
 .ob (Dx (a0.2.1,())) fun r2=>
 .br (!r2.1) (
 .leaf (false,())) (
 .ob (Dx (u1.1,())) fun r3=>
 .br (!r3.1) (
 .leaf (false,())) (
 .ob (Bg (u10.1,()) ((0:Int),()) ((1000000:Int),())) fun r4=>
 .br (!r4.1) (
 .leaf (false,())) (
 .br u10.2.2.1 (
 .ob (Z0 (u1.2.1,u2.1,u2.2.1,u3.1,u3.2.1,u4.1,u4.2.1,u5.1,u5.2.1,u6.1,u6.2.1,u7.1,u7.2.1,u8.1,u8.2.1,())) fun r5=>
 .br r5.1 (
 .br (and (u9.1==(0:Int)) (and (u9.2.1==(0:Int)) true)) (
 .br ((a0.2.2.2.2.2.2.2.2.2.2.2.2.2.2.2.2.2.2.2.2.1.length:Int)==(0:Int)) (
 .leaf ((u10.2.1==(0:Int)),())) (
 .leaf (false,()))) (
 .leaf (false,()))) (
 .leaf (false,()))) (
 .ob (Ki (u1.2.1,u2.1,u2.2.1,u3.1,u3.2.1,u4.1,u4.2.1,u5.1,u5.2.1,u6.1,u6.2.1,u7.1,u7.2.1,u8.1,u8.2.1,())) fun r6=>
 .br r6.1 (
 .br (u1.2.1==(1:Int)) (
 .ob (Cf (u2.1,()) (u1.1,())) fun r7=>
 .br r7.1 (
 .ob (Ur (u9.1,u9.2.1,u9.2.2.1,())) fun r8=>
 .br r8.1 (
 .ob (Bg (u10.2.1,()) ((0:Int),()) ((1000000:Int),())) fun r9=>
 .leaf r9) (
 .leaf (false,()))) (
 .leaf (false,()))) (
 .leaf (false,()))) (
 .leaf (false,())))))))
def Pb (a0:Ak):Option ((Bool×Unit)):=(Aos a0).val
def Rh (x1:(List YB)×(List Ak)×Int×Int×Unit):Option (((List YB)×(List Ak)×Int×Int×Unit)⊕(YI⊕(Unit))):=
 letI u1:=x1.2.2;Tree.val <|
 .br (decide (u1.2.1<u1.1)) (
 .ob (idx x1.2.1 u1.2.1) fun e2=>
 .ob (Cf (e2.2.2.1,()) (x1.1,())) fun r3=>
 .br r3.1 (
 .leaf (.inr (.inl (u1.2.1,())))) (
 .leaf (.inl (x1.1,x1.2.1,u1.1,(i64.wrap (u1.2.1+(1:Int))),())))) (
 .leaf (.inr (.inr ())))
def Aot (a0:Cj) (a1:YBs):Tree (YI):=
 .ob (Ay Rh (a1.1,a0.2.1,(a0.2.1.length:Int),(0:Int),())) fun o4=>
 .sm o4 (fun o5=>
 .leaf o5) (fun o6=>
 .leaf ((-1:Int),()))
def Mr (a0:Cj) (a1:YBs):Option (YI):=(Aot a0 a1).val
def Ui (x3:(List Ak)×Int×Int×Int×(List Ak)×Unit):Option (((List Ak)×Int×Int×Int×(List Ak)×Unit)⊕((Bool×Unit)⊕(Unit))):=
 letI u1:=x3.2.2;Tree.val <|
 .br (decide (u1.1<x3.2.1)) (
 .ob (idx x3.1 u1.1) fun e4=>
 .ob (Pb e4) fun r5=>
 .br (!r5.1) (
 .leaf (.inr (.inl (false,())))) (
 .ob (Mr (u1.2.1,u1.2.2.1,()) (e4.2.2.1,())) fun r6=>
 .br (decide (r6.1<u1.1)) (
 .leaf (.inr (.inl (false,())))) (
 .leaf (.inl (x3.1,x3.2.1,(i64.wrap (u1.1+(1:Int))),u1.2.1,u1.2.2.1,()))))) (
 .leaf (.inr (.inr ())))
def At0 (a0:Cj):Tree ((Bool×Unit)):=
 .ob (Bg (a0.1,()) ((1:Int),()) ((6:Int),())) fun r1=>
 .br (!r1.1) (
 .leaf (false,())) (
 .br (decide ((a0.2.1.length:Int)>(12:Int))) (
 .leaf (false,())) (
 .ob (Vq a0) fun r2=>
 .br (decide (r2.1>a0.1)) (
 .leaf (false,())) (
 .ob (Ay Ui (a0.2.1,(a0.2.1.length:Int),(0:Int),a0.1,a0.2.1,())) fun o7=>
 .sm o7 (fun o8=>
 .leaf o8) (fun o9=>
 .leaf (true,())))))
def V9 (a0:Cj):Option ((Bool×Unit)):=(At0 a0).val
def Nw (x1:(List Am)×Int×Int×Int×Int×Unit):Option (((List Am)×Int×Int×Int×Int×Unit)⊕(YI⊕(Unit))):=
 letI u1:=x1.2.2;Tree.val <|
 .br (decide (u1.1<x1.2.1)) (
 .ob (idx x1.1 u1.1) fun e2=>
 .br (and (e2.1==u1.2.1) (and (e2.2.1==u1.2.2.1) true)) (
 .leaf (.inr (.inl (u1.1,())))) (
 .leaf (.inl (x1.1,x1.2.1,(i64.wrap (u1.1+(1:Int))),u1.2.1,u1.2.2.1,())))) (
 .leaf (.inr (.inr ())))
def Afp (a0:(List Am)×Unit) (a1:A6):Tree (YI):=
 .ob (Ay Nw (a0.1,(a0.1.length:Int),(0:Int),a1.1,a1.2.1,())) fun o3=>
 .sm o3 (fun o4=>
 .leaf o4) (fun o5=>
 .leaf ((-1:Int),()))
def N7 (a0:(List Am)×Unit) (a1:A6):Option (YI):=(Afp a0 a1).val
def Mn (x1:(List Am)×(List Am)×Int×Int×Unit):Option (((List Am)×(List Am)×Int×Int×Unit)⊕((Bool×Unit)⊕(Unit))):=
 letI u1:=x1.2.2;Tree.val <|
 .br (decide (u1.2.1<u1.1)) (
 .ob (idx x1.2.1 u1.2.1) fun e2=>
 .ob (Fu (e2.1,e2.2.1,())) fun r3=>
 .br (!r3.1) (
 .leaf (.inr (.inl (false,())))) (
 .ob (Bg (e2.2.2.1,()) ((0:Int),()) ((1000000:Int),())) fun r4=>
 .br (!r4.1) (
 .leaf (.inr (.inl (false,())))) (
 .ob (Bg (e2.2.2.2.1,()) ((0:Int),()) ((i64.wrap ((3:Int)*e2.2.2.1)),())) fun r5=>
 .br (!r5.1) (
 .leaf (.inr (.inl (false,())))) (
 .ob (N7 (x1.1,()) (e2.1,e2.2.1,())) fun r6=>
 .br (decide (r6.1<u1.2.1)) (
 .leaf (.inr (.inl (false,())))) (
 .leaf (.inl (x1.1,x1.2.1,u1.1,(i64.wrap (u1.2.1+(1:Int))),()))))))) (
 .leaf (.inr (.inr ())))
def Acv (a0:(List Am)×Unit):Tree ((Bool×Unit)):=
 .br (decide ((a0.1.length:Int)>(8:Int))) (
 .leaf (false,())) (
 .ob (Ay Mn (a0.1,a0.1,(a0.1.length:Int),(0:Int),())) fun o7=>
 .sm o7 (fun o8=>
 .leaf o8) (fun o9=>
 .leaf (true,())))
def Mh (a0:(List Am)×Unit):Option ((Bool×Unit)):=(Acv a0).val
def At1 (a0:YBs):Tree ((Bool×Unit)):=
 .ob (Bg ((a0.1.length:Int),()) ((1:Int),()) ((32:Int),())) fun r1=>
 .leaf r1
def Wa (a0:YBs):Option ((Bool×Unit)):=(At1 a0).val
def K5 (x6:(List YBs)×Int×Int×(List YBs)×(List YB)×(List YB)×Int×Int×(List Ak)×(List Am)×Unit):Option (((List YBs)×Int×Int×(List YBs)×(List YB)×(List YB)×Int×Int×(List Ak)×(List Am)×Unit)⊕((Bool×Unit)⊕Bs)):=
 letI u1:=x6.2.2;letI u2:=u1.2.2;letI u3:=u2.2.2.2;Tree.val <|
 .br (decide (u1.1<x6.2.1)) (
 .ob (idx x6.1 u1.1) fun e7=>
 .ob (Wa e7) fun r8=>
 .br (!r8.1) (
 .leaf (.inr (.inl (false,())))) (
 .leaf (.inl (x6.1,x6.2.1,(i64.wrap (u1.1+(1:Int))),u1.2.1,u2.1,u2.2.1,u2.2.2.1,u3.1,u3.2.1,u3.2.2.1,())))) (
 .leaf (.inr (.inr (u1.2.1,u2.1,u2.2.1,u2.2.2.1,u3.1,u3.2.1,u3.2.2.1,()))))
def Ju (x12:(List Ak)×Int×Int×(List YBs)×(List YB)×(List YB)×Int×Int×(List Ak)×(List Am)×Unit):Option (((List Ak)×Int×Int×(List YBs)×(List YB)×(List YB)×Int×Int×(List Ak)×(List Am)×Unit)⊕((Bool×Unit)⊕(Unit))):=
 letI u1:=x12.2.2;letI u2:=u1.2.2.2;Tree.val <|
 .br (decide (u1.1<x12.2.1)) (
 .ob (idx x12.1 u1.1) fun e13=>
 .br (decide (e13.1>(x12.2.2.2.1.length:Int))) (
 .leaf (.inr (.inl (false,())))) (
 .leaf (.inl (x12.1,x12.2.1,(i64.wrap (u1.1+(1:Int))),u1.2.1,u1.2.2.1,u2.1,u2.2.1,u2.2.2.1,u2.2.2.2.1,u2.2.2.2.2.1,())))) (
 .leaf (.inr (.inr ())))
def W3 (a0:Bs):Tree ((Bool×Unit)):=
 letI u1:=a0.2.2;letI u2:=u1.2.2;.ob (Bg ((a0.1.length:Int),()) ((1:Int),()) ((9:Int),())) fun r1=>
 .br (!r1.1) (
 .leaf (false,())) (
 .ob (Aic (a0.2.1,())) fun r2=>
 .br (!r2.1) (
 .leaf (false,())) (
 .ob (Ad0 (u1.1,u1.2.1,())) fun r3=>
 .br (!r3.1) (
 .leaf (false,())) (
 .ob (V9 (u2.1,u2.2.1,())) fun r4=>
 .br (!r4.1) (
 .leaf (false,())) (
 .ob (Mh (u2.2.2.1,())) fun r5=>
 .br (!r5.1) (
 .leaf (false,())) (
 .ob (Ay K5 (a0.1,(a0.1.length:Int),(0:Int),a0.1,a0.2.1,u1.1,u1.2.1,u2.1,u2.2.1,u2.2.2.1,())) fun o9=>
 .sm o9 (fun o10=>
 .leaf o10) (fun o11=>letI u3:=o11.2.2.2;
 .ob (Ay Ju (u3.2.2.1,(o11.2.2.2.2.2.1.length:Int),(0:Int),o11.1,o11.2.1,o11.2.2.1,u3.1,u3.2.1,u3.2.2.1,u3.2.2.2.1,())) fun o14=>
 .sm o14 (fun o15=>
 .leaf o15) (fun o16=>
 .leaf (true,()))))))))
def Rv (a0:Bs):Option ((Bool×Unit)):=(W3 a0).val
def Az3 (a0:(List Am)×Unit) (a1:A6) (a2:YI):Tree (((List Am)×Unit)):=
 .ob (Mq a0) fun r1=>
 .ob (Mh a0) fun r2=>
 .br (!r2.1) (
 .leaf r1) (
 .ob (Fu a1) fun r3=>
 .br (!r3.1) (
 .leaf r1) (
 .ob (Bg a2 ((0:Int),()) ((1000000:Int),())) fun r4=>
 .br (!r4.1) (
 .leaf r1) (
 .ob (N7 a0 a1) fun r5=>
 .br (decide (r5.1≥(0:Int))) (
 .ob (idx r1.1 r5.1) fun e6=>
 .ob (idx r1.1 r5.1) fun e7=>
 let q8:=(r1.1.set (r5.1).toNat (e7.1,e7.2.1,(if (1000000:Int)<(i64.wrap (e6.2.2.1+a2.1))then(1000000:Int)else(i64.wrap (e6.2.2.1+a2.1))),e7.2.2.2.1,()))
 .leaf (q8,())) (
 .br (decide ((a0.1.length:Int)<(8:Int))) (
 .chk (decide (r1.1.length+[(a1.1,a1.2.1,a2.1,(0:Int),())].length<=4294967296)) <|
 .leaf ((r1.1++[(a1.1,a1.2.1,a2.1,(0:Int),())]),())) (
 .leaf r1)))))
def A0o (a0:(List Am)×Unit) (a1:A6) (a2:YI):Option (((List Am)×Unit)):=(Az3 a0 a1 a2).val
def At3 (a0:YBs) (a1:YI):Tree (YBs×YBs):=
 .chk (decide ((0:Int)<=(if (a0.1.length:Int)<a1.1 then(a0.1.length:Int)else a1.1))) <|
 .chk (decide ((if (a0.1.length:Int)<a1.1 then(a0.1.length:Int)else a1.1)<=(a0.1.length:Int))) <|
 .ob (Bk (((a0.1.take ((if (a0.1.length:Int)<a1.1 then(a0.1.length:Int)else a1.1)).toNat).drop ((0:Int)).toNat),())) fun r1=>
 .chk (decide ((0:Int)<=(if (a0.1.length:Int)<a1.1 then(a0.1.length:Int)else a1.1))) <|
 .chk (decide ((if (a0.1.length:Int)<a1.1 then(a0.1.length:Int)else a1.1)<=(a0.1.length:Int))) <|
 .chk (decide ((a0.1.length:Int)<=(a0.1.length:Int))) <|
 .leaf (r1,(((a0.1.take ((a0.1.length:Int)).toNat).drop ((if (a0.1.length:Int)<a1.1 then(a0.1.length:Int)else a1.1)).toNat),()))
def Du (a0:YBs) (a1:YI):Option (YBs×YBs):=(At3 a0 a1).val
def A5h (a0:YBs) (a1:YI) (a2:YI):Tree (YBs×(Bool×Unit)):=
 .br (decide (a1.1<(0:Int))) (
 .leaf ((([]:List YB),()),(false,()))) (
 .br (decide (a2.1<(0:Int))) (
 .leaf ((([]:List YB),()),(false,()))) (
 .br (decide (a1.1>(a0.1.length:Int))) (
 .leaf ((([]:List YB),()),(false,()))) (
 .br (decide (a2.1>(i64.wrap ((a0.1.length:Int)-a1.1)))) (
 .leaf ((([]:List YB),()),(false,()))) (
 .chk (decide ((0:Int)<=a1.1)) <|
 .chk (decide (a1.1<=(i64.wrap (a1.1+a2.1)))) <|
 .chk (decide ((i64.wrap (a1.1+a2.1))<=(a0.1.length:Int))) <|
 .chk (decide (([]:List YB).length+((a0.1.take ((i64.wrap (a1.1+a2.1))).toNat).drop (a1.1).toNat).length<=4294967296)) <|
 .leaf (((([]:List YB)++((a0.1.take ((i64.wrap (a1.1+a2.1))).toNat).drop (a1.1).toNat)),()),(true,()))))))
def A5z (a0:YBs) (a1:YI) (a2:YI):Option (YBs×(Bool×Unit)):=(A5h a0 a1 a2).val
def S9 (x2:Int×Int×Int×(List YB)×Int×Int×Unit):Option ((Int×Int×Int×(List YB)×Int×Int×Unit)⊕((Int×Int×Int×Unit))):=
 letI u1:=x2.2.2;letI u2:=u1.2.2;Tree.val <|
 .br (decide (u2.2.1<u2.1)) (
 .ob (idx u1.2.1 u2.2.1) fun e3=>
 .leaf (.inl (x2.1,x2.2.1,(i64.wrap ((i64.wrap ((256:Int)*u1.1))+(i64.wrap (e3.1)))),u1.2.1,u2.1,(i64.wrap (u2.2.1+(1:Int))),()))) (
 .leaf (.inr (x2.1,x2.2.1,u1.1,())))
def Az5 (a0:YBs) (a1:YI) (a2:YI):Tree (YI×YI×(Bool×Unit)):=
 .br (decide (a2.1<(1:Int))) (
 .leaf (((0:Int),()),((0:Int),()),(false,()))) (
 .br (decide (a2.1>(6:Int))) (
 .leaf (((0:Int),()),((0:Int),()),(false,()))) (
 .ob (A5z a0 a1 a2) fun r1=>
 .br (!r1.2.1) (
 .leaf (((0:Int),()),((0:Int),()),(false,()))) (
 .ob (Ay S9 (a1.1,a2.1,(0:Int),r1.1.1,(r1.1.1.length:Int),(0:Int),())) fun o4=>
 .leaf ((o4.2.2.1,()),((i64.wrap (o4.1+o4.2.1)),()),(true,())))))
def Apy (a0:YBs) (a1:YI) (a2:YI):Option (YI×YI×(Bool×Unit)):=(Az5 a0 a1 a2).val
def Aov (a0:YBs) (a1:YI):Tree (YI×YBs):=
 .ob (Du a0 a1) fun r1=>
 .ob (Apy r1.1 ((0:Int),()) a1) fun r2=>
 .leaf (r2.1,r1.2)
def Gf (a0:YBs) (a1:YI):Option (YI×YBs):=(Aov a0 a1).val
def Aow (a0:YI):Tree ((Bool×Unit)):=
 .ob (Bg a0 ((4:Int),()) ((8:Int),())) fun r1=>
 .leaf r1
def Ms (a0:YI):Option ((Bool×Unit)):=(Aow a0).val
def Aox (a0:YI) (a1:YI):Tree ((Bool×Unit)):=
 .br (a0.1==(4:Int)) (
 .leaf ((decide (a1.1<=(40:Int))),())) (
 .br (a0.1==(5:Int)) (
 .leaf ((a1.1==(12:Int)),())) (
 .br (a0.1==(6:Int)) (
 .leaf ((a1.1==(12:Int)),())) (
 .leaf ((a1.1==(4:Int)),()))))
def Apz (a0:YI) (a1:YI):Option ((Bool×Unit)):=(Aox a0 a1).val
def Acw (a0:Ar) (a1:Ar):Tree ((Bool×Unit)):=
 letI u1:=a0.2.2.2;letI u2:=u1.2.2.2;letI u3:=a1.2.2.2;letI u4:=u3.2.2.2;.br (a0.1==a1.1) (
 .br (a0.2.1==a1.2.1) (
 .br (u1.2.1==u3.2.1) (
 .br (u2.2.1==u4.2.1) (
 .br (u2.2.2.1==u4.2.2.1) (
 .ob (Cf (a0.2.2.1,()) (a1.2.2.1,())) fun r1=>
 .br r1.1 (
 .ob (Cf (u1.1,()) (u3.1,())) fun r2=>
 .br r2.1 (
 .ob (Cf (u1.2.2.1,()) (u3.2.2.1,())) fun r3=>
 .br r3.1 (
 .ob (Cf (u2.1,()) (u4.1,())) fun r4=>
 .br r4.1 (
 .ob (Cf (u2.2.2.2.1,()) (u4.2.2.2.1,())) fun r5=>
 .br r5.1 (
 .ob (Cf (u2.2.2.2.2.1,()) (u4.2.2.2.2.1,())) fun r6=>
 .leaf r6) (
 .leaf (false,()))) (
 .leaf (false,()))) (
 .leaf (false,()))) (
 .leaf (false,()))) (
 .leaf (false,()))) (
 .leaf (false,()))) (
 .leaf (false,()))) (
 .leaf (false,()))) (
 .leaf (false,()))) (
 .leaf (false,()))
def Mi (a0:Ar) (a1:Ar):Option ((Bool×Unit)):=(Acw a0 a1).val
def Ajz (a0:Ar):Tree ((Bool×Unit)):=
 letI u1:=a0.2.2;letI u2:=u1.2.2;letI u3:=u2.2.2.2;.br (a0.1==(1:Int)) (
 .ob (Bg (a0.2.1,()) ((1:Int),()) ((9:Int),())) fun r1=>
 .br r1.1 (
 .ob (Dx (u1.1,())) fun r2=>
 .br r2.1 (
 .ob (Mi a0 (a0.1,a0.2.1,u1.1,([]:List YB),(0:Int),([]:List YB),([]:List YB),(0:Int),(0:Int),([]:List YB),([]:List YB),())) fun r3=>
 .leaf r3) (
 .leaf (false,()))) (
 .leaf (false,()))) (
 .br (a0.1==(2:Int)) (
 .ob (Dx (u1.1,())) fun r4=>
 .br r4.1 (
 .ob (Dx (u1.2.1,())) fun r5=>
 .br r5.1 (
 .ob (Bg (u2.1,()) ((0:Int),()) ((1000000:Int),())) fun r6=>
 .br r6.1 (
 .br ((a0.2.2.2.2.2.1.length:Int)==(16:Int)) (
 .ob (Mi a0 (a0.1,(0:Int),u1.1,u1.2.1,u2.1,u2.2.1,([]:List YB),(0:Int),(0:Int),([]:List YB),([]:List YB),())) fun r7=>
 .leaf r7) (
 .leaf (false,()))) (
 .leaf (false,()))) (
 .leaf (false,()))) (
 .leaf (false,()))) (
 .br (a0.1==(3:Int)) (
 .ob (Bg (a0.2.1,()) ((1:Int),()) ((9:Int),())) fun r8=>
 .br r8.1 (
 .ob (Dx (u1.1,())) fun r9=>
 .br r9.1 (
 .ob (Dx (u1.2.1,())) fun r10=>
 .br r10.1 (
 .ob (Bg (u2.1,()) ((0:Int),()) ((1000000:Int),())) fun r11=>
 .br r11.1 (
 .br ((a0.2.2.2.2.2.1.length:Int)==(16:Int)) (
 .br ((a0.2.2.2.2.2.2.1.length:Int)==(16:Int)) (
 .ob (Mi a0 (a0.1,a0.2.1,u1.1,u1.2.1,u2.1,u2.2.1,u2.2.2.1,(0:Int),(0:Int),([]:List YB),([]:List YB),())) fun r12=>
 .leaf r12) (
 .leaf (false,()))) (
 .leaf (false,()))) (
 .leaf (false,()))) (
 .leaf (false,()))) (
 .leaf (false,()))) (
 .leaf (false,()))) (
 .ob (Ms (a0.1,())) fun r13=>
 .br r13.1 (
 .ob (Dx (u1.2.1,())) fun r14=>
 .br r14.1 (
 .ob (Bg (u3.1,()) ((0:Int),()) ((4294967295:Int),())) fun r15=>
 .br r15.1 (
 .ob (Bg (u3.2.1,()) ((0:Int),()) ((281474976710655:Int),())) fun r16=>
 .br r16.1 (
 .br ((a0.2.2.2.2.2.2.2.2.2.2.1.length:Int)==(16:Int)) (
 .ob (Apz (a0.1,()) ((a0.2.2.2.2.2.2.2.2.2.1.length:Int),())) fun r17=>
 .br r17.1 (
 .ob (Mi a0 (a0.1,(0:Int),([]:List YB),u1.2.1,(0:Int),([]:List YB),([]:List YB),u3.1,u3.2.1,u3.2.2.1,u3.2.2.2.1,())) fun r18=>
 .leaf r18) (
 .leaf (false,()))) (
 .leaf (false,()))) (
 .leaf (false,()))) (
 .leaf (false,()))) (
 .leaf (false,()))) (
 .leaf (false,())))))
def Db (a0:Ar):Option ((Bool×Unit)):=(Ajz a0).val
def Nx (x1:(List YB)×(List YBs)×Int×Int×Unit):Option (((List YB)×(List YBs)×Int×Int×Unit)⊕(YBs)):=
 letI u1:=x1.2.2;Tree.val <|
 .br (decide (u1.2.1<u1.1)) (
 .ob (idx x1.2.1 u1.2.1) fun e2=>
 .chk (decide (x1.1.length+e2.1.length<=4294967296)) <|
 .leaf (.inl ((x1.1++e2.1),x1.2.1,u1.1,(i64.wrap (u1.2.1+(1:Int))),()))) (
 .leaf (.inr (x1.1,())))
def Aoy (a0:(List YBs)×Unit):Tree (YBs):=
 .ob (Ay Nx (([]:List YB),a0.1,(a0.1.length:Int),(0:Int),())) fun o3=>
 .leaf o3
def Eu (a0:(List YBs)×Unit):Option (YBs):=(Aoy a0).val
def A2u (x1:Int×(List YB)×Int×Unit):Option ((Int×(List YB)×Int×Unit)⊕(YBs)):=
 letI u1:=x1.2.2;Tree.val <|
 .br (decide (u1.1≥(0:Int))) (
 .chk (decide ((0:Int)<=(i64.wrap ((8:Int)*u1.1)))) <|
 .chk (decide (x1.2.1.length+[((u8.wrap ((i64.wrap ((BitVec.ofInt (i64.bits) ((Int.fdiv x1.1 (2^(min ((i64.wrap ((8:Int)*u1.1))).toNat i64.bits)))) &&& BitVec.ofInt (i64.bits) ((255:Int))).toNat:Nat)))),())].length<=4294967296)) <|
 .leaf (.inl (x1.1,(x1.2.1++[((u8.wrap ((i64.wrap ((BitVec.ofInt (i64.bits) ((Int.fdiv x1.1 (2^(min ((i64.wrap ((8:Int)*u1.1))).toNat i64.bits)))) &&& BitVec.ofInt (i64.bits) ((255:Int))).toNat:Nat)))),())]),(i64.wrap (u1.1-(1:Int))),()))) (
 .leaf (.inr (x1.2.1,())))
def Bbi (a0:YBs) (a1:YI) (a2:YI):Tree (YBs):=
 .chk (decide (([]:List YB).length+a0.1.length<=4294967296)) <|
 .br (decide (a2.1<(1:Int))) (
 .leaf ((([]:List YB)++a0.1),())) (
 .br (decide (a2.1>(6:Int))) (
 .leaf ((([]:List YB)++a0.1),())) (
 .ob (Ay A2u (a1.1,(([]:List YB)++a0.1),(i64.wrap (a2.1-(1:Int))),())) fun o2=>
 .leaf o2))
def Ff (a0:YBs) (a1:YI) (a2:YI):Option (YBs):=(Bbi a0 a1 a2).val
def Aft (a0:Ar):Tree (YBs):=
 letI u1:=a0.2.2;letI u2:=u1.2.2;letI u3:=u2.2.2.2;.ob (Db a0) fun r1=>
 .br (!r1.1) (
 .leaf (([]:List YB),())) (
 .br (a0.1==(1:Int)) (
 .ob (Eu ([([((u8.wrap (a0.1)),())],()),([((u8.wrap (a0.2.1)),())],()),(u1.1,()),((List.replicate ((20:Int)).toNat ((0:Int),())),())],())) fun r2=>
 .leaf r2) (
 .br (a0.1==(2:Int)) (
 .ob (Ff (([]:List YB),()) (u2.1,()) ((4:Int),())) fun r3=>
 .ob (Eu ([([((u8.wrap (a0.1)),())],()),(u1.1,()),(u1.2.1,()),r3,(u2.2.1,())],())) fun r4=>
 .leaf r4) (
 .br (a0.1==(3:Int)) (
 .ob (Ff (([]:List YB),()) (u2.1,()) ((4:Int),())) fun r5=>
 .ob (Eu ([([((u8.wrap (a0.1)),())],()),([((u8.wrap (a0.2.1)),())],()),(u1.1,()),(u1.2.1,()),r5,(u2.2.1,()),(u2.2.2.1,())],())) fun r6=>
 .leaf r6) (
 .ob (Ff (([]:List YB),()) (u3.1,()) ((4:Int),())) fun r7=>
 .ob (Ff (([]:List YB),()) (u3.2.1,()) ((6:Int),())) fun r8=>
 .ob (Eu ([([((u8.wrap (a0.1)),())],()),(u1.2.1,()),r7,r8,(u3.2.2.2.1,()),(u3.2.2.1,())],())) fun r9=>
 .leaf r9))))
def El (a0:Ar):Option (YBs):=(Aft a0).val
def Afu (a0:YBs):Tree (Ar×(Bool×Unit)):=
 .ob (Gf a0 ((1:Int),())) fun r1=>
 .br (r1.1.1==(1:Int)) (
 .ob (Gf r1.2 ((1:Int),())) fun r2=>
 .ob (Du r2.2 ((12:Int),())) fun r3=>
 .ob (Db (r1.1.1,r2.1.1,r3.1.1,([]:List YB),(0:Int),([]:List YB),([]:List YB),(0:Int),(0:Int),([]:List YB),([]:List YB),())) fun r4=>
 .br (!r4.1) (
 .leaf (((0:Int),(0:Int),([]:List YB),([]:List YB),(0:Int),([]:List YB),([]:List YB),(0:Int),(0:Int),([]:List YB),([]:List YB),()),(false,()))) (
 .ob (El (r1.1.1,r2.1.1,r3.1.1,([]:List YB),(0:Int),([]:List YB),([]:List YB),(0:Int),(0:Int),([]:List YB),([]:List YB),())) fun r5=>
 .ob (Cf r5 a0) fun r6=>
 .br (!r6.1) (
 .leaf (((0:Int),(0:Int),([]:List YB),([]:List YB),(0:Int),([]:List YB),([]:List YB),(0:Int),(0:Int),([]:List YB),([]:List YB),()),(false,()))) (
 .leaf ((r1.1.1,r2.1.1,r3.1.1,([]:List YB),(0:Int),([]:List YB),([]:List YB),(0:Int),(0:Int),([]:List YB),([]:List YB),()),(true,()))))) (
 .br (r1.1.1==(2:Int)) (
 .br (r1.1.1==(3:Int)) (
 .ob (Gf r1.2 ((1:Int),())) fun r7=>
 .ob (Du r7.2 ((12:Int),())) fun r8=>
 .ob (Du r8.2 ((12:Int),())) fun r9=>
 .ob (Gf r9.2 ((4:Int),())) fun r10=>
 .ob (Du r10.2 ((16:Int),())) fun r11=>
 .br (r1.1.1==(3:Int)) (
 .ob (Du r11.2 ((16:Int),())) fun r12=>
 .ob (Db (r1.1.1,r7.1.1,r8.1.1,r9.1.1,r10.1.1,r11.1.1,r12.1.1,(0:Int),(0:Int),([]:List YB),([]:List YB),())) fun r13=>
 .br (!r13.1) (
 .leaf (((0:Int),(0:Int),([]:List YB),([]:List YB),(0:Int),([]:List YB),([]:List YB),(0:Int),(0:Int),([]:List YB),([]:List YB),()),(false,()))) (
 .ob (El (r1.1.1,r7.1.1,r8.1.1,r9.1.1,r10.1.1,r11.1.1,r12.1.1,(0:Int),(0:Int),([]:List YB),([]:List YB),())) fun r14=>
 .ob (Cf r14 a0) fun r15=>
 .br (!r15.1) (
 .leaf (((0:Int),(0:Int),([]:List YB),([]:List YB),(0:Int),([]:List YB),([]:List YB),(0:Int),(0:Int),([]:List YB),([]:List YB),()),(false,()))) (
 .leaf ((r1.1.1,r7.1.1,r8.1.1,r9.1.1,r10.1.1,r11.1.1,r12.1.1,(0:Int),(0:Int),([]:List YB),([]:List YB),()),(true,()))))) (
 .ob (Db (r1.1.1,r7.1.1,r8.1.1,r9.1.1,r10.1.1,r11.1.1,([]:List YB),(0:Int),(0:Int),([]:List YB),([]:List YB),())) fun r16=>
 .br (!r16.1) (
 .leaf (((0:Int),(0:Int),([]:List YB),([]:List YB),(0:Int),([]:List YB),([]:List YB),(0:Int),(0:Int),([]:List YB),([]:List YB),()),(false,()))) (
 .ob (El (r1.1.1,r7.1.1,r8.1.1,r9.1.1,r10.1.1,r11.1.1,([]:List YB),(0:Int),(0:Int),([]:List YB),([]:List YB),())) fun r17=>
 .ob (Cf r17 a0) fun r18=>
 .br (!r18.1) (
 .leaf (((0:Int),(0:Int),([]:List YB),([]:List YB),(0:Int),([]:List YB),([]:List YB),(0:Int),(0:Int),([]:List YB),([]:List YB),()),(false,()))) (
 .leaf ((r1.1.1,r7.1.1,r8.1.1,r9.1.1,r10.1.1,r11.1.1,([]:List YB),(0:Int),(0:Int),([]:List YB),([]:List YB),()),(true,())))))) (
 .ob (Du r1.2 ((12:Int),())) fun r19=>
 .ob (Du r19.2 ((12:Int),())) fun r20=>
 .ob (Gf r20.2 ((4:Int),())) fun r21=>
 .ob (Du r21.2 ((16:Int),())) fun r22=>
 .br (r1.1.1==(3:Int)) (
 .ob (Du r22.2 ((16:Int),())) fun r23=>
 .ob (Db (r1.1.1,(0:Int),r19.1.1,r20.1.1,r21.1.1,r22.1.1,r23.1.1,(0:Int),(0:Int),([]:List YB),([]:List YB),())) fun r24=>
 .br (!r24.1) (
 .leaf (((0:Int),(0:Int),([]:List YB),([]:List YB),(0:Int),([]:List YB),([]:List YB),(0:Int),(0:Int),([]:List YB),([]:List YB),()),(false,()))) (
 .ob (El (r1.1.1,(0:Int),r19.1.1,r20.1.1,r21.1.1,r22.1.1,r23.1.1,(0:Int),(0:Int),([]:List YB),([]:List YB),())) fun r25=>
 .ob (Cf r25 a0) fun r26=>
 .br (!r26.1) (
 .leaf (((0:Int),(0:Int),([]:List YB),([]:List YB),(0:Int),([]:List YB),([]:List YB),(0:Int),(0:Int),([]:List YB),([]:List YB),()),(false,()))) (
 .leaf ((r1.1.1,(0:Int),r19.1.1,r20.1.1,r21.1.1,r22.1.1,r23.1.1,(0:Int),(0:Int),([]:List YB),([]:List YB),()),(true,()))))) (
 .ob (Db (r1.1.1,(0:Int),r19.1.1,r20.1.1,r21.1.1,r22.1.1,([]:List YB),(0:Int),(0:Int),([]:List YB),([]:List YB),())) fun r27=>
 .br (!r27.1) (
 .leaf (((0:Int),(0:Int),([]:List YB),([]:List YB),(0:Int),([]:List YB),([]:List YB),(0:Int),(0:Int),([]:List YB),([]:List YB),()),(false,()))) (
 .ob (El (r1.1.1,(0:Int),r19.1.1,r20.1.1,r21.1.1,r22.1.1,([]:List YB),(0:Int),(0:Int),([]:List YB),([]:List YB),())) fun r28=>
 .ob (Cf r28 a0) fun r29=>
 .br (!r29.1) (
 .leaf (((0:Int),(0:Int),([]:List YB),([]:List YB),(0:Int),([]:List YB),([]:List YB),(0:Int),(0:Int),([]:List YB),([]:List YB),()),(false,()))) (
 .leaf ((r1.1.1,(0:Int),r19.1.1,r20.1.1,r21.1.1,r22.1.1,([]:List YB),(0:Int),(0:Int),([]:List YB),([]:List YB),()),(true,()))))))) (
 .br (r1.1.1==(3:Int)) (
 .br (r1.1.1==(3:Int)) (
 .ob (Gf r1.2 ((1:Int),())) fun r30=>
 .ob (Du r30.2 ((12:Int),())) fun r31=>
 .ob (Du r31.2 ((12:Int),())) fun r32=>
 .ob (Gf r32.2 ((4:Int),())) fun r33=>
 .ob (Du r33.2 ((16:Int),())) fun r34=>
 .br (r1.1.1==(3:Int)) (
 .ob (Du r34.2 ((16:Int),())) fun r35=>
 .ob (Db (r1.1.1,r30.1.1,r31.1.1,r32.1.1,r33.1.1,r34.1.1,r35.1.1,(0:Int),(0:Int),([]:List YB),([]:List YB),())) fun r36=>
 .br (!r36.1) (
 .leaf (((0:Int),(0:Int),([]:List YB),([]:List YB),(0:Int),([]:List YB),([]:List YB),(0:Int),(0:Int),([]:List YB),([]:List YB),()),(false,()))) (
 .ob (El (r1.1.1,r30.1.1,r31.1.1,r32.1.1,r33.1.1,r34.1.1,r35.1.1,(0:Int),(0:Int),([]:List YB),([]:List YB),())) fun r37=>
 .ob (Cf r37 a0) fun r38=>
 .br (!r38.1) (
 .leaf (((0:Int),(0:Int),([]:List YB),([]:List YB),(0:Int),([]:List YB),([]:List YB),(0:Int),(0:Int),([]:List YB),([]:List YB),()),(false,()))) (
 .leaf ((r1.1.1,r30.1.1,r31.1.1,r32.1.1,r33.1.1,r34.1.1,r35.1.1,(0:Int),(0:Int),([]:List YB),([]:List YB),()),(true,()))))) (
 .ob (Db (r1.1.1,r30.1.1,r31.1.1,r32.1.1,r33.1.1,r34.1.1,([]:List YB),(0:Int),(0:Int),([]:List YB),([]:List YB),())) fun r39=>
 .br (!r39.1) (
 .leaf (((0:Int),(0:Int),([]:List YB),([]:List YB),(0:Int),([]:List YB),([]:List YB),(0:Int),(0:Int),([]:List YB),([]:List YB),()),(false,()))) (
 .ob (El (r1.1.1,r30.1.1,r31.1.1,r32.1.1,r33.1.1,r34.1.1,([]:List YB),(0:Int),(0:Int),([]:List YB),([]:List YB),())) fun r40=>
 .ob (Cf r40 a0) fun r41=>
 .br (!r41.1) (
 .leaf (((0:Int),(0:Int),([]:List YB),([]:List YB),(0:Int),([]:List YB),([]:List YB),(0:Int),(0:Int),([]:List YB),([]:List YB),()),(false,()))) (
 .leaf ((r1.1.1,r30.1.1,r31.1.1,r32.1.1,r33.1.1,r34.1.1,([]:List YB),(0:Int),(0:Int),([]:List YB),([]:List YB),()),(true,())))))) (
 .ob (Du r1.2 ((12:Int),())) fun r42=>
 .ob (Du r42.2 ((12:Int),())) fun r43=>
 .ob (Gf r43.2 ((4:Int),())) fun r44=>
 .ob (Du r44.2 ((16:Int),())) fun r45=>
 .br (r1.1.1==(3:Int)) (
 .ob (Du r45.2 ((16:Int),())) fun r46=>
 .ob (Db (r1.1.1,(0:Int),r42.1.1,r43.1.1,r44.1.1,r45.1.1,r46.1.1,(0:Int),(0:Int),([]:List YB),([]:List YB),())) fun r47=>
 .br (!r47.1) (
 .leaf (((0:Int),(0:Int),([]:List YB),([]:List YB),(0:Int),([]:List YB),([]:List YB),(0:Int),(0:Int),([]:List YB),([]:List YB),()),(false,()))) (
 .ob (El (r1.1.1,(0:Int),r42.1.1,r43.1.1,r44.1.1,r45.1.1,r46.1.1,(0:Int),(0:Int),([]:List YB),([]:List YB),())) fun r48=>
 .ob (Cf r48 a0) fun r49=>
 .br (!r49.1) (
 .leaf (((0:Int),(0:Int),([]:List YB),([]:List YB),(0:Int),([]:List YB),([]:List YB),(0:Int),(0:Int),([]:List YB),([]:List YB),()),(false,()))) (
 .leaf ((r1.1.1,(0:Int),r42.1.1,r43.1.1,r44.1.1,r45.1.1,r46.1.1,(0:Int),(0:Int),([]:List YB),([]:List YB),()),(true,()))))) (
 .ob (Db (r1.1.1,(0:Int),r42.1.1,r43.1.1,r44.1.1,r45.1.1,([]:List YB),(0:Int),(0:Int),([]:List YB),([]:List YB),())) fun r50=>
 .br (!r50.1) (
 .leaf (((0:Int),(0:Int),([]:List YB),([]:List YB),(0:Int),([]:List YB),([]:List YB),(0:Int),(0:Int),([]:List YB),([]:List YB),()),(false,()))) (
 .ob (El (r1.1.1,(0:Int),r42.1.1,r43.1.1,r44.1.1,r45.1.1,([]:List YB),(0:Int),(0:Int),([]:List YB),([]:List YB),())) fun r51=>
 .ob (Cf r51 a0) fun r52=>
 .br (!r52.1) (
 .leaf (((0:Int),(0:Int),([]:List YB),([]:List YB),(0:Int),([]:List YB),([]:List YB),(0:Int),(0:Int),([]:List YB),([]:List YB),()),(false,()))) (
 .leaf ((r1.1.1,(0:Int),r42.1.1,r43.1.1,r44.1.1,r45.1.1,([]:List YB),(0:Int),(0:Int),([]:List YB),([]:List YB),()),(true,()))))))) (
 .ob (Ms r1.1) fun r53=>
 .br r53.1 (
 .ob (Du r1.2 ((12:Int),())) fun r54=>
 .ob (Gf r54.2 ((4:Int),())) fun r55=>
 .ob (Gf r55.2 ((6:Int),())) fun r56=>
 .ob (Du r56.2 ((16:Int),())) fun r57=>
 .ob (Du r57.2 ((41:Int),())) fun r58=>
 .ob (Db (r1.1.1,(0:Int),([]:List YB),r54.1.1,(0:Int),([]:List YB),([]:List YB),r55.1.1,r56.1.1,r58.1.1,r57.1.1,())) fun r59=>
 .br (!r59.1) (
 .leaf (((0:Int),(0:Int),([]:List YB),([]:List YB),(0:Int),([]:List YB),([]:List YB),(0:Int),(0:Int),([]:List YB),([]:List YB),()),(false,()))) (
 .ob (El (r1.1.1,(0:Int),([]:List YB),r54.1.1,(0:Int),([]:List YB),([]:List YB),r55.1.1,r56.1.1,r58.1.1,r57.1.1,())) fun r60=>
 .ob (Cf r60 a0) fun r61=>
 .br (!r61.1) (
 .leaf (((0:Int),(0:Int),([]:List YB),([]:List YB),(0:Int),([]:List YB),([]:List YB),(0:Int),(0:Int),([]:List YB),([]:List YB),()),(false,()))) (
 .leaf ((r1.1.1,(0:Int),([]:List YB),r54.1.1,(0:Int),([]:List YB),([]:List YB),r55.1.1,r56.1.1,r58.1.1,r57.1.1,()),(true,()))))) (
 .ob (Db (r1.1.1,(0:Int),([]:List YB),([]:List YB),(0:Int),([]:List YB),([]:List YB),(0:Int),(0:Int),([]:List YB),([]:List YB),())) fun r62=>
 .br (!r62.1) (
 .leaf (((0:Int),(0:Int),([]:List YB),([]:List YB),(0:Int),([]:List YB),([]:List YB),(0:Int),(0:Int),([]:List YB),([]:List YB),()),(false,()))) (
 .ob (El (r1.1.1,(0:Int),([]:List YB),([]:List YB),(0:Int),([]:List YB),([]:List YB),(0:Int),(0:Int),([]:List YB),([]:List YB),())) fun r63=>
 .ob (Cf r63 a0) fun r64=>
 .br (!r64.1) (
 .leaf (((0:Int),(0:Int),([]:List YB),([]:List YB),(0:Int),([]:List YB),([]:List YB),(0:Int),(0:Int),([]:List YB),([]:List YB),()),(false,()))) (
 .leaf ((r1.1.1,(0:Int),([]:List YB),([]:List YB),(0:Int),([]:List YB),([]:List YB),(0:Int),(0:Int),([]:List YB),([]:List YB),()),(true,()))))))))
def Rw (a0:YBs):Option (Ar×(Bool×Unit)):=(Afu a0).val
def W4 (x1:(List Ak)×Int×Int×Int×Int×Unit):Option (((List Ak)×Int×Int×Int×Int×Unit)⊕((Bool×Unit)⊕(Unit))):=
 letI u1:=x1.2.2;Tree.val <|
 .br (decide (u1.1<x1.2.1)) (
 .ob (idx x1.1 u1.1) fun e2=>letI u2:=e2.2.2.2.2.2.2.2.2.2.2.2.2.2.2.2.2.2.2;
 .br (!u2.2.2.2.2.2.1) (
 .br (and (u2.1==u1.2.1) (and (u2.2.1==u1.2.2.1) true)) (
 .leaf (.inr (.inl (true,())))) (
 .leaf (.inl (x1.1,x1.2.1,(i64.wrap (u1.1+(1:Int))),u1.2.1,u1.2.2.1,())))) (
 .leaf (.inl (x1.1,x1.2.1,(i64.wrap (u1.1+(1:Int))),u1.2.1,u1.2.2.1,())))) (
 .leaf (.inr (.inr ())))
def Az6 (a0:Cj) (a1:A6):Tree ((Bool×Unit)):=
 .ob (Ay W4 (a0.2.1,(a0.2.1.length:Int),(0:Int),a1.1,a1.2.1,())) fun o3=>
 .sm o3 (fun o4=>
 .leaf o4) (fun o5=>
 .leaf (false,()))
def Vr (a0:Cj) (a1:A6):Option ((Bool×Unit)):=(Az6 a0 a1).val
def Abf (a0:(List Am)×Unit) (a1:A6):Tree (YI):=
 .ob (N7 a0 a1) fun r1=>
 .ob (Mh a0) fun r2=>
 .br (!r2.1) (
 .leaf ((0:Int),())) (
 .br (decide (r1.1<(0:Int))) (
 .leaf ((0:Int),())) (
 .ob (idx a0.1 r1.1) fun e3=>
 .ob (idx a0.1 r1.1) fun e4=>
 .leaf ((i64.wrap ((i64.wrap ((3:Int)*e3.2.2.1))-e4.2.2.2.1)),())))
def Kt (a0:(List Am)×Unit) (a1:A6):Option (YI):=(Abf a0 a1).val
def Ao1 (a0:Bs) (a1:A6) (a2:YI):Tree ((Bool×Unit)):=
 letI u1:=a0.2.2.2.2;.ob (Vr (u1.1,u1.2.1,()) a1) fun r1=>
 .br r1.1 (
 .leaf (true,())) (
 .ob (Kt (u1.2.2.1,()) a1) fun r2=>
 .leaf ((decide (r2.1≥a2.1)),()))
def Ad1 (a0:Bs) (a1:A6) (a2:YI):Option ((Bool×Unit)):=(Ao1 a0 a1 a2).val
def A7r:Tree (((List YI)×Unit)):=
 .leaf ([((1779033703:Int),()),((3144134277:Int),()),((1013904242:Int),()),((2773480762:Int),()),((1359893119:Int),()),((2600822924:Int),()),((528734635:Int),()),((1541459225:Int),())],())
def Blq:Option (((List YI)×Unit)):=(A7r).val
def Ayd:Tree (Qv):=
 .ob Blq fun r1=>
 .leaf (r1.1,([]:List YB),(0:Int),())
def Ayv:Option (Qv):=(Ayd).val
def Ao3 (a0:Qv):Tree ((Bool×Unit)):=
 .ob (Ru (a0.1,()) ((8:Int),())) fun r1=>
 .br r1.1 (
 .ob (Bg (a0.2.2.1,()) ((0:Int),()) ((1048576:Int),())) fun r2=>
 .br r2.1 (
 .chk (decide ((0:Int)<=a0.2.2.1)) <|
 .leaf (((a0.2.2.1%(64:Int))==(a0.2.1.length:Int)),())) (
 .leaf (false,()))) (
 .leaf (false,()))
def Ad2 (a0:Qv):Option ((Bool×Unit)):=(Ao3 a0).val
def A5k (a0:YI) (a1:YI):Tree (YI):=
 .br (decide (a1.1<(0:Int))) (
 .leaf ((i64.wrap ((BitVec.ofInt (i64.bits) (a0.1) &&& BitVec.ofInt (i64.bits) ((4294967295:Int))).toNat:Nat)),())) (
 .br (decide (a1.1>(31:Int))) (
 .leaf ((i64.wrap ((BitVec.ofInt (i64.bits) (a0.1) &&& BitVec.ofInt (i64.bits) ((4294967295:Int))).toNat:Nat)),())) (
 .chk (decide ((0:Int)<=a1.1)) <|
 .chk (decide ((0:Int)<=(i64.wrap ((32:Int)-a1.1)))) <|
 .leaf ((i64.wrap ((BitVec.ofInt (i64.bits) ((i64.wrap ((BitVec.ofInt (i64.bits) ((Int.fdiv (i64.wrap ((BitVec.ofInt (i64.bits) (a0.1) &&& BitVec.ofInt (i64.bits) ((4294967295:Int))).toNat:Nat)) (2^(min (a1.1).toNat i64.bits)))) ||| BitVec.ofInt (i64.bits) ((i64.wrap ((i64.wrap ((BitVec.ofInt (i64.bits) (a0.1) &&& BitVec.ofInt (i64.bits) ((4294967295:Int))).toNat:Nat))*2^(min ((i64.wrap ((32:Int)-a1.1))).toNat i64.bits))))).toNat:Nat))) &&& BitVec.ofInt (i64.bits) ((4294967295:Int))).toNat:Nat)),())))
def Mj (a0:YI) (a1:YI):Option (YI):=(A5k a0 a1).val
def K6 (x1:(List YB)×(List YI)×Int×Unit):Option (((List YB)×(List YI)×Int×Unit)⊕(((List YI)×Unit))):=
 letI u1:=x1.2.2;Tree.val <|
 .br (decide (u1.1<(16:Int))) (
 .ob (Apy (x1.1,()) ((i64.wrap ((4:Int)*u1.1)),()) ((4:Int),())) fun r2=>
 .ob (idx x1.2.1 u1.1) fun e3=>
 let q4:=(x1.2.1.set (u1.1).toNat r2.1)
 .leaf (.inl (x1.1,q4,(i64.wrap (u1.1+(1:Int))),()))) (
 .leaf (.inr (x1.2.1,())))
def K7 (x6:(List YI)×Int×Unit):Option (((List YI)×Int×Unit)⊕(((List YI)×Unit))):=
 Tree.val <|
 .br (decide (x6.2.1<(64:Int))) (
 .ob (idx x6.1 (i64.wrap (x6.2.1-(15:Int)))) fun e7=>
 .ob (idx x6.1 (i64.wrap (x6.2.1-(2:Int)))) fun e8=>
 .ob (Mj e7 ((7:Int),())) fun r9=>
 .ob (Mj e7 ((18:Int),())) fun r10=>
 .ob (Mj e8 ((17:Int),())) fun r11=>
 .ob (Mj e8 ((19:Int),())) fun r12=>
 .ob (idx x6.1 (i64.wrap (x6.2.1-(7:Int)))) fun e13=>
 .ob (idx x6.1 (i64.wrap (x6.2.1-(16:Int)))) fun e14=>
 .ob (idx x6.1 x6.2.1) fun e15=>
 let q16:=(x6.1.set (x6.2.1).toNat ((i64.wrap ((BitVec.ofInt (i64.bits) ((i64.wrap ((i64.wrap ((i64.wrap (e13.1+e14.1))+(i64.wrap ((BitVec.ofInt (i64.bits) ((i64.wrap ((BitVec.ofInt (i64.bits) (r9.1) ^^^ BitVec.ofInt (i64.bits) (r10.1)).toNat:Nat))) ^^^ BitVec.ofInt (i64.bits) ((Int.fdiv e7.1 (2^(min ((3:Int)).toNat i64.bits))))).toNat:Nat))))+(i64.wrap ((BitVec.ofInt (i64.bits) ((i64.wrap ((BitVec.ofInt (i64.bits) (r11.1) ^^^ BitVec.ofInt (i64.bits) (r12.1)).toNat:Nat))) ^^^ BitVec.ofInt (i64.bits) ((Int.fdiv e8.1 (2^(min ((10:Int)).toNat i64.bits))))).toNat:Nat))))) &&& BitVec.ofInt (i64.bits) ((4294967295:Int))).toNat:Nat)),()))
 .leaf (.inl (q16,(i64.wrap (x6.2.1+(1:Int))),()))) (
 .leaf (.inr (x6.1,())))
def W5 (a0:YBs):Tree (((List YI)×Unit)):=
 .br ((a0.1.length:Int) != (64:Int)) (
 .leaf (([]:List YI),())) (
 .ob (Ay K6 (a0.1,(List.replicate ((64:Int)).toNat ((0:Int),())),(0:Int),())) fun o5=>
 .ob (Ay K7 (o5.1,(16:Int),())) fun o17=>
 .leaf o17)
def Ags (a0:YBs):Option (((List YI)×Unit)):=(W5 a0).val
def Asa (a0:YI):Tree YI:=.leaf (Ab1 a0.1,())
def Asg (a0:YI):Option YI:=(Asa a0).val
def A7t (a0:YI) (a1:YI):Tree (YI):=
 .leaf ((i64.wrap ((BitVec.ofInt (i64.bits) ((i64.wrap (a0.1+a1.1))) &&& BitVec.ofInt (i64.bits) ((4294967295:Int))).toNat:Nat)),())
def Aie (a0:YI) (a1:YI):Option (YI):=(A7t a0 a1).val
def Iu (x11:(List YI)×(List YI)×(List YI)×Int×Int×Int×Int×Int×Int×Int×Int×Int×Unit):Option (((List YI)×(List YI)×(List YI)×Int×Int×Int×Int×Int×Int×Int×Int×Int×Unit)⊕(((List YI)×(List YI)×Int×Int×Int×Int×Int×Int×Int×Int×Unit))):=
 letI u1:=x11.2.2.2;letI u2:=u1.2.2;letI u3:=u2.2.2;letI u4:=u3.2.2;Tree.val <|
 .br (decide (u4.2.2.1<(64:Int))) (
 .ob (Mj (u3.1,()) ((6:Int),())) fun r12=>
 .ob (Mj (u3.1,()) ((11:Int),())) fun r13=>
 .ob (Mj (u3.1,()) ((25:Int),())) fun r14=>
 .ob (Asg (u4.2.2.1,())) fun r15=>
 .ob (idx x11.2.2.1 u4.2.2.1) fun e16=>
 .ob (Mj (u1.1,()) ((2:Int),())) fun r17=>
 .ob (Mj (u1.1,()) ((13:Int),())) fun r18=>
 .ob (Mj (u1.1,()) ((22:Int),())) fun r19=>
 .ob (Aie (u2.2.1,()) ((i64.wrap ((i64.wrap ((i64.wrap ((i64.wrap (u4.2.1+(i64.wrap ((BitVec.ofInt (i64.bits) ((i64.wrap ((BitVec.ofInt (i64.bits) (r12.1) ^^^ BitVec.ofInt (i64.bits) (r13.1)).toNat:Nat))) ^^^ BitVec.ofInt (i64.bits) (r14.1)).toNat:Nat))))+(i64.wrap ((BitVec.ofInt (i64.bits) ((i64.wrap ((BitVec.ofInt (i64.bits) (u3.1) &&& BitVec.ofInt (i64.bits) (u3.2.1)).toNat:Nat))) ^^^ BitVec.ofInt (i64.bits) ((i64.wrap ((BitVec.ofInt (i64.bits) ((i64.wrap ((BitVec.ofInt (i64.bits) ((4294967295:Int)) ^^^ BitVec.ofInt (i64.bits) (u3.1)).toNat:Nat))) &&& BitVec.ofInt (i64.bits) (u4.1)).toNat:Nat)))).toNat:Nat))))+r15.1))+e16.1)),())) fun r20=>
 .ob (Aie ((i64.wrap ((i64.wrap ((i64.wrap ((i64.wrap (u4.2.1+(i64.wrap ((BitVec.ofInt (i64.bits) ((i64.wrap ((BitVec.ofInt (i64.bits) (r12.1) ^^^ BitVec.ofInt (i64.bits) (r13.1)).toNat:Nat))) ^^^ BitVec.ofInt (i64.bits) (r14.1)).toNat:Nat))))+(i64.wrap ((BitVec.ofInt (i64.bits) ((i64.wrap ((BitVec.ofInt (i64.bits) (u3.1) &&& BitVec.ofInt (i64.bits) (u3.2.1)).toNat:Nat))) ^^^ BitVec.ofInt (i64.bits) ((i64.wrap ((BitVec.ofInt (i64.bits) ((i64.wrap ((BitVec.ofInt (i64.bits) ((4294967295:Int)) ^^^ BitVec.ofInt (i64.bits) (u3.1)).toNat:Nat))) &&& BitVec.ofInt (i64.bits) (u4.1)).toNat:Nat)))).toNat:Nat))))+r15.1))+e16.1)),()) ((i64.wrap ((i64.wrap ((BitVec.ofInt (i64.bits) ((i64.wrap ((BitVec.ofInt (i64.bits) (r17.1) ^^^ BitVec.ofInt (i64.bits) (r18.1)).toNat:Nat))) ^^^ BitVec.ofInt (i64.bits) (r19.1)).toNat:Nat))+(i64.wrap ((BitVec.ofInt (i64.bits) ((i64.wrap ((BitVec.ofInt (i64.bits) ((i64.wrap ((BitVec.ofInt (i64.bits) (u1.1) &&& BitVec.ofInt (i64.bits) (u1.2.1)).toNat:Nat))) ^^^ BitVec.ofInt (i64.bits) ((i64.wrap ((BitVec.ofInt (i64.bits) (u1.1) &&& BitVec.ofInt (i64.bits) (u2.1)).toNat:Nat)))).toNat:Nat))) ^^^ BitVec.ofInt (i64.bits) ((i64.wrap ((BitVec.ofInt (i64.bits) (u1.2.1) &&& BitVec.ofInt (i64.bits) (u2.1)).toNat:Nat)))).toNat:Nat)))),())) fun r21=>
 .leaf (.inl (x11.1,x11.2.1,x11.2.2.1,r21.1,u1.1,u1.2.1,u2.1,r20.1,u3.1,u3.2.1,u4.1,(i64.wrap (u4.2.2.1+(1:Int))),()))) (
 .leaf (.inr (x11.1,x11.2.1,u1.1,u1.2.1,u2.1,u2.2.1,u3.1,u3.2.1,u4.1,u4.2.1,())))
def Ib (x23:(List YI)×(List YI)×(List YI)×Int×Int×Unit):Option (((List YI)×(List YI)×(List YI)×Int×Int×Unit)⊕(((List YI)×Unit))):=
 letI u1:=x23.2.2;letI u2:=u1.2.2;Tree.val <|
 .br (decide (u2.1<u1.2.1)) (
 .ob (idx u1.1 u2.1) fun e24=>
 .ob (idx x23.1 u2.1) fun e25=>
 .ob (Aie e25 e24) fun r26=>
 .ob (idx x23.2.1 u2.1) fun e27=>
 let q28:=(x23.2.1.set (u2.1).toNat r26)
 .leaf (.inl (x23.1,q28,u1.1,u1.2.1,(i64.wrap (u2.1+(1:Int))),()))) (
 .leaf (.inr (x23.2.1,())))
def W6 (a0:(List YI)×Unit) (a1:YBs):Tree (((List YI)×Unit)):=
 .chk (decide (([]:List YI).length+a0.1.length<=4294967296)) <|
 .ob (Ru a0 ((8:Int),())) fun r1=>
 .br (!r1.1) (
 .leaf ((([]:List YI)++a0.1),())) (
 .br ((a1.1.length:Int) != (64:Int)) (
 .leaf ((([]:List YI)++a0.1),())) (
 .ob (Ags a1) fun r2=>
 .ob (idx a0.1 (0:Int)) fun e3=>
 .ob (idx a0.1 (1:Int)) fun e4=>
 .ob (idx a0.1 (2:Int)) fun e5=>
 .ob (idx a0.1 (3:Int)) fun e6=>
 .ob (idx a0.1 (4:Int)) fun e7=>
 .ob (idx a0.1 (5:Int)) fun e8=>
 .ob (idx a0.1 (6:Int)) fun e9=>
 .ob (idx a0.1 (7:Int)) fun e10=>
 .ob (Ay Iu (a0.1,(([]:List YI)++a0.1),r2.1,e3.1,e4.1,e5.1,e6.1,e7.1,e8.1,e9.1,e10.1,(0:Int),())) fun o22=>letI u1:=o22.2.2;letI u2:=u1.2.2;letI u3:=u2.2.2.2;
 .ob (Ay Ib (o22.1,o22.2.1,[(u1.1,()),(u1.2.1,()),(u2.1,()),(u2.2.1,()),(u2.2.2.1,()),(u3.1,()),(u3.2.1,()),(u3.2.2.1,())],([(u1.1,()),(u1.2.1,()),(u2.1,()),(u2.2.1,()),(u2.2.2.1,()),(u3.1,()),(u3.2.1,()),(u3.2.2.1,())].length:Int),(0:Int),())) fun o29=>
 .leaf o29))
def Rx (a0:(List YI)×Unit) (a1:YBs):Option (((List YI)×Unit)):=(W6 a0 a1).val
def G6 (x3:(List YI)×(List YB)×Unit):Option (((List YI)×(List YB)×Unit)⊕(((List YI)×(List YB)×Unit))):=
 Tree.val <|
 .br (decide ((x3.2.1.length:Int)≥(64:Int))) (
 .chk (decide ((64:Int)<=(x3.2.1.length:Int))) <|
 .ob (Rx (x3.1,()) (((x3.2.1.take ((64:Int)).toNat).drop ((0:Int)).toNat),())) fun r4=>
 .chk (decide ((64:Int)<=(x3.2.1.length:Int))) <|
 .chk (decide ((x3.2.1.length:Int)<=(x3.2.1.length:Int))) <|
 .leaf (.inl (r4.1,((x3.2.1.take ((x3.2.1.length:Int)).toNat).drop ((64:Int)).toNat),()))) (
 .leaf (.inr x3))
def W8 (a0:(List YI)×Unit) (a1:YBs):Tree (((List YI)×Unit)×YBs):=
 .ob (Ay G6 (a0.1,a1.1,())) fun o5=>
 .leaf ((o5.1,()),(o5.2.1,()))
def Qw (a0:(List YI)×Unit) (a1:YBs):Option (((List YI)×Unit)×YBs):=(W8 a0 a1).val
def Aj1 (a0:Qv) (a1:YBs):Tree (Qv):=
 .ob (Ad2 a0) fun r1=>
 .br (!r1.1) (
 .chk (decide (([]:List YI).length+a0.1.length<=4294967296)) <|
 .ob (Bk (a0.2.1,())) fun r2=>
 .leaf ((([]:List YI)++a0.1),r2.1,a0.2.2.1,())) (
 .br (decide ((a1.1.length:Int)>(i64.wrap ((1048576:Int)-a0.2.2.1)))) (
 .chk (decide (([]:List YI).length+a0.1.length<=4294967296)) <|
 .ob (Bk (a0.2.1,())) fun r3=>
 .leaf ((([]:List YI)++a0.1),r3.1,a0.2.2.1,())) (
 .ob (Eu ([(a0.2.1,()),a1],())) fun r4=>
 .ob (Qw (a0.1,()) r4) fun r5=>
 .chk (decide (([]:List YI).length+r5.1.1.length<=4294967296)) <|
 .ob (Bk r5.2) fun r6=>
 .leaf ((([]:List YI)++r5.1.1),r6.1,(i64.wrap (a0.2.2.1+(a1.1.length:Int))),())))
def Akl (a0:Qv) (a1:YBs):Option (Qv):=(Aj1 a0 a1).val
def Rp (x2:Int×(List YB)×Unit):Option ((Int×(List YB)×Unit)⊕((Int×(List YB)×Unit))):=
 Tree.val <|
 .chk (decide ((0:Int)<=(i64.wrap ((i64.wrap (x2.1+(x2.2.1.length:Int)))+(8:Int))))) <|
 .br (((i64.wrap ((i64.wrap (x2.1+(x2.2.1.length:Int)))+(8:Int)))%(64:Int)) != (0:Int)) (
 .chk (decide (x2.2.1.length+[((0:Int),())].length<=4294967296)) <|
 .leaf (.inl (x2.1,(x2.2.1++[((0:Int),())]),()))) (
 .leaf (.inr x2))
def A5m (a0:YI):Tree (YBs):=
 .ob (Bg a0 ((0:Int),()) ((1048576:Int),())) fun r1=>
 .br (!r1.1) (
 .leaf (([]:List YB),())) (
 .ob (Ay Rp (a0.1,[((128:Int),())],())) fun o3=>
 .chk (decide (o3.2.1.length+[((0:Int),()),((0:Int),())].length<=4294967296)) <|
 .ob (Ff ((o3.2.1++[((0:Int),()),((0:Int),())]),()) ((i64.wrap ((8:Int)*o3.1)),()) ((6:Int),())) fun r4=>
 .leaf r4)
def A50 (a0:YI):Option (YBs):=(A5m a0).val
def Jv (x1:(List YB)×(List YI)×Int×Int×Unit):Option (((List YB)×(List YI)×Int×Int×Unit)⊕(YBs)):=
 letI u1:=x1.2.2;Tree.val <|
 .br (decide (u1.2.1<u1.1)) (
 .ob (idx x1.2.1 u1.2.1) fun e2=>
 .ob (Ff (x1.1,()) e2 ((4:Int),())) fun r3=>
 .leaf (.inl (r3.1,x1.2.1,u1.1,(i64.wrap (u1.2.1+(1:Int))),()))) (
 .leaf (.inr (x1.1,())))
def Acx (a0:(List YI)×Unit):Tree (YBs):=
 .ob (Ay Jv (([]:List YB),a0.1,(a0.1.length:Int),(0:Int),())) fun o4=>
 .leaf o4
def Ada (a0:(List YI)×Unit):Option (YBs):=(Acx a0).val
def Aj2 (a0:Qv):Tree (YBs):=
 .ob (Ad2 a0) fun r1=>
 .br (!r1.1) (
 .leaf (([]:List YB),())) (
 .ob (A50 (a0.2.2.1,())) fun r2=>
 .ob (Eu ([(a0.2.1,()),r2],())) fun r3=>
 .ob (Qw (a0.1,()) r3) fun r4=>
 .ob (Ada r4.1) fun r5=>
 .leaf r5)
def Akm (a0:Qv):Option (YBs):=(Aj2 a0).val
def A5p (a0:YBs):Tree (YBs):=
 .br (decide ((a0.1.length:Int)>(1048576:Int))) (
 .leaf (([]:List YB),())) (
 .ob Ayv fun r1=>
 .ob (Akl r1 a0) fun r2=>
 .ob (Akm r2) fun r3=>
 .leaf r3)
def Al7 (a0:YBs):Option (YBs):=(A5p a0).val
def Hw (x3:YBs):Option (YBs⊕(YBs)):=
 Tree.val <|
 .br (decide ((x3.1.length:Int)<(64:Int))) (
 .chk (decide (x3.1.length+[((0:Int),())].length<=4294967296)) <|
 .leaf (.inl ((x3.1++[((0:Int),())]),()))) (
 .leaf (.inr x3))
def Afy (a0:YBs):Tree (YBs):=
 .br (decide ((a0.1.length:Int)>(1048576:Int))) (
 .leaf (([]:List YB),())) (
 .ob (Bk a0) fun r1=>
 .br (decide ((a0.1.length:Int)>(64:Int))) (
 .ob (Al7 a0) fun r2=>
 .ob (Ay Hw r2) fun o4=>
 .leaf o4) (
 .ob (Ay Hw r1) fun o5=>
 .leaf o5))
def Agt (a0:YBs):Option (YBs):=(Afy a0).val
def Ny (x1:Int×(List YB)×(List YB)×Int×Int×Unit):Option ((Int×(List YB)×(List YB)×Int×Int×Unit)⊕(YBs)):=
 letI u1:=x1.2.2;Tree.val <|
 .br (decide (u1.2.2.1<u1.2.1)) (
 .ob (idx u1.1 u1.2.2.1) fun e2=>
 .chk (decide (x1.2.1.length+[((u8.wrap ((BitVec.ofInt (u8.bits) (e2.1) ^^^ BitVec.ofInt (u8.bits) (x1.1)).toNat:Nat)),())].length<=4294967296)) <|
 .leaf (.inl (x1.1,(x1.2.1++[((u8.wrap ((BitVec.ofInt (u8.bits) (e2.1) ^^^ BitVec.ofInt (u8.bits) (x1.1)).toNat:Nat)),())]),u1.1,u1.2.1,(i64.wrap (u1.2.2.1+(1:Int))),()))) (
 .leaf (.inr (x1.2.1,())))
def Ao4 (a0:YBs) (a1:YB):Tree (YBs):=
 .ob (Ay Ny (a1.1,([]:List YB),a0.1,(a0.1.length:Int),(0:Int),())) fun o3=>
 .leaf o3
def Ad3 (a0:YBs) (a1:YB):Option (YBs):=(Ao4 a0 a1).val
def Az8 (a0:YBs) (a1:YBs):Tree (YBs):=
 .br (decide ((a0.1.length:Int)>(1048576:Int))) (
 .leaf (([]:List YB),())) (
 .br (decide ((a1.1.length:Int)>(1048512:Int))) (
 .leaf (([]:List YB),())) (
 .ob (Agt a0) fun r1=>
 .ob (Ad3 r1 ((92:Int),())) fun r2=>
 .ob (Ad3 r1 ((54:Int),())) fun r3=>
 .ob (Eu ([r3,a1],())) fun r4=>
 .ob (Al7 r4) fun r5=>
 .ob (Eu ([r2,r5],())) fun r6=>
 .ob (Al7 r6) fun r7=>
 .leaf r7))
def Vs (a0:YBs) (a1:YBs):Option (YBs):=(Az8 a0 a1).val
def Ao5 (a0:YBs) (a1:YI):Tree (YBs):=
 .ob (Bg ((a0.1.length:Int),()) ((1:Int),()) ((32:Int),())) fun r1=>
 .br (!r1.1) (
 .leaf (([]:List YB),())) (
 .ob (Bg a1 ((0:Int),()) ((10000:Int),())) fun r2=>
 .br (!r2.1) (
 .leaf (([]:List YB),())) (
 .ob (Ff ([((114:Int),()),((111:Int),()),((108:Int),()),((108:Int),())],()) a1 ((4:Int),())) fun r3=>
 .ob (Vs a0 r3) fun r4=>
 .chk (decide ((12:Int)<=(r4.1.length:Int))) <|
 .ob (Bk (((r4.1.take ((12:Int)).toNat).drop ((0:Int)).toNat),())) fun r5=>
 .leaf r5))
def Ap0 (a0:YBs) (a1:YI):Option (YBs):=(Ao5 a0 a1).val
def A0a (a0:Ge):Tree (Ge×YBs):=
 .ob (Bk (a0.1,())) fun r1=>
 .ob (Ad0 a0) fun r2=>
 .br (!r2.1) (
 .leaf ((r1.1,a0.2.1,()),(([]:List YB),()))) (
 .br (a0.2.1==(10000:Int)) (
 .leaf ((r1.1,a0.2.1,()),(([]:List YB),()))) (
 .ob (Ap0 (a0.1,()) (a0.2.1,())) fun r3=>
 .leaf ((r1.1,(i64.wrap (a0.2.1+(1:Int))),()),r3)))
def Ap1 (a0:Ge):Option (Ge×YBs):=(A0a a0).val
def Aj3 (a0:YBs) (a1:A6):Tree (YBs):=
 .ob (Fu a1) fun r1=>
 .br (!r1.1) (
 .ob (Bk a0) fun r2=>
 .leaf r2) (
 .ob (Ff a0 (a1.1,()) ((4:Int),())) fun r3=>
 .ob (Ff r3 (a1.2.1,()) ((2:Int),())) fun r4=>
 .leaf r4)
def Ayw (a0:YBs) (a1:A6):Option (YBs):=(Aj3 a0 a1).val
def Afz (a0:A6) (a1:YI) (a2:YBs) (a3:YBs) (a4:YI):Tree (YBs):=
 .ob (Fu a0) fun r1=>
 .br (!r1.1) (
 .leaf (([]:List YB),())) (
 .ob (Bg a1 ((1:Int),()) ((9:Int),())) fun r2=>
 .br (!r2.1) (
 .leaf (([]:List YB),())) (
 .ob (Dx a2) fun r3=>
 .br (!r3.1) (
 .leaf (([]:List YB),())) (
 .ob (Dx a3) fun r4=>
 .br (!r4.1) (
 .leaf (([]:List YB),())) (
 .ob (Bg a4 ((0:Int),()) ((1000000:Int),())) fun r5=>
 .br (!r5.1) (
 .leaf (([]:List YB),())) (
 .ob (Ayw ([((99:Int),())],()) a0) fun r6=>
 .ob (Ff (([]:List YB),()) a4 ((4:Int),())) fun r7=>
 .ob (Eu ([r6,([((u8.wrap (a1.1)),())],()),a2,a3,r7],())) fun r8=>
 .leaf r8)))))
def Ry (a0:A6) (a1:YI) (a2:YBs) (a3:YBs) (a4:YI):Option (YBs):=(Afz a0 a1 a2 a3 a4).val
def A5q (a0:YBs) (a1:YBs):Tree (YBs):=
 .ob (Vs a0 a1) fun r1=>
 .br ((r1.1.length:Int)==(0:Int)) (
 .leaf (([]:List YB),())) (
 .chk (decide ((16:Int)<=(r1.1.length:Int))) <|
 .ob (Bk (((r1.1.take ((16:Int)).toNat).drop ((0:Int)).toNat),())) fun r2=>
 .leaf r2)
def Aek (a0:YBs) (a1:YBs):Option (YBs):=(A5q a0 a1).val
def A0c (a0:YBs) (a1:A6) (a2:YI) (a3:YBs) (a4:YBs) (a5:YI):Tree (YBs):=
 .ob (Ry a1 a2 a3 a4 a5) fun r1=>
 .ob (Aic a0) fun r2=>
 .br (!r2.1) (
 .leaf (([]:List YB),())) (
 .br ((r1.1.length:Int)==(0:Int)) (
 .leaf (([]:List YB),())) (
 .ob (Aek a0 r1) fun r3=>
 .leaf r3))
def Ap2 (a0:YBs) (a1:A6) (a2:YI) (a3:YBs) (a4:YBs) (a5:YI):Option (YBs):=(A0c a0 a1 a2 a3 a4 a5).val
def A0e (a0:YBs) (a1:YBs):Tree (Ax):=
 .ob (Bk a0) fun r1=>
 .ob (Bk a1) fun r2=>
 .leaf ((15:Int),(0:Int),(0:Int),([]:List YB),([]:List YB),(0:Int),(0:Int),r2.1,r1.1,(0:Int),(0:Int),(0:Int),())
def Ap3 (a0:YBs) (a1:YBs):Option (Ax):=(A0e a0 a1).val
def Af1 (a0:YBs):Tree (Ax):=
 .ob (Bk a0) fun r1=>
 .leaf ((14:Int),(0:Int),(0:Int),([]:List YB),([]:List YB),(0:Int),(0:Int),r1.1,([]:List YB),(0:Int),(0:Int),(0:Int),())
def N8 (a0:YBs):Option (Ax):=(Af1 a0).val
def Af2 (a0:Bs) (a1:YI) (a2:A6) (a3:Ar):Tree (Bs×((List Bc)×Unit)×((List Ax)×Unit)):=
 letI u1:=a0.2.2.2;.br (decide (a3.2.1>(a0.1.length:Int))) (
 .leaf (a0,(([]:List Bc),()),(([]:List Ax),()))) (
 .ob (Ad1 a0 a2 ((45:Int),())) fun r1=>
 .br (!r1.1) (
 .leaf (a0,(([]:List Bc),()),(([]:List Ax),()))) (
 .br (decide (u1.1≥(10000:Int))) (
 .leaf (a0,(([]:List Bc),()),(([]:List Ax),()))) (
 .ob (Ap1 (a0.2.2.1,u1.1,())) fun r2=>
 .ob (Ap2 (a0.2.1,()) a2 (a3.2.1,()) (a3.2.2.1,()) r2.2 a1) fun r3=>
 .ob (Bk (a3.2.2.1,())) fun r4=>
 .ob (Bk r2.2) fun r5=>
 .ob (Ry a2 (a3.2.1,()) (a3.2.2.1,()) r2.2 a1) fun r6=>
 .ob (Ap3 (a0.2.1,()) r6) fun r7=>
 .ob (N8 r2.2) fun r8=>
 .leaf ((a0.1,a0.2.1,r2.1.1,r2.1.2.1,u1.2.1,u1.2.2.1,u1.2.2.2.1,()),([(a2.1,a2.2.1,(2:Int),(0:Int),r4.1,r5.1,a1.1,r3.1,([]:List YB),(0:Int),(0:Int),([]:List YB),([]:List YB),())],()),([r8,r7],())))))
def Agu (a0:Bs) (a1:YI) (a2:A6) (a3:Ar):Option (Bs×((List Bc)×Unit)×((List Ax)×Unit)):=(Af2 a0 a1 a2 a3).val
def Auc (a0:YI) (a1:YI):Tree ((Bool×Unit)):=
 .ob (Bg a0 ((0:Int),()) ((1000000:Int),())) fun r1=>
 .br r1.1 (
 .ob (Bg a1 ((0:Int),()) ((1000000:Int),())) fun r2=>
 .br r2.1 (
 .ob (Bg ((i64.wrap (a0.1-a1.1)),()) ((0:Int),()) ((10:Int),())) fun r3=>
 .leaf r3) (
 .leaf (false,()))) (
 .leaf (false,()))
def Aux (a0:YI) (a1:YI):Option ((Bool×Unit)):=(Auc a0 a1).val
def Xa (x1:(List YB)×(List YB)×Int×Int×Int×Unit):Option (((List YB)×(List YB)×Int×Int×Int×Unit)⊕(YI)):=
 letI u1:=x1.2.2.2;Tree.val <|
 .br (decide (u1.2.1<u1.1)) (
 .ob (idx x1.1 u1.2.1) fun e2=>
 .ob (idx x1.2.1 u1.2.1) fun e3=>
 .leaf (.inl (x1.1,x1.2.1,(i64.wrap ((BitVec.ofInt (i64.bits) (x1.2.2.1) ||| BitVec.ofInt (i64.bits) ((i64.wrap ((u8.wrap ((BitVec.ofInt (u8.bits) (e2.1) ^^^ BitVec.ofInt (u8.bits) (e3.1)).toNat:Nat)))))).toNat:Nat)),u1.1,(i64.wrap (u1.2.1+(1:Int))),()))) (
 .leaf (.inr (x1.2.2.1,())))
def A0g (a0:YBs) (a1:YBs):Tree (YI):=
 .br ((a0.1.length:Int) != (a1.1.length:Int)) (
 .leaf ((-1:Int),())) (
 .ob (Ay Xa (a0.1,a1.1,(0:Int),(a0.1.length:Int),(0:Int),())) fun o4=>
 .leaf o4)
def Vt (a0:YBs) (a1:YBs):Option (YI):=(A0g a0 a1).val
def Aj4 (a0:YBs) (a1:YBs):Tree ((Bool×Unit)):=
 .br ((a0.1.length:Int)==(16:Int)) (
 .ob (Vt a0 a1) fun r1=>
 .leaf ((r1.1==(0:Int)),())) (
 .leaf (false,()))
def Qq (a0:YBs) (a1:YBs):Option ((Bool×Unit)):=(Aj4 a0 a1).val
def Aud (a0:YBs) (a1:YI) (a2:A6) (a3:Ar):Tree (YI):=
 letI u1:=a3.2.2.2;.ob (Aic a0) fun r1=>
 .br (!r1.1) (
 .leaf ((1:Int),())) (
 .ob (Bg a1 ((0:Int),()) ((1000000:Int),())) fun r2=>
 .br (!r2.1) (
 .leaf ((1:Int),())) (
 .ob (Fu a2) fun r3=>
 .br (!r3.1) (
 .leaf ((1:Int),())) (
 .br (a3.1 != (3:Int)) (
 .leaf ((1:Int),())) (
 .ob (Db a3) fun r4=>
 .br (!r4.1) (
 .leaf ((1:Int),())) (
 .ob (Aux a1 (u1.2.1,())) fun r5=>
 .br (!r5.1) (
 .leaf ((9:Int),())) (
 .ob (Ap2 a0 a2 (a3.2.1,()) (a3.2.2.1,()) (u1.1,()) (u1.2.1,())) fun r6=>
 .ob (Qq (u1.2.2.1,()) r6) fun r7=>
 .br (!r7.1) (
 .leaf ((2:Int),())) (
 .leaf ((0:Int),()))))))))
def Auy (a0:YBs) (a1:YI) (a2:A6) (a3:Ar):Option (YI):=(Aud a0 a1 a2 a3).val
def Abh (a0:YBs) (a1:YBs):Tree (YBs):=
 .ob (Vs a0 a1) fun r1=>
 .leaf r1
def Abo (a0:YBs) (a1:YBs):Option (YBs):=(Abh a0 a1).val
end
end Go.Proofs.YtnbbbaplphcebaaGreat

/-
  What the functions of the seat answer, as plain terms (printed by a program, proved in the texts P); nothing is assumed.
-/
import Derived.Test.YtnbbbaplphcebaaGreatEv2
namespace Go.Proofs.YtnbbbaplphcebaaGreat
open Go.RowKit IntKind
set_option linter.unusedVariables false
set_option maxRecDepth 100000
set_option maxHeartbeats 4000000
noncomputable section
abbrev YB:Type:=Int×Unit
abbrev YI:Type:=Int×Unit
abbrev YBs:Type:=List YB×Unit
abbrev Blg:Type:=ByteArray×Int×Unit
abbrev A7:Type:=Int×Int×Unit
abbrev Gc:Type:=(List YB)×Int×Unit
abbrev Db:Type:=Int×(List YI)×Unit
abbrev Bry:Type:=Int×Int×Bool×Int×Unit
abbrev Aw:Type:=(List YB)×Int×Int×Unit
abbrev Ao:Type:=Int×Int×Int×Int×Unit
abbrev Qu:Type:=(List YI)×(List YB)×Int×Unit
abbrev A8:Type:=Int×Int×(List YB)×Int×Unit
abbrev YEp:Type:=Int×(List YB)×Int×Int×(List YI)×Unit
abbrev Bm:Type:=Int×Int×(List A8)×Unit
abbrev Ay:Type:=Int×Int×Int×(List YB)×(List YB)×Int×Int×(List YB)×(List YB)×Int×Int×Int×Unit
abbrev Aq:Type:=Int×Int×(List YB)×(List YB)×Int×(List YB)×(List YB)×Int×Int×(List YB)×(List YB)×Unit
abbrev Bc:Type:=Int×Int×Int×Int×(List YB)×(List YB)×Int×(List YB)×(List YB)×Int×Int×(List YB)×(List YB)×Unit
abbrev Ap:Type:=Int×(List YB)×Int×(List YB)×Int×Int×(List YI)×Int×(List YB)×Int×Int×(List YI)×Bool×Int×(List YB)×Unit
abbrev Ak:Type:=Int×(List YB)×(List YB)×Int×(List YB)×Int×(List YB)×Int×Int×(List YI)×Int×(List YB)×Int×Int×(List YI)×Bool×Int×(List YB)×Int×Int×(List A8)×Int×Int×Bool×Unit
abbrev Ch:Type:=Int×(List Ak)×Unit
abbrev Bs:Type:=(List YBs)×(List YB)×(List YB)×Int×Int×(List Ak)×(List Ao)×Unit
def Bg3 (a0:YBs):Tree ((Bool×Unit)):=
 .leaf ((decide ((a0.1.length:Int)>(1048576:Int))),())
def Bha (a0:YBs):Option ((Bool×Unit)):=(Bg3 a0).val
def Aax (x1:Aw):Option (Aw⊕(Gc)):=
 Tree.val <|
 .br (decide (x1.2.2.1<(x1.1.length:Int))) (
 .br (decide (x1.2.2.1<(4000:Int))) (
 .ob (idx x1.1 x1.2.2.1) fun e2=>
 .leaf (.inl (x1.1,(i64.wrap ((BitVec.ofInt (i64.bits) ((i64.wrap ((i64.wrap ((i64.wrap (x1.2.1*(137:Int)))+(i64.wrap (e2.1))))+(11:Int)))) &&& BitVec.ofInt (i64.bits) ((1073741823:Int))).toNat:Nat)),(i64.wrap (x1.2.2.1+(1:Int))),()))) (
 .leaf (.inr (x1.1,x1.2.1,())))) (
 .leaf (.inr (x1.1,x1.2.1,())))
def Aso (a0:YBs):Tree (Aw):=
 .ob (Ax Aax (a0.1,(i64.wrap ((127812:Int)+(a0.1.length:Int))),(0:Int),())) fun o3=>
 .leaf (o3.1,(0:Int),o3.2.1,())
def Aup (a0:YBs):Option (Aw):=(Aso a0).val
def Am4 (a0:Aw):Tree (YI×Aw):=
 letI u1:=a0.2.2;.br (decide (a0.2.1<(a0.1.length:Int))) (
 .ob (idx a0.1 a0.2.1) fun e1=>
 .leaf (((i64.wrap ((BitVec.ofInt (i64.bits) ((i64.wrap ((i64.wrap ((BitVec.ofInt (i64.bits) ((i64.wrap ((BitVec.ofInt (i64.bits) ((Int.fdiv (i64.wrap ((i64.wrap (u1.1*(6364136223846793005:Int)))+(1442695040888963407:Int))) (2^(min ((33:Int)).toNat i64.bits)))) ^^^ BitVec.ofInt (i64.bits) ((Int.fdiv (i64.wrap ((i64.wrap (u1.1*(6364136223846793005:Int)))+(1442695040888963407:Int))) (2^(min ((47:Int)).toNat i64.bits))))).toNat:Nat))) &&& BitVec.ofInt (i64.bits) ((255:Int))).toNat:Nat))+(i64.wrap (e1.1))))) &&& BitVec.ofInt (i64.bits) ((255:Int))).toNat:Nat)),()),(a0.1,(i64.wrap (a0.2.1+(1:Int))),(i64.wrap ((i64.wrap (u1.1*(6364136223846793005:Int)))+(1442695040888963407:Int))),()))) (
 .leaf (((i64.wrap ((BitVec.ofInt (i64.bits) ((i64.wrap ((BitVec.ofInt (i64.bits) ((Int.fdiv (i64.wrap ((i64.wrap (u1.1*(6364136223846793005:Int)))+(1442695040888963407:Int))) (2^(min ((33:Int)).toNat i64.bits)))) ^^^ BitVec.ofInt (i64.bits) ((Int.fdiv (i64.wrap ((i64.wrap (u1.1*(6364136223846793005:Int)))+(1442695040888963407:Int))) (2^(min ((47:Int)).toNat i64.bits))))).toNat:Nat))) &&& BitVec.ofInt (i64.bits) ((255:Int))).toNat:Nat)),()),(a0.1,a0.2.1,(i64.wrap ((i64.wrap (u1.1*(6364136223846793005:Int)))+(1442695040888963407:Int))),())))
def Kc (a0:Aw):Option (YI×Aw):=(Am4 a0).val
def Ai6 (a0:Aw) (a1:YI):Tree (YI×Aw):=
 .br (decide (a1.1<=(0:Int))) (
 .leaf (((0:Int),()),a0)) (
 .br (decide (a1.1<=(256:Int))) (
 .ob (Kc a0) fun r1=>
 .chk (decide ((0:Int)<a1.1)) <|
 .chk (decide ((0:Int)<=r1.1.1)) <|
 .leaf (((r1.1.1%a1.1),()),(a0.1,r1.2.2.1,r1.2.2.2.1,()))) (
 .ob (Kc a0) fun r2=>
 .ob (Kc (a0.1,r2.2.2.1,r2.2.2.2.1,())) fun r3=>
 .ob (Kc (a0.1,r3.2.2.1,r3.2.2.2.1,())) fun r4=>
 .chk (decide ((0:Int)<a1.1)) <|
 .chk (decide ((0:Int)<=(i64.wrap ((i64.wrap ((i64.wrap (r2.1.1*(65536:Int)))+(i64.wrap (r3.1.1*(256:Int)))))+r4.1.1)))) <|
 .leaf ((((i64.wrap ((i64.wrap ((i64.wrap (r2.1.1*(65536:Int)))+(i64.wrap (r3.1.1*(256:Int)))))+r4.1.1))%a1.1),()),(a0.1,r4.2.2.1,r4.2.2.2.1,()))))
def Bi (a0:Aw) (a1:YI):Option (YI×Aw):=(Ai6 a0 a1).val
def Po (x1:Int×(List YB)×Int×(List YB)×Int×Int×Unit):Option ((Int×(List YB)×Int×(List YB)×Int×Int×Unit)⊕(((List YB)×(List YB)×Int×Int×Unit))):=
 letI u1:=x1.2.2.2;Tree.val <|
 .br (decide (x1.2.2.1<x1.1)) (
 .ob (Kc (u1.1,u1.2.1,u1.2.2.1,())) fun r2=>
 .chk (decide (x1.2.1.length+[((u8.wrap (r2.1.1)),())].length<=4294967296)) <|
 .leaf (.inl (x1.1,(x1.2.1++[((u8.wrap (r2.1.1)),())]),(i64.wrap (x1.2.2.1+(1:Int))),u1.1,r2.2.2.1,r2.2.2.2.1,()))) (
 .leaf (.inr (x1.2.1,u1.1,u1.2.1,u1.2.2.1,())))
def Ai7 (a0:Aw) (a1:YI):Tree (YBs×Aw):=
 .ob (Ax Po (a1.1,([]:List YB),(0:Int),a0.1,a0.2.1,a0.2.2.1,())) fun o3=>
 .leaf ((o3.1,()),(o3.2.1,o3.2.2.1,o3.2.2.2.1,()))
def Dg (a0:Aw) (a1:YI):Option (YBs×Aw):=(Ai7 a0 a1).val
def Ly (x2:(List YBs)×Int×(List YB)×Int×Int×Unit):Option (((List YBs)×Int×(List YB)×Int×Int×Unit)⊕(((List YBs)×(List YB)×Int×Int×Unit))):=
 letI u1:=x2.2.2;Tree.val <|
 .br (decide (x2.2.1>(0:Int))) (
 .ob (Bi (u1.1,u1.2.1,u1.2.2.1,()) ((32:Int),())) fun r3=>
 .ob (Dg (u1.1,r3.2.2.1,r3.2.2.2.1,()) ((i64.wrap ((1:Int)+r3.1.1)),())) fun r4=>
 .chk (decide (x2.1.length+[r4.1].length<=4294967296)) <|
 .leaf (.inl ((x2.1++[r4.1]),(i64.wrap (x2.2.1-(1:Int))),u1.1,r4.2.2.1,r4.2.2.2.1,()))) (
 .leaf (.inr (x2.1,u1.1,u1.2.1,u1.2.2.1,())))
def Aaz (a0:Aw):Tree (((List YBs)×Unit)×Aw):=
 .ob (Bi a0 ((3:Int),())) fun r1=>
 .ob (Ax Ly (([]:List YBs),(i64.wrap ((1:Int)+r1.1.1)),a0.1,r1.2.2.1,r1.2.2.2.1,())) fun o5=>
 .leaf ((o5.1,()),(o5.2.1,o5.2.2.1,o5.2.2.2.1,()))
def Ul (a0:Aw):Option (((List YBs)×Unit)×Aw):=(Aaz a0).val
def Ai8 (a0:Gc):Tree (Gc):=
 .chk (decide (([]:List YB).length+a0.1.length<=4294967296)) <|
 .leaf ((([]:List YB)++a0.1),a0.2.1,())
def Akg (a0:Gc):Option (Gc):=(Ai8 a0).val
def Azj (a0:YI) (a1:YI) (a2:YI):Tree ((Bool×Unit)):=
 .br (decide (a0.1≥a1.1)) (
 .leaf ((decide (a0.1<=a2.1)),())) (
 .leaf (false,()))
def Bt (a0:YI) (a1:YI) (a2:YI):Option ((Bool×Unit)):=(Azj a0 a1 a2).val
def Am6 (a0:Gc):Tree ((Bool×Unit)):=
 .ob (Bt ((a0.1.length:Int),()) ((1:Int),()) ((32:Int),())) fun r1=>
 .br r1.1 (
 .ob (Bt (a0.2.1,()) ((0:Int),()) ((10000:Int),())) fun r2=>
 .leaf r2) (
 .leaf (false,()))
def Adw (a0:Gc):Option ((Bool×Unit)):=(Am6 a0).val
def Wo (x1:Int×(List YB)×Int×Unit):Option ((Int×(List YB)×Int×Unit)⊕(YBs)):=
 letI u1:=x1.2.2;Tree.val <|
 .br (decide (u1.1≥(0:Int))) (
 .chk (decide ((0:Int)<=(i64.wrap ((8:Int)*u1.1)))) <|
 .chk (decide (x1.2.1.length+[((u8.wrap ((i64.wrap ((BitVec.ofInt (i64.bits) ((Int.fdiv x1.1 (2^(min ((i64.wrap ((8:Int)*u1.1))).toNat i64.bits)))) &&& BitVec.ofInt (i64.bits) ((255:Int))).toNat:Nat)))),())].length<=4294967296)) <|
 .leaf (.inl (x1.1,(x1.2.1++[((u8.wrap ((i64.wrap ((BitVec.ofInt (i64.bits) ((Int.fdiv x1.1 (2^(min ((i64.wrap ((8:Int)*u1.1))).toNat i64.bits)))) &&& BitVec.ofInt (i64.bits) ((255:Int))).toNat:Nat)))),())]),(i64.wrap (u1.1-(1:Int))),()))) (
 .leaf (.inr (x1.2.1,())))
def Azk (a0:YBs) (a1:YI) (a2:YI):Tree (YBs):=
 .chk (decide (([]:List YB).length+a0.1.length<=4294967296)) <|
 .br (decide (a2.1<(1:Int))) (
 .leaf ((([]:List YB)++a0.1),())) (
 .br (decide (a2.1>(6:Int))) (
 .leaf ((([]:List YB)++a0.1),())) (
 .ob (Ax Wo (a1.1,(([]:List YB)++a0.1),(i64.wrap (a2.1-(1:Int))),())) fun o2=>
 .leaf o2))
def En (a0:YBs) (a1:YI) (a2:YI):Option (YBs):=(Azk a0 a1 a2).val
def Asp (x1:Int×(List YB)×Unit):Option ((Int×(List YB)×Unit)⊕((Int×(List YB)×Unit))):=
 Tree.val <|
 .chk (decide ((0:Int)<=(i64.wrap ((i64.wrap (x1.1+(x1.2.1.length:Int)))+(8:Int))))) <|
 .br (((i64.wrap ((i64.wrap (x1.1+(x1.2.1.length:Int)))+(8:Int)))%(64:Int)) != (0:Int)) (
 .chk (decide (x1.2.1.length+[((0:Int),())].length<=4294967296)) <|
 .leaf (.inl (x1.1,(x1.2.1++[((0:Int),())]),()))) (
 .leaf (.inr x1))
def A43 (a0:YI):Tree (YBs):=
 .br (decide (a0.1<(0:Int))) (
 .leaf (([]:List YB),())) (
 .br (decide (a0.1>(1048576:Int))) (
 .leaf (([]:List YB),())) (
 .ob (Ax Asp (a0.1,[((128:Int),())],())) fun o2=>
 .ob (En (o2.2.1,()) ((0:Int),()) ((4:Int),())) fun r3=>
 .ob (En r3 ((i64.wrap ((8:Int)*o2.1)),()) ((4:Int),())) fun r4=>
 .leaf r4))
def A50 (a0:YI):Option (YBs):=(A43 a0).val
def A7c:Tree (((List YI)×Unit)):=
 .leaf ([((1779033703:Int),()),((3144134277:Int),()),((1013904242:Int),()),((2773480762:Int),()),((1359893119:Int),()),((2600822924:Int),()),((528734635:Int),()),((1541459225:Int),())],())
def A78:Option (((List YI)×Unit)):=(A7c).val
def Pp (x1:(List YI)×Int×Unit):Option (((List YI)×Int×Unit)⊕((Bool×Unit)⊕((List YI)×Unit))):=
 Tree.val <|
 .br (decide (x1.2.1<(x1.1.length:Int))) (
 .ob (idx x1.1 x1.2.1) fun e2=>
 .ob (Bt e2 ((0:Int),()) ((4294967295:Int),())) fun r3=>
 .br (!r3.1) (
 .leaf (.inr (.inl (false,())))) (
 .leaf (.inl (x1.1,(i64.wrap (x1.2.1+(1:Int))),())))) (
 .leaf (.inr (.inr (x1.1,()))))
def Ai9 (a0:(List YI)×Unit):Tree ((Bool×Unit)):=
 .ob (Ax Pp (a0.1,(0:Int),())) fun o4=>
 .sm o4 (fun o5=>
 .leaf o5) (fun o6=>
 .leaf (((o6.1.length:Int)==(8:Int)),()))
def Akh (a0:(List YI)×Unit):Option ((Bool×Unit)):=(Ai9 a0).val
def Bg6:Tree (((List YI)×Unit)):=
 .leaf ([((1116352408:Int),()),((1899447441:Int),()),((3049323471:Int),()),((3921009573:Int),()),((961987163:Int),()),((1508970993:Int),()),((2453635748:Int),()),((2870763221:Int),()),((3624381080:Int),()),((310598401:Int),()),((607225278:Int),()),((1426881987:Int),()),((1925078388:Int),()),((2162078206:Int),()),((2614888103:Int),()),((3248222580:Int),()),((3835390401:Int),()),((4022224774:Int),()),((264347078:Int),()),((604807628:Int),()),((770255983:Int),()),((1249150122:Int),()),((1555081692:Int),()),((1996064986:Int),()),((2554220882:Int),()),((2821834349:Int),()),((2952996808:Int),()),((3210313671:Int),()),((3336571891:Int),()),((3584528711:Int),()),((113926993:Int),()),((338241895:Int),()),((666307205:Int),()),((773529912:Int),()),((1294757372:Int),()),((1396182291:Int),()),((1695183700:Int),()),((1986661051:Int),()),((2177026350:Int),()),((2456956037:Int),()),((2730485921:Int),()),((2820302411:Int),()),((3259730800:Int),()),((3345764771:Int),()),((3516065817:Int),()),((3600352804:Int),()),((4094571909:Int),()),((275423344:Int),()),((430227734:Int),()),((506948616:Int),()),((659060556:Int),()),((883997877:Int),()),((958139571:Int),()),((1322822218:Int),()),((1537002063:Int),()),((1747873779:Int),()),((1955562222:Int),()),((2024104815:Int),()),((2227730452:Int),()),((2361852424:Int),()),((2428436474:Int),()),((2756734187:Int),()),((3204031479:Int),()),((3329325298:Int),())],())
def Bhb:Option (((List YI)×Unit)):=(Bg6).val
def Su (x1:(List YB)×Int×Int×Int×Int×Unit):Option (((List YB)×Int×Int×Int×Int×Unit)⊕((Int×Int×Int×Unit))):=
 letI u1:=x1.2.2;Tree.val <|
 .br (decide (u1.2.2.1<u1.1)) (
 .ob (idx x1.1 (i64.wrap (x1.2.1+u1.2.2.1))) fun e2=>
 .leaf (.inl (x1.1,x1.2.1,u1.1,(i64.wrap ((i64.wrap (u1.2.1*(256:Int)))+(i64.wrap (e2.1)))),(i64.wrap (u1.2.2.1+(1:Int))),()))) (
 .leaf (.inr (x1.2.1,u1.1,u1.2.1,())))
def Azl (a0:YBs) (a1:YI) (a2:YI):Tree (YI×YI×(Bool×Unit)):=
 .br (decide (a2.1<(1:Int))) (
 .leaf (((0:Int),()),((0:Int),()),(false,()))) (
 .br (decide (a2.1>(6:Int))) (
 .leaf (((0:Int),()),((0:Int),()),(false,()))) (
 .br (decide (a1.1<(0:Int))) (
 .leaf (((0:Int),()),((0:Int),()),(false,()))) (
 .br (decide (a1.1>(i64.wrap ((a0.1.length:Int)-a2.1)))) (
 .leaf (((0:Int),()),((0:Int),()),(false,()))) (
 .ob (Ax Su (a0.1,a1.1,a2.1,(0:Int),(0:Int),())) fun o3=>
 .leaf ((o3.2.2.1,()),((i64.wrap (o3.1+o3.2.1)),()),(true,()))))))
def A0k (a0:YBs) (a1:YI) (a2:YI):Option (YI×YI×(Bool×Unit)):=(Azl a0 a1 a2).val
def A45 (a0:YI) (a1:YI):Tree (YI):=
 .br (decide (a1.1<(1:Int))) (
 .leaf ((i64.wrap ((BitVec.ofInt (i64.bits) (a0.1) &&& BitVec.ofInt (i64.bits) ((4294967295:Int))).toNat:Nat)),())) (
 .br (decide (a1.1>(31:Int))) (
 .leaf ((i64.wrap ((BitVec.ofInt (i64.bits) (a0.1) &&& BitVec.ofInt (i64.bits) ((4294967295:Int))).toNat:Nat)),())) (
 .chk (decide ((0:Int)<=a1.1)) <|
 .chk (decide ((0:Int)<=(i64.wrap ((32:Int)-a1.1)))) <|
 .leaf ((i64.wrap ((BitVec.ofInt (i64.bits) ((i64.wrap ((BitVec.ofInt (i64.bits) ((Int.fdiv (i64.wrap ((BitVec.ofInt (i64.bits) (a0.1) &&& BitVec.ofInt (i64.bits) ((4294967295:Int))).toNat:Nat)) (2^(min (a1.1).toNat i64.bits)))) ||| BitVec.ofInt (i64.bits) ((i64.wrap ((i64.wrap ((BitVec.ofInt (i64.bits) (a0.1) &&& BitVec.ofInt (i64.bits) ((4294967295:Int))).toNat:Nat))*2^(min ((i64.wrap ((32:Int)-a1.1))).toNat i64.bits))))).toNat:Nat))) &&& BitVec.ofInt (i64.bits) ((4294967295:Int))).toNat:Nat)),())))
def Mb (a0:YI) (a1:YI):Option (YI):=(A45 a0 a1).val
def Kt (x1:(List YB)×(List YI)×Int×Unit):Option (((List YB)×(List YI)×Int×Unit)⊕(((List YI)×Unit))):=
 Tree.val <|
 .br (decide (x1.2.2.1<(16:Int))) (
 .ob (A0k (x1.1,()) ((i64.wrap ((4:Int)*x1.2.2.1)),()) ((4:Int),())) fun r2=>
 .chk (decide (x1.2.1.length+[r2.1].length<=4294967296)) <|
 .leaf (.inl (x1.1,(x1.2.1++[r2.1]),(i64.wrap (x1.2.2.1+(1:Int))),()))) (
 .leaf (.inr (x1.2.1,())))
def Jm (x4:(List YI)×Int×Unit):Option (((List YI)×Int×Unit)⊕(((List YI)×Unit))):=
 Tree.val <|
 .br (decide (x4.2.1<(64:Int))) (
 .ob (idx x4.1 (i64.wrap (x4.2.1-(15:Int)))) fun e5=>
 .ob (idx x4.1 (i64.wrap (x4.2.1-(2:Int)))) fun e6=>
 .ob (Mb e5 ((7:Int),())) fun r7=>
 .ob (Mb e5 ((18:Int),())) fun r8=>
 .ob (Mb e6 ((17:Int),())) fun r9=>
 .ob (Mb e6 ((19:Int),())) fun r10=>
 .ob (idx x4.1 (i64.wrap (x4.2.1-(7:Int)))) fun e11=>
 .ob (idx x4.1 (i64.wrap (x4.2.1-(16:Int)))) fun e12=>
 .chk (decide (x4.1.length+[((i64.wrap ((BitVec.ofInt (i64.bits) ((i64.wrap ((i64.wrap ((i64.wrap (e11.1+e12.1))+(i64.wrap ((BitVec.ofInt (i64.bits) ((i64.wrap ((BitVec.ofInt (i64.bits) (r7.1) ^^^ BitVec.ofInt (i64.bits) (r8.1)).toNat:Nat))) ^^^ BitVec.ofInt (i64.bits) ((Int.fdiv e5.1 (2^(min ((3:Int)).toNat i64.bits))))).toNat:Nat))))+(i64.wrap ((BitVec.ofInt (i64.bits) ((i64.wrap ((BitVec.ofInt (i64.bits) (r9.1) ^^^ BitVec.ofInt (i64.bits) (r10.1)).toNat:Nat))) ^^^ BitVec.ofInt (i64.bits) ((Int.fdiv e6.1 (2^(min ((10:Int)).toNat i64.bits))))).toNat:Nat))))) &&& BitVec.ofInt (i64.bits) ((4294967295:Int))).toNat:Nat)),())].length<=4294967296)) <|
 .leaf (.inl ((x4.1++[((i64.wrap ((BitVec.ofInt (i64.bits) ((i64.wrap ((i64.wrap ((i64.wrap (e11.1+e12.1))+(i64.wrap ((BitVec.ofInt (i64.bits) ((i64.wrap ((BitVec.ofInt (i64.bits) (r7.1) ^^^ BitVec.ofInt (i64.bits) (r8.1)).toNat:Nat))) ^^^ BitVec.ofInt (i64.bits) ((Int.fdiv e5.1 (2^(min ((3:Int)).toNat i64.bits))))).toNat:Nat))))+(i64.wrap ((BitVec.ofInt (i64.bits) ((i64.wrap ((BitVec.ofInt (i64.bits) (r9.1) ^^^ BitVec.ofInt (i64.bits) (r10.1)).toNat:Nat))) ^^^ BitVec.ofInt (i64.bits) ((Int.fdiv e6.1 (2^(min ((10:Int)).toNat i64.bits))))).toNat:Nat))))) &&& BitVec.ofInt (i64.bits) ((4294967295:Int))).toNat:Nat)),())]),(i64.wrap (x4.2.1+(1:Int))),()))) (
 .leaf (.inr (x4.1,())))
def Wp (a0:YBs):Tree (((List YI)×Unit)):=
 .br ((a0.1.length:Int) != (64:Int)) (
 .leaf (([]:List YI),())) (
 .ob (Ax Kt (a0.1,([]:List YI),(0:Int),())) fun o3=>
 .ob (Ax Jm (o3.1,(16:Int),())) fun o13=>
 .leaf o13)
def Agf (a0:YBs):Option (((List YI)×Unit)):=(Wp a0).val
def Il (x12:(List YI)×(List YI)×(List YI)×(List YI)×Int×Int×Int×Int×Int×Int×Int×Int×Int×Unit):Option (((List YI)×(List YI)×(List YI)×(List YI)×Int×Int×Int×Int×Int×Int×Int×Int×Int×Unit)⊕(((List YI)×(List YI)×Int×Int×Int×Int×Int×Int×Int×Int×Unit))):=
 letI u1:=x12.2.2;letI u2:=u1.2.2;letI u3:=u2.2.2;letI u4:=u3.2.2;letI u5:=u4.2.2;Tree.val <|
 .br (decide (u5.2.2.1<(64:Int))) (
 .ob (Mb (u4.1,()) ((6:Int),())) fun r13=>
 .ob (Mb (u4.1,()) ((11:Int),())) fun r14=>
 .ob (Mb (u4.1,()) ((25:Int),())) fun r15=>
 .ob (idx u1.1 u5.2.2.1) fun e16=>
 .ob (idx u1.2.1 u5.2.2.1) fun e17=>
 .ob (Mb (u2.1,()) ((2:Int),())) fun r18=>
 .ob (Mb (u2.1,()) ((13:Int),())) fun r19=>
 .ob (Mb (u2.1,()) ((22:Int),())) fun r20=>
 .leaf (.inl (x12.1,x12.2.1,u1.1,u1.2.1,(i64.wrap ((BitVec.ofInt (i64.bits) ((i64.wrap ((i64.wrap ((BitVec.ofInt (i64.bits) ((i64.wrap ((i64.wrap ((i64.wrap ((i64.wrap (u5.2.1+(i64.wrap ((BitVec.ofInt (i64.bits) ((i64.wrap ((BitVec.ofInt (i64.bits) (r13.1) ^^^ BitVec.ofInt (i64.bits) (r14.1)).toNat:Nat))) ^^^ BitVec.ofInt (i64.bits) (r15.1)).toNat:Nat))))+(i64.wrap ((BitVec.ofInt (i64.bits) ((i64.wrap ((BitVec.ofInt (i64.bits) (u4.1) &&& BitVec.ofInt (i64.bits) (u4.2.1)).toNat:Nat))) ^^^ BitVec.ofInt (i64.bits) ((i64.wrap ((BitVec.ofInt (i64.bits) ((i64.wrap ((BitVec.ofInt (i64.bits) (u4.1) ^^^ BitVec.ofInt (i64.bits) ((4294967295:Int))).toNat:Nat))) &&& BitVec.ofInt (i64.bits) (u5.1)).toNat:Nat)))).toNat:Nat))))+e16.1))+e17.1))) &&& BitVec.ofInt (i64.bits) ((4294967295:Int))).toNat:Nat))+(i64.wrap ((BitVec.ofInt (i64.bits) ((i64.wrap ((i64.wrap ((BitVec.ofInt (i64.bits) ((i64.wrap ((BitVec.ofInt (i64.bits) (r18.1) ^^^ BitVec.ofInt (i64.bits) (r19.1)).toNat:Nat))) ^^^ BitVec.ofInt (i64.bits) (r20.1)).toNat:Nat))+(i64.wrap ((BitVec.ofInt (i64.bits) ((i64.wrap ((BitVec.ofInt (i64.bits) ((i64.wrap ((BitVec.ofInt (i64.bits) (u2.1) &&& BitVec.ofInt (i64.bits) (u2.2.1)).toNat:Nat))) ^^^ BitVec.ofInt (i64.bits) ((i64.wrap ((BitVec.ofInt (i64.bits) (u2.1) &&& BitVec.ofInt (i64.bits) (u3.1)).toNat:Nat)))).toNat:Nat))) ^^^ BitVec.ofInt (i64.bits) ((i64.wrap ((BitVec.ofInt (i64.bits) (u2.2.1) &&& BitVec.ofInt (i64.bits) (u3.1)).toNat:Nat)))).toNat:Nat))))) &&& BitVec.ofInt (i64.bits) ((4294967295:Int))).toNat:Nat))))) &&& BitVec.ofInt (i64.bits) ((4294967295:Int))).toNat:Nat)),u2.1,u2.2.1,u3.1,(i64.wrap ((BitVec.ofInt (i64.bits) ((i64.wrap (u3.2.1+(i64.wrap ((BitVec.ofInt (i64.bits) ((i64.wrap ((i64.wrap ((i64.wrap ((i64.wrap (u5.2.1+(i64.wrap ((BitVec.ofInt (i64.bits) ((i64.wrap ((BitVec.ofInt (i64.bits) (r13.1) ^^^ BitVec.ofInt (i64.bits) (r14.1)).toNat:Nat))) ^^^ BitVec.ofInt (i64.bits) (r15.1)).toNat:Nat))))+(i64.wrap ((BitVec.ofInt (i64.bits) ((i64.wrap ((BitVec.ofInt (i64.bits) (u4.1) &&& BitVec.ofInt (i64.bits) (u4.2.1)).toNat:Nat))) ^^^ BitVec.ofInt (i64.bits) ((i64.wrap ((BitVec.ofInt (i64.bits) ((i64.wrap ((BitVec.ofInt (i64.bits) (u4.1) ^^^ BitVec.ofInt (i64.bits) ((4294967295:Int))).toNat:Nat))) &&& BitVec.ofInt (i64.bits) (u5.1)).toNat:Nat)))).toNat:Nat))))+e16.1))+e17.1))) &&& BitVec.ofInt (i64.bits) ((4294967295:Int))).toNat:Nat))))) &&& BitVec.ofInt (i64.bits) ((4294967295:Int))).toNat:Nat)),u4.1,u4.2.1,u5.1,(i64.wrap (u5.2.2.1+(1:Int))),()))) (
 .leaf (.inr (x12.1,x12.2.1,u2.1,u2.2.1,u3.1,u3.2.1,u4.1,u4.2.1,u5.1,u5.2.1,())))
def H0 (x22:(List YI)×(List YI)×(List YI)×Int×Unit):Option (((List YI)×(List YI)×(List YI)×Int×Unit)⊕(((List YI)×Unit))):=
 letI u1:=x22.2.2.2;Tree.val <|
 .br (decide (u1.1<(8:Int))) (
 .ob (idx x22.1 u1.1) fun e23=>
 .ob (idx x22.2.2.1 u1.1) fun e24=>
 .ob (idx x22.2.1 u1.1) fun e25=>
 let q26:=(x22.2.1.set (u1.1).toNat ((i64.wrap ((BitVec.ofInt (i64.bits) ((i64.wrap (e23.1+e24.1))) &&& BitVec.ofInt (i64.bits) ((4294967295:Int))).toNat:Nat)),()))
 .leaf (.inl (x22.1,q26,x22.2.2.1,(i64.wrap (u1.1+(1:Int))),()))) (
 .leaf (.inr (x22.2.1,())))
def Wq (a0:(List YI)×Unit) (a1:YBs):Tree (((List YI)×Unit)):=
 .chk (decide (([]:List YI).length+a0.1.length<=4294967296)) <|
 .ob (Akh a0) fun r1=>
 .br (!r1.1) (
 .leaf ((([]:List YI)++a0.1),())) (
 .br ((a1.1.length:Int) != (64:Int)) (
 .leaf ((([]:List YI)++a0.1),())) (
 .ob Bhb fun r2=>
 .ob (Agf a1) fun r3=>
 .ob (idx a0.1 (0:Int)) fun e4=>
 .ob (idx a0.1 (1:Int)) fun e5=>
 .ob (idx a0.1 (2:Int)) fun e6=>
 .ob (idx a0.1 (3:Int)) fun e7=>
 .ob (idx a0.1 (4:Int)) fun e8=>
 .ob (idx a0.1 (5:Int)) fun e9=>
 .ob (idx a0.1 (6:Int)) fun e10=>
 .ob (idx a0.1 (7:Int)) fun e11=>
 .ob (Ax Il (a0.1,(([]:List YI)++a0.1),r2.1,r3.1,e4.1,e5.1,e6.1,e7.1,e8.1,e9.1,e10.1,e11.1,(0:Int),())) fun o21=>letI u1:=o21.2.2.2;letI u2:=u1.2.2.2;
 .ob (Ax H0 (o21.1,o21.2.1,[(o21.2.2.1,()),(u1.1,()),(u1.2.1,()),(u1.2.2.1,()),(u2.1,()),(u2.2.1,()),(u2.2.2.1,()),(u2.2.2.2.1,())],(0:Int),())) fun o27=>
 .leaf o27))
def Xc (a0:(List YI)×Unit) (a1:YBs):Option (((List YI)×Unit)):=(Wq a0 a1).val
def Qc (x1:Qu):Option (Qu⊕(YBs)):=
 Tree.val <|
 .br (decide (x1.2.2.1<(8:Int))) (
 .ob (idx x1.1 x1.2.2.1) fun e2=>
 .ob (En (x1.2.1,()) e2 ((4:Int),())) fun r3=>
 .leaf (.inl (x1.1,r3.1,(i64.wrap (x1.2.2.1+(1:Int))),()))) (
 .leaf (.inr (x1.2.1,())))
def Ass (a0:(List YI)×Unit):Tree (YBs):=
 .ob (Ax Qc (a0.1,([]:List YB),(0:Int),())) fun o4=>
 .leaf o4
def Auq (a0:(List YI)×Unit):Option (YBs):=(Ass a0).val
def V3 (x3:(List YB)×(List YI)×Int×Unit):Option (((List YB)×(List YI)×Int×Unit)⊕(((List YI)×Unit))):=
 letI u1:=x3.2.2;Tree.val <|
 .br (decide (u1.1<(x3.1.length:Int))) (
 .chk (decide ((0:Int)<=u1.1)) <|
 .chk (decide (u1.1<=(i64.wrap (u1.1+(64:Int))))) <|
 .chk (decide ((i64.wrap (u1.1+(64:Int)))<=(x3.1.length:Int))) <|
 .ob (Xc (x3.2.1,()) (((x3.1.take ((i64.wrap (u1.1+(64:Int)))).toNat).drop (u1.1).toNat),())) fun r4=>
 .leaf (.inl (x3.1,r4.1,(i64.wrap (u1.1+(64:Int))),()))) (
 .leaf (.inr (x3.2.1,())))
def A47 (a0:YBs):Tree (YBs):=
 .br (decide ((a0.1.length:Int)>(1048576:Int))) (
 .leaf (([]:List YB),())) (
 .chk (decide (([]:List YB).length+a0.1.length<=4294967296)) <|
 .ob (A50 ((a0.1.length:Int),())) fun r1=>
 .chk (decide ((([]:List YB)++a0.1).length+r1.1.length<=4294967296)) <|
 .ob A78 fun r2=>
 .ob (Ax V3 (((([]:List YB)++a0.1)++r1.1),r2.1,(0:Int),())) fun o5=>
 .ob (Auq o5) fun r6=>
 .leaf r6)
def Al6 (a0:YBs):Option (YBs):=(A47 a0).val
def Sv (x2:YBs):Option (YBs⊕(YBs)):=
 Tree.val <|
 .br (decide ((x2.1.length:Int)<(64:Int))) (
 .chk (decide (x2.1.length+[((0:Int),())].length<=4294967296)) <|
 .leaf (.inl ((x2.1++[((0:Int),())]),()))) (
 .leaf (.inr x2))
def Aez (a0:YBs):Tree (YBs):=
 .br (decide ((a0.1.length:Int)>(1048576:Int))) (
 .leaf (([]:List YB),())) (
 .chk (decide (([]:List YB).length+a0.1.length<=4294967296)) <|
 .br (decide ((a0.1.length:Int)>(64:Int))) (
 .ob (Al6 a0) fun r1=>
 .ob (Ax Sv r1) fun o3=>
 .leaf o3) (
 .ob (Ax Sv ((([]:List YB)++a0.1),())) fun o4=>
 .leaf o4))
def Agg (a0:YBs):Option (YBs):=(Aez a0).val
def Sw (x2:(List YB)×(List YB)×(List YB)×(List YB)×Int×Unit):Option (((List YB)×(List YB)×(List YB)×(List YB)×Int×Unit)⊕(((List YB)×(List YB)×(List YB)×Unit))):=
 letI u1:=x2.2.2.2;Tree.val <|
 .br (decide (u1.2.1<(64:Int))) (
 .ob (idx x2.2.1 u1.2.1) fun e3=>
 .chk (decide (x2.2.2.1.length+[((u8.wrap ((BitVec.ofInt (u8.bits) (e3.1) ^^^ BitVec.ofInt (u8.bits) ((54:Int))).toNat:Nat)),())].length<=4294967296)) <|
 .ob (idx x2.2.1 u1.2.1) fun e4=>
 .chk (decide (x2.2.2.2.1.length+[((u8.wrap ((BitVec.ofInt (u8.bits) (e4.1) ^^^ BitVec.ofInt (u8.bits) ((92:Int))).toNat:Nat)),())].length<=4294967296)) <|
 .leaf (.inl (x2.1,x2.2.1,(x2.2.2.1++[((u8.wrap ((BitVec.ofInt (u8.bits) (e3.1) ^^^ BitVec.ofInt (u8.bits) ((54:Int))).toNat:Nat)),())]),(u1.1++[((u8.wrap ((BitVec.ofInt (u8.bits) (e4.1) ^^^ BitVec.ofInt (u8.bits) ((92:Int))).toNat:Nat)),())]),(i64.wrap (u1.2.1+(1:Int))),()))) (
 .leaf (.inr (x2.1,x2.2.2.1,u1.1,())))
def Azo (a0:YBs) (a1:YBs):Tree (YBs):=
 .br (decide ((a0.1.length:Int)>(1048576:Int))) (
 .leaf (([]:List YB),())) (
 .br (decide ((a1.1.length:Int)>(1048512:Int))) (
 .leaf (([]:List YB),())) (
 .ob (Agg a0) fun r1=>
 .ob (Ax Sw (a1.1,r1.1,([]:List YB),([]:List YB),(0:Int),())) fun o5=>
 .chk (decide (o5.2.1.length+o5.1.length<=4294967296)) <|
 .ob (Al6 ((o5.2.1++o5.1),())) fun r6=>
 .chk (decide (o5.2.2.1.length+r6.1.length<=4294967296)) <|
 .ob (Al6 ((o5.2.2.1++r6.1),())) fun r7=>
 .leaf r7))
def Vn (a0:YBs) (a1:YBs):Option (YBs):=(Azo a0 a1).val
def Am7 (a0:YBs) (a1:YI):Tree (YBs):=
 .ob (Bt ((a0.1.length:Int),()) ((1:Int),()) ((32:Int),())) fun r1=>
 .br (!r1.1) (
 .leaf (([]:List YB),())) (
 .ob (Bt a1 ((0:Int),()) ((10000:Int),())) fun r2=>
 .br (!r2.1) (
 .leaf (([]:List YB),())) (
 .ob (En ([((114:Int),()),((111:Int),()),((108:Int),()),((108:Int),())],()) a1 ((4:Int),())) fun r3=>
 .ob (Vn a0 r3) fun r4=>
 .chk (decide ((12:Int)<=(r4.1.length:Int))) <|
 .chk (decide (([]:List YB).length+((r4.1.take ((12:Int)).toNat).drop ((0:Int)).toNat).length<=4294967296)) <|
 .leaf ((([]:List YB)++((r4.1.take ((12:Int)).toNat).drop ((0:Int)).toNat)),())))
def Apm (a0:YBs) (a1:YI):Option (YBs):=(Am7 a0 a1).val
def Azp (a0:Gc):Tree (Gc×YBs):=
 .ob (Akg a0) fun r1=>
 .ob (Adw a0) fun r2=>
 .br (!r2.1) (
 .leaf (r1,(([]:List YB),()))) (
 .br (a0.2.1==(10000:Int)) (
 .leaf (r1,(([]:List YB),()))) (
 .ob (Apm (a0.1,()) (a0.2.1,())) fun r3=>
 .leaf ((r1.1,(i64.wrap (a0.2.1+(1:Int))),()),r3)))
def A0l (a0:Gc):Option (Gc×YBs):=(Azp a0).val
def Np (x2:(List YB)×(List YB)×Int×(List YB)×(List YB)×Int×Unit):Option (((List YB)×(List YB)×Int×(List YB)×(List YB)×Int×Unit)⊕((Int×(List YB)×Unit))):=
 letI u1:=x2.2.2;letI u2:=u1.2.2;Tree.val <|
 .br (decide ((x2.2.2.2.1.length:Int)<u1.1)) (
 .chk (decide (([]:List YB).length+x2.2.2.2.2.1.length<=4294967296)) <|
 .chk (decide ((([]:List YB)++u2.1).length+x2.2.1.length<=4294967296)) <|
 .chk (decide (((([]:List YB)++u2.1)++x2.2.1).length+[((u8.wrap (u2.2.1)),())].length<=4294967296)) <|
 .ob (Vn (x2.1,()) ((((([]:List YB)++u2.1)++x2.2.1)++[((u8.wrap (u2.2.1)),())]),())) fun r3=>
 .chk (decide (x2.2.2.2.1.length+r3.1.length<=4294967296)) <|
 .leaf (.inl (x2.1,x2.2.1,u1.1,(u1.2.1++r3.1),r3.1,(i64.wrap (u2.2.1+(1:Int))),()))) (
 .leaf (.inr (u1.1,u1.2.1,())))
def Am8 (a0:YBs) (a1:YBs) (a2:YI):Tree (YBs×(Bool×Unit)):=
 .ob (Bt a2 ((0:Int),()) ((8160:Int),())) fun r1=>
 .br (!r1.1) (
 .leaf ((([]:List YB),()),(false,()))) (
 .br (decide ((a1.1.length:Int)>(100:Int))) (
 .leaf ((([]:List YB),()),(false,()))) (
 .br (decide ((a0.1.length:Int)>(1048576:Int))) (
 .leaf ((([]:List YB),()),(false,()))) (
 .ob (Ax Np (a0.1,a1.1,a2.1,([]:List YB),([]:List YB),(1:Int),())) fun o4=>
 .chk (decide ((0:Int)<=o4.1)) <|
 .chk (decide (o4.1<=(o4.2.1.length:Int))) <|
 .chk (decide (([]:List YB).length+((o4.2.1.take (o4.1).toNat).drop ((0:Int)).toNat).length<=4294967296)) <|
 .leaf (((([]:List YB)++((o4.2.1.take (o4.1).toNat).drop ((0:Int)).toNat)),()),(true,())))))
def Apn (a0:YBs) (a1:YBs) (a2:YI):Option (YBs×(Bool×Unit)):=(Am8 a0 a1 a2).val
def Am9 (a0:YBs) (a1:ByteArray×Unit):Tree (YBs):=
 .chk (decide (a1.1.size<=4294967296)) <|
 .ob (Apn a0 ((Kd a1.1),()) ((32:Int),())) fun r1=>
 .leaf r1.1
def Do (a0:YBs) (a1:ByteArray×Unit):Option (YBs):=(Am9 a0 a1).val
def Ana (a0:YBs):Tree (YBs):=
 .br ((a0.1.length:Int) != (12:Int)) (
 .leaf (([]:List YB),())) (
 .ob (Do a0 ((Dd [106,97,114]),())) fun r1=>
 .leaf r1)
def Apo (a0:YBs):Option (YBs):=(Ana a0).val
def Adm (a0:YI):Tree (Ch):=
 .ob (Bt a0 ((1:Int),()) ((6:Int),())) fun r1=>
 .br (!r1.1) (
 .leaf ((0:Int),([]:List Ak),())) (
 .leaf (a0.1,([]:List Ak),()))
def O5 (a0:YI):Option (Ch):=(Adm a0).val
def A7e (a0:YBs):Tree ((Bool×Unit)):=
 .leaf (((a0.1.length:Int)==(32:Int)),())
def Aur (a0:YBs):Option ((Bool×Unit)):=(A7e a0).val
def Wr (x1:Int×Int×Int×(List Ak)×Unit):Option ((Int×Int×Int×(List Ak)×Unit)⊕(YI)):=
 letI u1:=x1.2.2;Tree.val <|
 .br (decide (x1.2.1<(x1.2.2.2.1.length:Int))) (
 .ob (idx u1.2.1 x1.2.1) fun e2=>
 .br (!e2.2.2.2.2.2.2.2.2.2.2.2.2.2.2.2.2.2.2.2.2.2.2.2.1) (
 .leaf (.inl ((i64.wrap (x1.1+(1:Int))),(i64.wrap (x1.2.1+(1:Int))),u1.1,u1.2.1,()))) (
 .leaf (.inl (x1.1,(i64.wrap (x1.2.1+(1:Int))),u1.1,u1.2.1,())))) (
 .leaf (.inr (x1.1,())))
def Azr (a0:Ch):Tree (YI):=
 .ob (Ax Wr ((0:Int),(0:Int),a0.1,a0.2.1,())) fun o3=>
 .leaf o3
def Agh (a0:Ch):Option (YI):=(Azr a0).val
def Ajb (a0:YEp):Tree ((Bool×Unit)):=
 .br (a0.1==(0:Int)) (
 .br ((a0.2.1.length:Int)==(0:Int)) (
 .br (a0.2.2.1==(0:Int)) (
 .br (a0.2.2.2.1==(0:Int)) (
 .leaf (((a0.2.2.2.2.1.length:Int)==(0:Int)),())) (
 .leaf (false,()))) (
 .leaf (false,()))) (
 .leaf (false,()))) (
 .leaf (false,()))
def Um (a0:YEp):Option ((Bool×Unit)):=(Ajb a0).val
def Aco (a0:Ap):Tree ((Bool×Unit)):=
 letI u1:=a0.2.2.2;letI u2:=u1.2.2.2;letI u3:=u2.2.2.2;.br (a0.1==(0:Int)) (
 .br ((a0.2.1.length:Int)==(0:Int)) (
 .ob (Um (a0.2.2.1,u1.1,u1.2.1,u1.2.2.1,u2.1,())) fun r1=>
 .br r1.1 (
 .ob (Um (u2.2.1,u2.2.2.1,u3.1,u3.2.1,u3.2.2.1,())) fun r2=>
 .br r2.1 (
 .br (!u3.2.2.2.1) (
 .br (u3.2.2.2.2.1==(0:Int)) (
 .leaf (((a0.2.2.2.2.2.2.2.2.2.2.2.2.2.2.1.length:Int)==(0:Int)),())) (
 .leaf (false,()))) (
 .leaf (false,()))) (
 .leaf (false,()))) (
 .leaf (false,()))) (
 .leaf (false,()))) (
 .leaf (false,()))
def Ac8 (a0:Ap):Option ((Bool×Unit)):=(Aco a0).val
def Ae0 (a0:YI):Tree (A7):=
 .ob (Bt a0 ((0:Int),()) ((255:Int),())) fun r1=>
 .br (!r1.1) (
 .leaf ((0:Int),(0:Int),())) (
 .leaf ((i64.wrap ((167772160:Int)+a0.1)),(i64.wrap ((7000:Int)+a0.1)),()))
def H4 (a0:YI):Option (A7):=(Ae0 a0).val
def Asx (a0:Db) (a1:YI):Tree ((Bool×Unit)):=
 .chk (decide ((0:Int)<=a1.1)) <|
 .chk (decide ((0:Int)<=(a1.1%(1024:Int)))) <|
 .ob (idx a0.2.1 ((a1.1%(1024:Int))/(32:Int))) fun e1=>
 .chk (decide ((0:Int)<=(a1.1%(1024:Int)))) <|
 .chk (decide ((0:Int)<=((a1.1%(1024:Int))%(32:Int)))) <|
 .leaf (((i64.wrap ((BitVec.ofInt (i64.bits) ((Int.fdiv e1.1 (2^(min (((a1.1%(1024:Int))%(32:Int))).toNat i64.bits)))) &&& BitVec.ofInt (i64.bits) ((1:Int))).toNat:Nat))==(1:Int)),())
def Ab7 (a0:Db) (a1:YI):Option ((Bool×Unit)):=(Asx a0 a1).val
def M7 (x2:Int×Int×(List YI)×Unit):Option ((Int×Int×(List YI)×Unit)⊕((Bool×Unit)⊕Db)):=
 Tree.val <|
 .br (decide (x2.1<(32:Int))) (
 .ob (idx x2.2.2.1 x2.1) fun e3=>
 .ob (Bt e3 ((0:Int),()) ((4294967295:Int),())) fun r4=>
 .br (!r4.1) (
 .leaf (.inr (.inl (false,())))) (
 .leaf (.inl ((i64.wrap (x2.1+(1:Int))),x2.2.1,x2.2.2.1,())))) (
 .leaf (.inr (.inr (x2.2.1,x2.2.2.1,()))))
def I7 (x9:Int×Int×(List YI)×Unit):Option ((Int×Int×(List YI)×Unit)⊕((Bool×Unit)⊕(Unit))):=
 Tree.val <|
 .br (decide (x9.1<(1024:Int))) (
 .ob (Ab7 (x9.2.1,x9.2.2.1,()) (x9.1,())) fun r10=>
 .br r10.1 (
 .leaf (.inr (.inl (false,())))) (
 .leaf (.inl ((i64.wrap (x9.1+(1:Int))),x9.2.1,x9.2.2.1,())))) (
 .leaf (.inr (.inr ())))
def Aho (a0:Db):Tree ((Bool×Unit)):=
 .br ((a0.2.1.length:Int) != (32:Int)) (
 .leaf (false,())) (
 .ob (Bt (a0.1,()) ((-1:Int),()) ((281474976710655:Int),())) fun r1=>
 .br (!r1.1) (
 .leaf (false,())) (
 .ob (Ax M7 ((0:Int),a0.1,a0.2.1,())) fun o5=>
 .sm o5 (fun o6=>
 .leaf o6) (fun o7=>
 .br (decide (o7.1≥(0:Int))) (
 .ob (Ab7 o7 (o7.1,())) fun r8=>
 .br (!r8.1) (
 .leaf (false,())) (
 .ob (Ax I7 ((i64.wrap (o7.1+(1:Int))),o7.1,o7.2.1,())) fun o11=>
 .sm o11 (fun o12=>
 .leaf o12) (fun o13=>
 .leaf (true,())))) (
 .ob (Ax I7 ((i64.wrap (o7.1+(1:Int))),o7.1,o7.2.1,())) fun o14=>
 .sm o14 (fun o15=>
 .leaf o15) (fun o16=>
 .leaf (true,()))))))
def Ah9 (a0:Db):Option ((Bool×Unit)):=(Aho a0).val
def Azs (a0:YEp):Tree ((Bool×Unit)):=
 .ob (Bt (a0.1,()) ((0:Int),()) ((4294967295:Int),())) fun r1=>
 .br r1.1 (
 .br ((a0.2.1.length:Int)==(32:Int)) (
 .ob (Bt (a0.2.2.1,()) ((0:Int),()) ((281474976710656:Int),())) fun r2=>
 .br r2.1 (
 .ob (Ah9 (a0.2.2.2.1,a0.2.2.2.2.1,())) fun r3=>
 .leaf r3) (
 .leaf (false,()))) (
 .leaf (false,()))) (
 .leaf (false,()))
def Vo (a0:YEp):Option ((Bool×Unit)):=(Azs a0).val
def Anc (a0:Ap):Tree ((Bool×Unit)):=
 letI u1:=a0.2.2;letI u2:=u1.2.2;letI u3:=u2.2.2.2;letI u4:=u3.2.2;letI u5:=u4.2.2;.ob (Bt (a0.1,()) ((0:Int),()) ((1:Int),())) fun r1=>
 .br (!r1.1) (
 .leaf (false,())) (
 .br ((a0.2.1.length:Int) != (12:Int)) (
 .leaf (false,())) (
 .ob (Vo (u1.1,u1.2.1,u2.1,u2.2.1,u2.2.2.1,())) fun r2=>
 .br (!r2.1) (
 .leaf (false,())) (
 .br u5.2.1 (
 .br (a0.1==(0:Int)) (
 .ob (Vo (u3.1,u3.2.1,u4.1,u4.2.1,u5.1,())) fun r3=>
 .br (!r3.1) (
 .leaf (false,())) (
 .br (u3.1 != (i64.wrap (u1.1-(1:Int)))) (
 .leaf (false,())) (
 .ob (Bt (u5.2.2.1,()) ((0:Int),()) ((1000005:Int),())) fun r4=>
 .br (!r4.1) (
 .leaf (false,())) (
 .br ((a0.2.2.2.2.2.2.2.2.2.2.2.2.2.2.1.length:Int)==(0:Int)) (
 .leaf (true,())) (
 .br (a0.1==(0:Int)) (
 .br ((a0.2.2.2.2.2.2.2.2.2.2.2.2.2.2.1.length:Int)==(32:Int)) (
 .leaf ((decide (u1.1<(4294967295:Int))),())) (
 .leaf (false,()))) (
 .leaf (false,()))))))) (
 .ob (Vo (u3.1,u3.2.1,u4.1,u4.2.1,u5.1,())) fun r5=>
 .br (!r5.1) (
 .leaf (false,())) (
 .br (u3.1 != (i64.wrap (u1.1-(1:Int)))) (
 .leaf (false,())) (
 .ob (Bt (u5.2.2.1,()) ((-1:Int),()) ((1000005:Int),())) fun r6=>
 .br (!r6.1) (
 .leaf (false,())) (
 .br ((a0.2.2.2.2.2.2.2.2.2.2.2.2.2.2.1.length:Int)==(0:Int)) (
 .leaf (true,())) (
 .br (a0.1==(0:Int)) (
 .br ((a0.2.2.2.2.2.2.2.2.2.2.2.2.2.2.1.length:Int)==(32:Int)) (
 .leaf ((decide (u1.1<(4294967295:Int))),())) (
 .leaf (false,()))) (
 .leaf (false,())))))))) (
 .ob (Um (u3.1,u3.2.1,u4.1,u4.2.1,u5.1,())) fun r7=>
 .br (!r7.1) (
 .leaf (false,())) (
 .br (u5.2.2.1 != (0:Int)) (
 .leaf (false,())) (
 .br ((a0.2.2.2.2.2.2.2.2.2.2.2.2.2.2.1.length:Int)==(0:Int)) (
 .leaf (true,())) (
 .br (a0.1==(0:Int)) (
 .br ((a0.2.2.2.2.2.2.2.2.2.2.2.2.2.2.1.length:Int)==(32:Int)) (
 .leaf ((decide (u1.1<(4294967295:Int))),())) (
 .leaf (false,()))) (
 .leaf (false,())))))))))
def Ke (a0:Ap):Option ((Bool×Unit)):=(Anc a0).val
def A18 (a0:YBs) (a1:YBs):Tree ((Bool×Unit)):=
 .leaf ((decide ((Qr a0.1)=(Qr a1.1))),())
def Td (a0:YBs) (a1:YBs):Option ((Bool×Unit)):=(A18 a0 a1).val
def Anf (a0:A7):Tree ((Bool×Unit)):=
 .ob (Bt (a0.1,()) ((0:Int),()) ((4294967295:Int),())) fun r1=>
 .br r1.1 (
 .ob (Bt (a0.2.1,()) ((0:Int),()) ((65535:Int),())) fun r2=>
 .leaf r2) (
 .leaf (false,()))
def Hk (a0:A7):Option ((Bool×Unit)):=(Anf a0).val
def Im (x6:Int×Int×Int×Int×(List A8)×Int×Int×(List YB)×Int×Unit):Option ((Int×Int×Int×Int×(List A8)×Int×Int×(List YB)×Int×Unit)⊕((Bool×Unit)⊕(Int×Int×Int×(List A8)×Unit))):=
 letI u1:=x6.2.2;letI u2:=u1.2.2;Tree.val <|
 .br (decide (x6.2.1<x6.1)) (
 .ob (idx u2.1 x6.2.1) fun e7=>
 .br (and (e7.1==u2.2.1) (and (e7.2.1==u2.2.2.1) true)) (
 .leaf (.inr (.inl (false,())))) (
 .leaf (.inl (x6.1,(i64.wrap (x6.2.1+(1:Int))),u1.1,u1.2.1,u2.1,u2.2.1,u2.2.2.1,u2.2.2.2.1,u2.2.2.2.2.1,())))) (
 .leaf (.inr (.inr (x6.1,u1.1,u1.2.1,u2.1,()))))
def Lz (x2:Int×Int×Int×(List A8)×Unit):Option ((Int×Int×Int×(List A8)×Unit)⊕((Bool×Unit)⊕(Unit))):=
 Tree.val <|
 .br (decide (x2.1<(x2.2.2.2.1.length:Int))) (
 .ob (idx x2.2.2.2.1 x2.1) fun e3=>
 .ob (Hk (e3.1,e3.2.1,())) fun r4=>
 .br (!r4.1) (
 .leaf (.inr (.inl (false,())))) (
 .br ((e3.2.2.1.length:Int) != (12:Int)) (
 .leaf (.inr (.inl (false,())))) (
 .ob (Bt (e3.2.2.2.1,()) ((0:Int),()) ((1000006:Int),())) fun r5=>
 .br (!r5.1) (
 .leaf (.inr (.inl (false,())))) (
 .br (and (e3.1==x2.2.1) (and (e3.2.1==x2.2.2.1) true)) (
 .leaf (.inr (.inl (false,())))) (
 .ob (Ax Im (x2.1,(0:Int),x2.2.1,x2.2.2.1,x2.2.2.2.1,e3.1,e3.2.1,e3.2.2.1,e3.2.2.2.1,())) fun o8=>
 .sm o8 (fun o9=>
 .leaf (.inr (.inl o9))) (fun o10=>
 .leaf (.inl ((i64.wrap (o10.1+(1:Int))),o10.2.1,o10.2.2.1,o10.2.2.2.1,())))))))) (
 .leaf (.inr (.inr ())))
def Aa1 (a0:Bm):Tree ((Bool×Unit)):=
 .ob (Hk (a0.1,a0.2.1,())) fun r1=>
 .br (!r1.1) (
 .leaf (false,())) (
 .br (decide ((a0.2.2.1.length:Int)>(3:Int))) (
 .leaf (false,())) (
 .ob (Ax Lz ((0:Int),a0.1,a0.2.1,a0.2.2.1,())) fun o11=>
 .sm o11 (fun o12=>
 .leaf o12) (fun o13=>
 .leaf (true,()))))
def Qj (a0:Bm):Option ((Bool×Unit)):=(Aa1 a0).val
def Ang (a0:Ak):Tree ((Bool×Unit)):=
 letI u1:=a0.2.2.2;letI u2:=u1.2.2;letI u3:=u2.2.2;letI u4:=u3.2.2;letI u5:=u4.2.2;letI u6:=u5.2.2;letI u7:=u6.2.2;letI u8:=u7.2.2.2;letI u9:=u8.2.2.2;.ob (Bt (a0.1,()) ((1:Int),()) ((9:Int),())) fun r1=>
 .br (!r1.1) (
 .leaf (false,())) (
 .br ((a0.2.1.length:Int) != (12:Int)) (
 .leaf (false,())) (
 .br ((a0.2.2.1.length:Int) != (12:Int)) (
 .leaf (false,())) (
 .ob (Bt (u9.1,()) ((0:Int),()) ((1000000:Int),())) fun r2=>
 .br (!r2.1) (
 .leaf (false,())) (
 .ob (Bt (u9.2.1,()) ((0:Int),()) ((1000000:Int),())) fun r3=>
 .br (!r3.1) (
 .leaf (false,())) (
 .br u9.2.2.1 (
 .ob (Ac8 (u1.1,u1.2.1,u2.1,u2.2.1,u3.1,u3.2.1,u4.1,u4.2.1,u5.1,u5.2.1,u6.1,u6.2.1,u7.1,u7.2.1,u7.2.2.1,())) fun r4=>
 .br r4.1 (
 .ob (H4 ((-1:Int),())) fun r5=>
 .br (and (u8.1==r5.1) (and (u8.2.1==r5.2.1) true)) (
 .br ((a0.2.2.2.2.2.2.2.2.2.2.2.2.2.2.2.2.2.2.2.2.1.length:Int)==(0:Int)) (
 .leaf ((u9.2.1==(0:Int)),())) (
 .leaf (false,()))) (
 .leaf (false,()))) (
 .leaf (false,()))) (
 .ob (Ke (u1.1,u1.2.1,u2.1,u2.2.1,u3.1,u3.2.1,u4.1,u4.2.1,u5.1,u5.2.1,u6.1,u6.2.1,u7.1,u7.2.1,u7.2.2.1,())) fun r6=>
 .br r6.1 (
 .br (u1.1==(1:Int)) (
 .ob (Td (u1.2.1,()) (a0.2.2.1,())) fun r7=>
 .br r7.1 (
 .ob (Qj (u8.1,u8.2.1,u8.2.2.1,())) fun r8=>
 .leaf r8) (
 .leaf (false,()))) (
 .leaf (false,()))) (
 .leaf (false,()))))))))
def O6 (a0:Ak):Option ((Bool×Unit)):=(Ang a0).val
def Rb (x1:(List YB)×Int×Int×(List Ak)×Unit):Option (((List YB)×Int×Int×(List Ak)×Unit)⊕(YI⊕(Unit))):=
 Tree.val <|
 .br (decide (x1.2.1<(x1.2.2.2.1.length:Int))) (
 .ob (idx x1.2.2.2.1 x1.2.1) fun e2=>
 .ob (Td (e2.2.2.1,()) (x1.1,())) fun r3=>
 .br r3.1 (
 .leaf (.inr (.inl (x1.2.1,())))) (
 .leaf (.inl (x1.1,(i64.wrap (x1.2.1+(1:Int))),x1.2.2.1,x1.2.2.2.1,())))) (
 .leaf (.inr (.inr ())))
def Ani (a0:Ch) (a1:YBs):Tree (YI):=
 .ob (Ax Rb (a1.1,(0:Int),a0.1,a0.2.1,())) fun o4=>
 .sm o4 (fun o5=>
 .leaf o5) (fun o6=>
 .leaf ((-1:Int),()))
def Adx (a0:Ch) (a1:YBs):Option (YI):=(Ani a0 a1).val
def T8 (x3:Int×Int×(List Ak)×Unit):Option ((Int×Int×(List Ak)×Unit)⊕((Bool×Unit)⊕(Unit))):=
 Tree.val <|
 .br (decide (x3.1<(x3.2.2.1.length:Int))) (
 .ob (idx x3.2.2.1 x3.1) fun e4=>
 .ob (O6 e4) fun r5=>
 .br (!r5.1) (
 .leaf (.inr (.inl (false,())))) (
 .ob (idx x3.2.2.1 x3.1) fun e6=>
 .ob (Adx (x3.2.1,x3.2.2.1,()) (e6.2.2.1,())) fun r7=>
 .br (r7.1 != x3.1) (
 .leaf (.inr (.inl (false,())))) (
 .leaf (.inl ((i64.wrap (x3.1+(1:Int))),x3.2.1,x3.2.2.1,()))))) (
 .leaf (.inr (.inr ())))
def As3 (a0:Ch):Tree ((Bool×Unit)):=
 .ob (Bt (a0.1,()) ((1:Int),()) ((6:Int),())) fun r1=>
 .br (!r1.1) (
 .leaf (false,())) (
 .br (decide ((a0.2.1.length:Int)>(12:Int))) (
 .leaf (false,())) (
 .ob (Agh a0) fun r2=>
 .br (decide (r2.1>a0.1)) (
 .leaf (false,())) (
 .ob (Ax T8 ((0:Int),a0.1,a0.2.1,())) fun o8=>
 .sm o8 (fun o9=>
 .leaf o9) (fun o10=>
 .leaf (true,())))))
def Aia (a0:Ch):Option ((Bool×Unit)):=(As3 a0).val
def H1 (x9:(List Ao)×Int×Int×Unit):Option (((List Ao)×Int×Int×Unit)⊕((Bool×Unit)⊕((List Ao)×Int×Unit))):=
 Tree.val <|
 .br (decide (x9.2.2.1<x9.2.1)) (
 .ob (idx x9.1 x9.2.2.1) fun e10=>
 .ob (idx x9.1 x9.2.1) fun e11=>
 .br (and (e10.1==e11.1) (and (e10.2.1==e11.2.1) true)) (
 .leaf (.inr (.inl (false,())))) (
 .leaf (.inl (x9.1,x9.2.1,(i64.wrap (x9.2.2.1+(1:Int))),())))) (
 .leaf (.inr (.inr (x9.1,x9.2.1,()))))
def Jn (x1:(List Ao)×Int×Unit):Option (((List Ao)×Int×Unit)⊕((Bool×Unit)⊕(Unit))):=
 Tree.val <|
 .br (decide (x1.2.1<(x1.1.length:Int))) (
 .ob (idx x1.1 x1.2.1) fun e2=>
 .ob (Hk (e2.1,e2.2.1,())) fun r3=>
 .br (!r3.1) (
 .leaf (.inr (.inl (false,())))) (
 .ob (idx x1.1 x1.2.1) fun e4=>
 .ob (Bt (e4.2.2.1,()) ((0:Int),()) ((1000000:Int),())) fun r5=>
 .br (!r5.1) (
 .leaf (.inr (.inl (false,())))) (
 .ob (idx x1.1 x1.2.1) fun e6=>
 .ob (idx x1.1 x1.2.1) fun e7=>
 .ob (Bt (e6.2.2.2.1,()) ((0:Int),()) ((i64.wrap ((3:Int)*e7.2.2.1)),())) fun r8=>
 .br (!r8.1) (
 .leaf (.inr (.inl (false,())))) (
 .ob (Ax H1 (x1.1,x1.2.1,(0:Int),())) fun o12=>
 .sm o12 (fun o13=>
 .leaf (.inr (.inl o13))) (fun o14=>
 .leaf (.inl (o14.1,(i64.wrap (o14.2.1+(1:Int))),()))))))) (
 .leaf (.inr (.inr ())))
def U5 (a0:(List Ao)×Unit):Tree ((Bool×Unit)):=
 .br (decide ((a0.1.length:Int)>(8:Int))) (
 .leaf (false,())) (
 .ob (Ax Jn (a0.1,(0:Int),())) fun o15=>
 .sm o15 (fun o16=>
 .leaf o16) (fun o17=>
 .leaf (true,())))
def Mc (a0:(List Ao)×Unit):Option ((Bool×Unit)):=(U5 a0).val
def As4 (a0:YBs):Tree ((Bool×Unit)):=
 .ob (Bt ((a0.1.length:Int),()) ((1:Int),()) ((32:Int),())) fun r1=>
 .leaf r1
def Rq (a0:YBs):Option ((Bool×Unit)):=(As4 a0).val
def Ku (x6:Int×(List YBs)×(List YB)×(List YB)×Int×Int×(List Ak)×(List Ao)×Unit):Option ((Int×(List YBs)×(List YB)×(List YB)×Int×Int×(List Ak)×(List Ao)×Unit)⊕((Bool×Unit)⊕Bs)):=
 letI u1:=x6.2.2;letI u2:=u1.2.2.2;Tree.val <|
 .br (decide (x6.1<(x6.2.1.length:Int))) (
 .ob (idx x6.2.1 x6.1) fun e7=>
 .ob (Rq e7) fun r8=>
 .br (!r8.1) (
 .leaf (.inr (.inl (false,())))) (
 .leaf (.inl ((i64.wrap (x6.1+(1:Int))),x6.2.1,u1.1,u1.2.1,u1.2.2.1,u2.1,u2.2.1,u2.2.2.1,())))) (
 .leaf (.inr (.inr (x6.2.1,u1.1,u1.2.1,u1.2.2.1,u2.1,u2.2.1,u2.2.2.1,()))))
def Kv (x12:Int×(List YBs)×(List YB)×(List YB)×Int×Int×(List Ak)×(List Ao)×Unit):Option ((Int×(List YBs)×(List YB)×(List YB)×Int×Int×(List Ak)×(List Ao)×Unit)⊕((Bool×Unit)⊕(Unit))):=
 letI u1:=x12.2.2.2.2;Tree.val <|
 .br (decide (x12.1<(x12.2.2.2.2.2.2.1.length:Int))) (
 .ob (idx u1.2.2.1 x12.1) fun e13=>
 .br (decide (e13.1>(x12.2.1.length:Int))) (
 .leaf (.inr (.inl (false,())))) (
 .leaf (.inl ((i64.wrap (x12.1+(1:Int))),x12.2.1,x12.2.2.1,x12.2.2.2.1,u1.1,u1.2.1,u1.2.2.1,u1.2.2.2.1,())))) (
 .leaf (.inr (.inr ())))
def Ws (a0:Bs):Tree ((Bool×Unit)):=
 letI u1:=a0.2.2;letI u2:=u1.2.2;.ob (Bt ((a0.1.length:Int),()) ((1:Int),()) ((9:Int),())) fun r1=>
 .br (!r1.1) (
 .leaf (false,())) (
 .ob (Aur (a0.2.1,())) fun r2=>
 .br (!r2.1) (
 .leaf (false,())) (
 .ob (Adw (u1.1,u1.2.1,())) fun r3=>
 .br (!r3.1) (
 .leaf (false,())) (
 .ob (Aia (u2.1,u2.2.1,())) fun r4=>
 .br (!r4.1) (
 .leaf (false,())) (
 .ob (Mc (u2.2.2.1,())) fun r5=>
 .br (!r5.1) (
 .leaf (false,())) (
 .ob (Ax Ku ((0:Int),a0.1,a0.2.1,u1.1,u1.2.1,u2.1,u2.2.1,u2.2.2.1,())) fun o9=>
 .sm o9 (fun o10=>
 .leaf o10) (fun o11=>letI u3:=o11.2.2.2;
 .ob (Ax Kv ((0:Int),o11.1,o11.2.1,o11.2.2.1,u3.1,u3.2.1,u3.2.2.1,u3.2.2.2.1,())) fun o14=>
 .sm o14 (fun o15=>
 .leaf o15) (fun o16=>
 .leaf (true,()))))))))
def Agi (a0:Bs):Option ((Bool×Unit)):=(Ws a0).val
def Jo (x4:(List YBs)×Int×(List YBs)×(List YB)×(List YB)×Int×Int×(List Ak)×(List Ao)×(List YBs)×(List YB)×(List YB)×Int×Int×(List Ak)×(List Ao)×Unit):Option (((List YBs)×Int×(List YBs)×(List YB)×(List YB)×Int×Int×(List Ak)×(List Ao)×(List YBs)×(List YB)×(List YB)×Int×Int×(List Ak)×(List Ao)×Unit)⊕(((List YBs)×(List YB)×(List YB)×Int×Int×(List Ak)×(List Ao)×(List YBs)×(List YB)×(List YB)×Int×Int×(List Ak)×(List Ao)×Unit))):=
 letI u1:=x4.2.2;letI u2:=u1.2.2;letI u3:=u2.2.2;letI u4:=u3.2.2;letI u5:=u4.2.2;letI u6:=u5.2.2.2;Tree.val <|
 .br (decide (x4.2.1<(x4.1.length:Int))) (
 .ob (idx x4.1 x4.2.1) fun e5=>
 .chk (decide (([]:List YB).length+e5.1.length<=4294967296)) <|
 .chk (decide (x4.2.2.2.2.2.2.2.2.2.1.length+[((([]:List YB)++e5.1),())].length<=4294967296)) <|
 .leaf (.inl (x4.1,(i64.wrap (x4.2.1+(1:Int))),u1.1,u1.2.1,u2.1,u2.2.1,u3.1,u3.2.1,u4.1,(u4.2.1++[((([]:List YB)++e5.1),())]),u5.1,u5.2.1,u5.2.2.1,u6.1,u6.2.1,u6.2.2.1,()))) (
 .leaf (.inr (u1.1,u1.2.1,u2.1,u2.2.1,u3.1,u3.2.1,u4.1,u4.2.1,u5.1,u5.2.1,u5.2.2.1,u6.1,u6.2.1,u6.2.2.1,())))
def U6 (a0:(List YBs)×Unit) (a1:YBs) (a2:YI):Tree (Bs):=
 .ob (A0l (a1.1,(0:Int),())) fun r1=>
 .ob (Apo r1.2) fun r2=>
 .ob (O5 a2) fun r3=>
 .ob (Ax Jo (a0.1,(0:Int),([]:List YBs),([]:List YB),([]:List YB),(0:Int),(0:Int),([]:List Ak),([]:List Ao),([]:List YBs),r2.1,r1.1.1,r1.1.2.1,r3.1,r3.2.1,([]:List Ao),())) fun o6=>letI u1:=o6.2.2.2.2.2.2.2;letI u2:=u1.2.2;letI u3:=u2.2.2;
 .ob (Agi (u1.1,u1.2.1,u2.1,u2.2.1,u3.1,u3.2.1,u3.2.2.1,())) fun r7=>
 .br (!r7.1) (
 .leaf (([]:List YBs),([]:List YB),([]:List YB),(0:Int),(0:Int),([]:List Ak),([]:List Ao),())) (
 .leaf (u1.1,u1.2.1,u2.1,u2.2.1,u3.1,u3.2.1,u3.2.2.1,()))
def Px (a0:(List YBs)×Unit) (a1:YBs) (a2:YI):Option (Bs):=(U6 a0 a1 a2).val
def U7 (a0:Aw):Tree (Aq×Aw):=
 .ob (Dg a0 ((12:Int),())) fun r1=>
 .ob (Dg (a0.1,r1.2.2.1,r1.2.2.2.1,()) ((12:Int),())) fun r2=>
 .ob (Bi (a0.1,r2.2.2.1,r2.2.2.2.1,()) ((300:Int),())) fun r3=>
 .ob (Dg (a0.1,r3.2.2.1,r3.2.2.2.1,()) ((16:Int),())) fun r4=>
 .leaf (((2:Int),(0:Int),r1.1.1,r2.1.1,r3.1.1,r4.1.1,([]:List YB),(0:Int),(0:Int),([]:List YB),([]:List YB),()),(a0.1,r4.2.2.1,r4.2.2.2.1,()))
def Py (a0:Aw):Option (Aq×Aw):=(U7 a0).val
def Anj (a0:YI):Tree ((Bool×Unit)):=
 .ob (Bt a0 ((4:Int),()) ((8:Int),())) fun r1=>
 .leaf r1
def O7 (a0:YI):Option ((Bool×Unit)):=(Anj a0).val
def Anl (a0:YI) (a1:YI):Tree ((Bool×Unit)):=
 .br (a0.1==(4:Int)) (
 .leaf ((decide (a1.1<=(40:Int))),())) (
 .br (a0.1==(5:Int)) (
 .leaf ((a1.1==(12:Int)),())) (
 .br (a0.1==(6:Int)) (
 .leaf ((a1.1==(12:Int)),())) (
 .leaf ((a1.1==(4:Int)),()))))
def Xd (a0:YI) (a1:YI):Option ((Bool×Unit)):=(Anl a0 a1).val
def Ajf (a0:Aq):Tree ((Bool×Unit)):=
 letI u1:=a0.2.2.2.2;letI u2:=u1.2.2.2;.ob (O7 (a0.1,())) fun r1=>
 .br r1.1 (
 .br (a0.2.1==(0:Int)) (
 .br ((a0.2.2.1.length:Int)==(0:Int)) (
 .br ((a0.2.2.2.1.length:Int)==(12:Int)) (
 .br (u1.1==(0:Int)) (
 .br ((a0.2.2.2.2.2.1.length:Int)==(0:Int)) (
 .br ((a0.2.2.2.2.2.2.1.length:Int)==(0:Int)) (
 .ob (Bt (u2.1,()) ((0:Int),()) ((4294967295:Int),())) fun r2=>
 .br r2.1 (
 .ob (Bt (u2.2.1,()) ((0:Int),()) ((281474976710655:Int),())) fun r3=>
 .br r3.1 (
 .ob (Xd (a0.1,()) ((a0.2.2.2.2.2.2.2.2.2.1.length:Int),())) fun r4=>
 .br r4.1 (
 .leaf (((a0.2.2.2.2.2.2.2.2.2.2.1.length:Int)==(16:Int)),())) (
 .leaf (false,()))) (
 .leaf (false,()))) (
 .leaf (false,()))) (
 .leaf (false,()))) (
 .leaf (false,()))) (
 .leaf (false,()))) (
 .leaf (false,()))) (
 .leaf (false,()))) (
 .leaf (false,()))) (
 .br (u2.1 != (0:Int)) (
 .leaf (false,())) (
 .br (u2.2.1 != (0:Int)) (
 .leaf (false,())) (
 .br ((a0.2.2.2.2.2.2.2.2.2.1.length:Int) != (0:Int)) (
 .leaf (false,())) (
 .br ((a0.2.2.2.2.2.2.2.2.2.2.1.length:Int) != (0:Int)) (
 .leaf (false,())) (
 .br ((a0.2.2.1.length:Int) != (12:Int)) (
 .leaf (false,())) (
 .br (a0.1==(1:Int)) (
 .ob (Bt (a0.2.1,()) ((1:Int),()) ((9:Int),())) fun r5=>
 .br r5.1 (
 .br ((a0.2.2.2.1.length:Int)==(0:Int)) (
 .br (u1.1==(0:Int)) (
 .br ((a0.2.2.2.2.2.1.length:Int)==(0:Int)) (
 .leaf (((a0.2.2.2.2.2.2.1.length:Int)==(0:Int)),())) (
 .leaf (false,()))) (
 .leaf (false,()))) (
 .leaf (false,()))) (
 .leaf (false,()))) (
 .br (a0.1==(2:Int)) (
 .br (a0.2.1==(0:Int)) (
 .br ((a0.2.2.2.1.length:Int)==(12:Int)) (
 .ob (Bt (u1.1,()) ((0:Int),()) ((1000000:Int),())) fun r6=>
 .br r6.1 (
 .br ((a0.2.2.2.2.2.1.length:Int)==(16:Int)) (
 .leaf (((a0.2.2.2.2.2.2.1.length:Int)==(0:Int)),())) (
 .leaf (false,()))) (
 .leaf (false,()))) (
 .leaf (false,()))) (
 .leaf (false,()))) (
 .br (a0.1==(3:Int)) (
 .ob (Bt (a0.2.1,()) ((1:Int),()) ((9:Int),())) fun r7=>
 .br r7.1 (
 .br ((a0.2.2.2.1.length:Int)==(12:Int)) (
 .ob (Bt (u1.1,()) ((0:Int),()) ((1000000:Int),())) fun r8=>
 .br r8.1 (
 .br ((a0.2.2.2.2.2.1.length:Int)==(16:Int)) (
 .leaf (((a0.2.2.2.2.2.2.1.length:Int)==(16:Int)),())) (
 .leaf (false,()))) (
 .leaf (false,()))) (
 .leaf (false,()))) (
 .leaf (false,()))) (
 .leaf (false,()))))))))))
def Na (a0:Aq):Option ((Bool×Unit)):=(Ajf a0).val
def Aa2 (a0:YBs) (a1:YBs):Tree (YBs):=
 .ob (Vn a0 a1) fun r1=>
 .leaf r1
def Abn (a0:YBs) (a1:YBs):Option (YBs):=(Aa2 a0 a1).val
def Acq (a0:YBs):Tree (YBs):=
 .ob (Rq a0) fun r1=>
 .br (!r1.1) (
 .leaf (([]:List YB),())) (
 .ob (Abn ([((114:Int),()),((111:Int),()),((97:Int),()),((109:Int),())],()) a0) fun r2=>
 .ob (Do r2 ((Dd [102,105,110,105,115,104]),())) fun r3=>
 .leaf r3)
def Ac9 (a0:YBs):Option (YBs):=(Acq a0).val
def Acr (a0:YI) (a1:YBs) (a2:YBs) (a3:YI) (a4:YBs):Tree (YBs):=
 .ob (Bt a0 ((1:Int),()) ((9:Int),())) fun r1=>
 .br (!r1.1) (
 .leaf (([]:List YB),())) (
 .br ((a1.1.length:Int) != (12:Int)) (
 .leaf (([]:List YB),())) (
 .br ((a2.1.length:Int) != (12:Int)) (
 .leaf (([]:List YB),())) (
 .ob (Bt a3 ((0:Int),()) ((1000000:Int),())) fun r2=>
 .br (!r2.1) (
 .leaf (([]:List YB),())) (
 .br ((a4.1.length:Int) != (16:Int)) (
 .leaf (([]:List YB),())) (
 .chk (decide ([((102:Int),()),((u8.wrap (a0.1)),())].length+a1.1.length<=4294967296)) <|
 .chk (decide (([((102:Int),()),((u8.wrap (a0.1)),())]++a1.1).length+a2.1.length<=4294967296)) <|
 .ob (En ((([((102:Int),()),((u8.wrap (a0.1)),())]++a1.1)++a2.1),()) a3 ((4:Int),())) fun r3=>
 .chk (decide (r3.1.length+a4.1.length<=4294967296)) <|
 .leaf ((r3.1++a4.1),()))))))
def Ada (a0:YI) (a1:YBs) (a2:YBs) (a3:YI) (a4:YBs):Option (YBs):=(Acr a0 a1 a2 a3 a4).val
def A5e (a0:YBs) (a1:YBs):Tree (YBs):=
 .ob (Vn a0 a1) fun r1=>
 .br (decide ((r1.1.length:Int)<(16:Int))) (
 .leaf (([]:List YB),())) (
 .chk (decide ((16:Int)<=(r1.1.length:Int))) <|
 .chk (decide (([]:List YB).length+((r1.1.take ((16:Int)).toNat).drop ((0:Int)).toNat).length<=4294967296)) <|
 .leaf ((([]:List YB)++((r1.1.take ((16:Int)).toNat).drop ((0:Int)).toNat)),()))
def Aej (a0:YBs) (a1:YBs):Option (YBs):=(A5e a0 a1).val
def As7 (a0:YBs) (a1:YI) (a2:YBs) (a3:YBs) (a4:YI) (a5:YBs):Tree (YBs):=
 .ob (Ac9 a0) fun r1=>
 .ob (Ada a1 a2 a3 a4 a5) fun r2=>
 .br ((r1.1.length:Int)==(0:Int)) (
 .leaf (([]:List YB),())) (
 .br ((r2.1.length:Int)==(0:Int)) (
 .leaf (([]:List YB),())) (
 .ob (Aej r1 r2) fun r3=>
 .leaf r3))
def Ab8 (a0:YBs) (a1:YI) (a2:YBs) (a3:YBs) (a4:YI) (a5:YBs):Option (YBs):=(As7 a0 a1 a2 a3 a4 a5).val
def Ann (a0:Aq):Tree (Aq):=
 letI u1:=a0.2.2.2;letI u2:=u1.2.2.2;.chk (decide (([]:List YB).length+a0.2.2.1.length<=4294967296)) <|
 .chk (decide (([]:List YB).length+a0.2.2.2.1.length<=4294967296)) <|
 .chk (decide (([]:List YB).length+a0.2.2.2.2.2.1.length<=4294967296)) <|
 .chk (decide (([]:List YB).length+a0.2.2.2.2.2.2.1.length<=4294967296)) <|
 .chk (decide (([]:List YB).length+a0.2.2.2.2.2.2.2.2.2.1.length<=4294967296)) <|
 .chk (decide (([]:List YB).length+a0.2.2.2.2.2.2.2.2.2.2.1.length<=4294967296)) <|
 .leaf (a0.1,a0.2.1,(([]:List YB)++a0.2.2.1),(([]:List YB)++u1.1),u1.2.1,(([]:List YB)++u1.2.2.1),(([]:List YB)++u2.1),u2.2.1,u2.2.2.1,(([]:List YB)++u2.2.2.2.1),(([]:List YB)++u2.2.2.2.2.1),())
def Ady (a0:Aq):Option (Aq):=(Ann a0).val
def Re (a0:YBs) (a1:YI) (a2:Aq):Tree (Aq×(Bool×Unit)):=
 .ob (Na a2) fun r1=>
 .br (!r1.1) (
 .leaf (((0:Int),(0:Int),([]:List YB),([]:List YB),(0:Int),([]:List YB),([]:List YB),(0:Int),(0:Int),([]:List YB),([]:List YB),()),(false,()))) (
 .br (a2.1 != (2:Int)) (
 .leaf (((0:Int),(0:Int),([]:List YB),([]:List YB),(0:Int),([]:List YB),([]:List YB),(0:Int),(0:Int),([]:List YB),([]:List YB),()),(false,()))) (
 .ob (Ab8 a0 a1 (a2.2.2.1,()) (a2.2.2.2.1,()) (a2.2.2.2.2.1,()) (a2.2.2.2.2.2.1,())) fun r2=>
 .br ((r2.1.length:Int)==(0:Int)) (
 .leaf (((0:Int),(0:Int),([]:List YB),([]:List YB),(0:Int),([]:List YB),([]:List YB),(0:Int),(0:Int),([]:List YB),([]:List YB),()),(false,()))) (
 .ob (Ady a2) fun r3=>letI u1:=r3.2.2.2;letI u2:=u1.2.2.2.2;
 .leaf (((3:Int),a1.1,r3.2.2.1,u1.1,u1.2.1,u1.2.2.1,r2.1,u2.1,u2.2.1,u2.2.2.1,u2.2.2.2.1,()),(true,())))))
def Hd (a0:YBs) (a1:YI) (a2:Aq):Option (Aq×(Bool×Unit)):=(Re a0 a1 a2).val
def Aht (a0:Aw) (a1:(List YI)×Unit):Tree (YI×Aw):=
 .ob (Bi a0 ((a1.1.length:Int),())) fun r1=>
 .ob (idx a1.1 r1.1.1) fun e2=>
 .leaf (e2,(a0.1,r1.2.2.1,r1.2.2.2.1,()))
def B9 (a0:Aw) (a1:(List YI)×Unit):Option (YI×Aw):=(Aht a0 a1).val
def Ajh (a0:YBs) (a1:YBs) (a2:YBs):Tree (YBs):=
 .ob (Rq a0) fun r1=>
 .br (!r1.1) (
 .leaf (([]:List YB),())) (
 .br ((a1.1.length:Int) != (12:Int)) (
 .leaf (([]:List YB),())) (
 .br ((a2.1.length:Int) != (12:Int)) (
 .leaf (([]:List YB),())) (
 .chk (decide (([]:List YB).length+a1.1.length<=4294967296)) <|
 .chk (decide ((([]:List YB)++a1.1).length+a2.1.length<=4294967296)) <|
 .ob (Abn (((([]:List YB)++a1.1)++a2.1),()) a0) fun r2=>
 .leaf r2)))
def Aki (a0:YBs) (a1:YBs) (a2:YBs):Option (YBs):=(Ajh a0 a1 a2).val
def Ae4 (a0:YBs):Tree (YBs):=
 .br ((a0.1.length:Int) != (32:Int)) (
 .leaf (([]:List YB),())) (
 .ob (Do a0 ((Dd [101,112,111,99,104]),())) fun r1=>
 .leaf r1)
def Agj (a0:YBs):Option (YBs):=(Ae4 a0).val
def Qd (x2:Int×(List YB)×Int×Unit):Option ((Int×(List YB)×Int×Unit)⊕(YBs)):=
 Tree.val <|
 .br (decide (x2.2.2.1<x2.1)) (
 .ob (Do (x2.2.1,()) ((Dd [114,101,107,101,121]),())) fun r3=>
 .leaf (.inl (x2.1,r3.1,(i64.wrap (x2.2.2.1+(1:Int))),()))) (
 .leaf (.inr (x2.2.1,())))
def As9 (a0:YBs) (a1:YI):Tree (YBs):=
 .ob (Bt a1 ((0:Int),()) ((64:Int),())) fun r1=>
 .br (!r1.1) (
 .leaf (([]:List YB),())) (
 .chk (decide (([]:List YB).length+a0.1.length<=4294967296)) <|
 .ob (Ax Qd (a1.1,(([]:List YB)++a0.1),(0:Int),())) fun o4=>
 .leaf o4)
def Aus (a0:YBs) (a1:YI):Option (YBs):=(As9 a0 a1).val
def Ae5 (a0:YBs) (a1:YBs) (a2:YBs) (a3:YI):Tree (YBs):=
 .ob (Aki a0 a1 a2) fun r1=>
 .ob (Agj r1) fun r2=>
 .br ((r2.1.length:Int)==(0:Int)) (
 .leaf r2) (
 .ob (Aus r2 a3) fun r3=>
 .leaf r3)
def Xe (a0:YBs) (a1:YBs) (a2:YBs) (a3:YI):Option (YBs):=(Ae5 a0 a1 a2 a3).val
def Nq (x1:Int×Int×(List YI)×Int×(List YI)×Unit):Option ((Int×Int×(List YI)×Int×(List YI)×Unit)⊕((Int×(List YI)×Int×(List YI)×Unit))):=
 letI u1:=x1.2.2;Tree.val <|
 .br (decide (x1.1<(32:Int))) (
 .chk (decide (x1.2.2.2.2.1.length+[((0:Int),())].length<=4294967296)) <|
 .leaf (.inl ((i64.wrap (x1.1+(1:Int))),x1.2.1,u1.1,u1.2.1,(u1.2.2.1++[((0:Int),())]),()))) (
 .leaf (.inr (x1.2.1,u1.1,u1.2.1,u1.2.2.1,())))
def Anp:Tree (Db):=
 .ob (Ax Nq ((0:Int),(0:Int),([]:List YI),(-1:Int),([]:List YI),())) fun o2=>
 .leaf (o2.2.2.1,o2.2.2.2.1,())
def Adz:Option (Db):=(Anp).val
def Ab0 (a0:YI) (a1:YBs):Tree (YEp):=
 .ob (Bt a0 ((0:Int),()) ((4294967295:Int),())) fun r1=>
 .br (!r1.1) (
 .leaf ((0:Int),([]:List YB),(0:Int),(0:Int),([]:List YI),())) (
 .br ((a1.1.length:Int) != (32:Int)) (
 .leaf ((0:Int),([]:List YB),(0:Int),(0:Int),([]:List YI),())) (
 .chk (decide (([]:List YB).length+a1.1.length<=4294967296)) <|
 .ob Adz fun r2=>
 .leaf (a0.1,(([]:List YB)++a1.1),(0:Int),r2.1,r2.2.1,())))
def Fj (a0:YI) (a1:YBs):Option (YEp):=(Ab0 a0 a1).val
def Ua (a0:YI) (a1:YBs) (a2:YBs):Tree (Ap):=
 .ob (Bt a0 ((0:Int),()) ((1:Int),())) fun r1=>
 .br (!r1.1) (
 .leaf ((0:Int),([]:List YB),(0:Int),([]:List YB),(0:Int),(0:Int),([]:List YI),(0:Int),([]:List YB),(0:Int),(0:Int),([]:List YI),false,(0:Int),([]:List YB),())) (
 .br ((a1.1.length:Int) != (12:Int)) (
 .leaf ((0:Int),([]:List YB),(0:Int),([]:List YB),(0:Int),(0:Int),([]:List YI),(0:Int),([]:List YB),(0:Int),(0:Int),([]:List YI),false,(0:Int),([]:List YB),())) (
 .br ((a2.1.length:Int) != (32:Int)) (
 .leaf ((0:Int),([]:List YB),(0:Int),([]:List YB),(0:Int),(0:Int),([]:List YI),(0:Int),([]:List YB),(0:Int),(0:Int),([]:List YI),false,(0:Int),([]:List YB),())) (
 .chk (decide (([]:List YB).length+a1.1.length<=4294967296)) <|
 .ob (Fj ((0:Int),()) a2) fun r2=>
 .leaf (a0.1,(([]:List YB)++a1.1),r2.1,r2.2.1,r2.2.2.1,r2.2.2.2.1,r2.2.2.2.2.1,(0:Int),([]:List YB),(0:Int),(0:Int),([]:List YI),false,(0:Int),([]:List YB),()))))
def He (a0:YI) (a1:YBs) (a2:YBs):Option (Ap):=(Ua a0 a1 a2).val
def Ae7 (a0:A7):Tree (Bm):=
 .leaf (a0.1,a0.2.1,([]:List A8),())
def Lg (a0:A7):Option (Bm):=(Ae7 a0).val
def Qe (a0:YBs) (a1:YI) (a2:A7) (a3:Aq):Tree (Ak):=
 letI u1:=a3.2.2;.ob (Rq a0) fun r1=>
 .br (!r1.1) (
 .leaf ((0:Int),([]:List YB),([]:List YB),(0:Int),([]:List YB),(0:Int),([]:List YB),(0:Int),(0:Int),([]:List YI),(0:Int),([]:List YB),(0:Int),(0:Int),([]:List YI),false,(0:Int),([]:List YB),(0:Int),(0:Int),([]:List A8),(0:Int),(0:Int),false,())) (
 .ob (Bt a1 ((0:Int),()) ((1000000:Int),())) fun r2=>
 .br (!r2.1) (
 .leaf ((0:Int),([]:List YB),([]:List YB),(0:Int),([]:List YB),(0:Int),([]:List YB),(0:Int),(0:Int),([]:List YI),(0:Int),([]:List YB),(0:Int),(0:Int),([]:List YI),false,(0:Int),([]:List YB),(0:Int),(0:Int),([]:List A8),(0:Int),(0:Int),false,())) (
 .ob (Hk a2) fun r3=>
 .br (!r3.1) (
 .leaf ((0:Int),([]:List YB),([]:List YB),(0:Int),([]:List YB),(0:Int),([]:List YB),(0:Int),(0:Int),([]:List YI),(0:Int),([]:List YB),(0:Int),(0:Int),([]:List YI),false,(0:Int),([]:List YB),(0:Int),(0:Int),([]:List A8),(0:Int),(0:Int),false,())) (
 .ob (Na a3) fun r4=>
 .br (!r4.1) (
 .leaf ((0:Int),([]:List YB),([]:List YB),(0:Int),([]:List YB),(0:Int),([]:List YB),(0:Int),(0:Int),([]:List YI),(0:Int),([]:List YB),(0:Int),(0:Int),([]:List YI),false,(0:Int),([]:List YB),(0:Int),(0:Int),([]:List A8),(0:Int),(0:Int),false,())) (
 .br (a3.1 != (3:Int)) (
 .leaf ((0:Int),([]:List YB),([]:List YB),(0:Int),([]:List YB),(0:Int),([]:List YB),(0:Int),(0:Int),([]:List YI),(0:Int),([]:List YB),(0:Int),(0:Int),([]:List YI),false,(0:Int),([]:List YB),(0:Int),(0:Int),([]:List A8),(0:Int),(0:Int),false,())) (
 .chk (decide (([]:List YB).length+a3.2.2.1.length<=4294967296)) <|
 .chk (decide (([]:List YB).length+a3.2.2.2.1.length<=4294967296)) <|
 .ob (Xe a0 (u1.1,()) (u1.2.1,()) ((0:Int),())) fun r5=>
 .ob (He ((1:Int),()) (u1.2.1,()) r5) fun r6=>letI u2:=r6.2.2.2;letI u3:=u2.2.2.2;letI u4:=u3.2.2.2.2;
 .ob (Lg a2) fun r7=>
 .leaf (a3.2.1,(([]:List YB)++u1.1),(([]:List YB)++u1.2.1),r6.1,r6.2.1,r6.2.2.1,u2.1,u2.2.1,u2.2.2.1,u3.1,u3.2.1,u3.2.2.1,u3.2.2.2.1,u4.1,u4.2.1,u4.2.2.1,u4.2.2.2.1,u4.2.2.2.2.1,r7.1,r7.2.1,r7.2.2.1,u1.2.2.1,a1.1,false,()))))))
def Kp (a0:YBs) (a1:YI) (a2:A7) (a3:Aq):Option (Ak):=(Qe a0 a1 a2 a3).val
def Anr (a0:Aw) (a1:YI):Tree ((Bool×Unit)×Aw):=
 .ob (Bi a0 a1) fun r1=>
 .leaf (((r1.1.1==(0:Int)),()),(a0.1,r1.2.2.1,r1.2.2.2.1,()))
def Av (a0:Aw) (a1:YI):Option ((Bool×Unit)×Aw):=(Anr a0 a1).val
def Wu (x3:(List YI)×Int×Int×(List YB)×Int×Int×Unit):Option (((List YI)×Int×Int×(List YB)×Int×Int×Unit)⊕(((List YI)×(List YB)×Int×Int×Unit))):=
 letI u1:=x3.2.2.2;Tree.val <|
 .br (decide (x3.2.2.1>(0:Int))) (
 .ob (Av (u1.1,u1.2.1,u1.2.2.1,()) ((6:Int),())) fun r4=>
 .br r4.1.1 (
 .ob (B9 (u1.1,r4.2.2.1,r4.2.2.2.1,()) ([((1:Int),()),((32:Int),()),((900:Int),()),((1023:Int),()),((1024:Int),()),((1025:Int),()),((3000:Int),())],())) fun r5=>
 .ob (Bi (u1.1,r5.2.2.1,r5.2.2.2.1,()) ((40:Int),())) fun r6=>
 .ob (B9 (u1.1,r6.2.2.1,r6.2.2.2.1,()) ([((0:Int),()),((0:Int),()),((20:Int),()),((1000:Int),())],())) fun r7=>
 .chk (decide (x3.1.length+[((i64.wrap ((i64.wrap ((i64.wrap (x3.2.1+r5.1.1))+r6.1.1))-r7.1.1)),())].length<=4294967296)) <|
 .leaf (.inl ((x3.1++[((i64.wrap ((i64.wrap ((i64.wrap (x3.2.1+r5.1.1))+r6.1.1))-r7.1.1)),())]),(i64.wrap (x3.2.1+r5.1.1)),(i64.wrap (x3.2.2.1-(1:Int))),u1.1,r7.2.2.1,r7.2.2.2.1,()))) (
 .ob (Bi (u1.1,r4.2.2.1,r4.2.2.2.1,()) ((40:Int),())) fun r8=>
 .ob (B9 (u1.1,r8.2.2.1,r8.2.2.2.1,()) ([((0:Int),()),((0:Int),()),((20:Int),()),((1000:Int),())],())) fun r9=>
 .chk (decide (x3.1.length+[((i64.wrap ((i64.wrap (x3.2.1+r8.1.1))-r9.1.1)),())].length<=4294967296)) <|
 .leaf (.inl ((x3.1++[((i64.wrap ((i64.wrap (x3.2.1+r8.1.1))-r9.1.1)),())]),x3.2.1,(i64.wrap (x3.2.2.1-(1:Int))),u1.1,r9.2.2.1,r9.2.2.2.1,())))) (
 .leaf (.inr (x3.1,u1.1,u1.2.1,u1.2.2.1,())))
def Ant (a0:Aw) (a1:YI):Tree (((List YI)×Unit)×Aw):=
 .ob (B9 a0 ([((0:Int),()),((0:Int),()),((0:Int),()),((1000:Int),()),((5000:Int),()),((281474976710000:Int),())],())) fun r1=>
 .ob (Bi (a0.1,r1.2.2.1,r1.2.2.2.1,()) ((i64.wrap (a1.1+(1:Int))),())) fun r2=>
 .ob (Ax Wu (([]:List YI),r1.1.1,r2.1.1,a0.1,r2.2.2.1,r2.2.2.2.1,())) fun o10=>
 .ob (Av (o10.2.1,o10.2.2.1,o10.2.2.2.1,()) ((5:Int),())) fun r11=>
 .br r11.1.1 (
 .ob (B9 (o10.2.1,r11.2.2.1,r11.2.2.2.1,()) ([((-1:Int),()),((281474976710655:Int),()),((281474976710656:Int),())],())) fun r12=>
 .chk (decide (o10.1.length+[r12.1].length<=4294967296)) <|
 .leaf (((o10.1++[r12.1]),()),(o10.2.1,r12.2.2.1,r12.2.2.2.1,()))) (
 .leaf ((o10.1,()),(o10.2.1,r11.2.2.1,r11.2.2.2.1,())))
def App (a0:Aw) (a1:YI):Option (((List YI)×Unit)×Aw):=(Ant a0 a1).val
def A2e (a0:Db):Tree (Db):=
 .chk (decide (([]:List YI).length+a0.2.1.length<=4294967296)) <|
 .leaf (a0.1,(([]:List YI)++a0.2.1),())
def Apq (a0:Db):Option (Db):=(A2e a0).val
def Ajj (a0:YI):Tree (YI):=
 .br (decide (a0.1<(1024:Int))) (
 .leaf ((0:Int),())) (
 .leaf ((i64.wrap ((i64.wrap (a0.1-(1024:Int)))+(1:Int))),()))
def Ayp (a0:YI):Option (YI):=(Ajj a0).val
def Anv (a0:Db) (a1:YI):Tree ((Bool×Unit)):=
 .ob (Ah9 a0) fun r1=>
 .br (!r1.1) (
 .leaf (false,())) (
 .ob (Bt a1 ((0:Int),()) ((281474976710655:Int),())) fun r2=>
 .br (!r2.1) (
 .leaf (false,())) (
 .br (decide (a1.1>a0.1)) (
 .leaf (true,())) (
 .ob (Ayp (a0.1,())) fun r3=>
 .br (decide (a1.1≥r3.1)) (
 .ob (Ab7 a0 a1) fun r4=>
 .leaf ((!r4.1),())) (
 .leaf (false,())))))
def Ad0 (a0:Db) (a1:YI):Option ((Bool×Unit)):=(Anv a0 a1).val
def Nr (x3:Int×Int×Int×Int×(List YI)×Int×(List YI)×Int×(List YI)×Unit):Option ((Int×Int×Int×Int×(List YI)×Int×(List YI)×Int×(List YI)×Unit)⊕((Int×Int×(List YI)×Int×(List YI)×Int×(List YI)×Unit))):=
 letI u1:=x3.2.2;letI u2:=u1.2.2;letI u3:=u2.2.2;Tree.val <|
 .br (decide (u1.1<=x3.1)) (
 .br (decide (x3.2.1<(1024:Int))) (
 .chk (decide ((0:Int)<=u1.1)) <|
 .chk (decide ((0:Int)<=(u1.1%(1024:Int)))) <|
 .chk (decide ((0:Int)<=(u1.1%(1024:Int)))) <|
 .ob (idx u3.2.2.1 ((u1.1%(1024:Int))/(32:Int))) fun e4=>
 .chk (decide ((0:Int)<=(u1.1%(1024:Int)))) <|
 .chk (decide ((0:Int)<=((u1.1%(1024:Int))%(32:Int)))) <|
 .ob (idx u3.2.2.1 ((u1.1%(1024:Int))/(32:Int))) fun e5=>
 let q6:=(x3.2.2.2.2.2.2.2.2.1.set (((u1.1%(1024:Int))/(32:Int))).toNat ((i64.wrap ((BitVec.ofInt (i64.bits) (e4.1) &&& ~~~ BitVec.ofInt (i64.bits) ((i64.wrap ((1:Int)*2^(min (((u1.1%(1024:Int))%(32:Int))).toNat i64.bits))))).toNat:Nat)),()))
 .leaf (.inl (x3.1,(i64.wrap (x3.2.1+(1:Int))),(i64.wrap (u1.1+(1:Int))),u1.2.1,u2.1,u2.2.1,u3.1,u3.2.1,q6,()))) (
 .leaf (.inr (x3.1,u1.2.1,u2.1,u2.2.1,u3.1,u3.2.1,u3.2.2.1,())))) (
 .leaf (.inr (x3.1,u1.2.1,u2.1,u2.2.1,u3.1,u3.2.1,u3.2.2.1,())))
def Anw (a0:Db) (a1:YI):Tree (Db×(Bool×Unit)):=
 .ob (Apq a0) fun r1=>
 .ob (Ad0 a0 a1) fun r2=>
 .br (!r2.1) (
 .leaf (r1,(false,()))) (
 .ob (Ax Nr (a1.1,(0:Int),(i64.wrap (a0.1+(1:Int))),a0.1,a0.2.1,(0:Int),([]:List YI),r1.1,r1.2.1,())) fun o7=>letI u1:=o7.2.2.2.2.2;
 .chk (decide ((0:Int)<=o7.1)) <|
 .chk (decide ((0:Int)<=(o7.1%(1024:Int)))) <|
 .chk (decide ((0:Int)<=(o7.1%(1024:Int)))) <|
 .ob (idx u1.2.1 ((o7.1%(1024:Int))/(32:Int))) fun e8=>
 .chk (decide ((0:Int)<=(o7.1%(1024:Int)))) <|
 .chk (decide ((0:Int)<=((o7.1%(1024:Int))%(32:Int)))) <|
 .ob (idx u1.2.1 ((o7.1%(1024:Int))/(32:Int))) fun e9=>
 let q10:=(o7.2.2.2.2.2.2.1.set (((o7.1%(1024:Int))/(32:Int))).toNat ((i64.wrap ((BitVec.ofInt (i64.bits) (e8.1) ||| BitVec.ofInt (i64.bits) ((i64.wrap ((1:Int)*2^(min (((o7.1%(1024:Int))%(32:Int))).toNat i64.bits))))).toNat:Nat)),()))
 .br (decide (o7.1>o7.2.1)) (
 .leaf ((o7.1,q10,()),(true,()))) (
 .leaf ((u1.1,q10,()),(true,()))))
def Xf (a0:Db) (a1:YI):Option (Db×(Bool×Unit)):=(Anw a0 a1).val
def Ub (x2:(List YI)×Int×Int×(List YI)×Int×(List YI)×Unit):Option (((List YI)×Int×Int×(List YI)×Int×(List YI)×Unit)⊕((Int×(List YI)×Int×(List YI)×Unit))):=
 letI u1:=x2.2.2.2;Tree.val <|
 .br (decide (x2.2.1<(x2.1.length:Int))) (
 .ob (idx x2.1 x2.2.1) fun e3=>
 .ob (Xf (u1.2.1,u1.2.2.1,()) e3) fun r4=>
 .leaf (.inl (x2.1,(i64.wrap (x2.2.1+(1:Int))),x2.2.2.1,u1.1,r4.1.1,r4.1.2.1,()))) (
 .leaf (.inr (x2.2.2.1,u1.1,u1.2.1,u1.2.2.1,())))
def Ahv (a0:(List YI)×Unit):Tree (Db):=
 .ob Adz fun r1=>
 .ob (Ax Ub (a0.1,(0:Int),(0:Int),([]:List YI),r1.1,r1.2.1,())) fun o5=>
 .leaf (o5.2.2.1,o5.2.2.2.1,())
def Ab9 (a0:(List YI)×Unit):Option (Db):=(Ahv a0).val
def Adq (a0:Aw):Tree (Db×Aw):=
 .ob (App a0 ((12:Int),())) fun r1=>
 .ob (Ab9 r1.1) fun r2=>
 .leaf (r2,(a0.1,r1.2.2.1,r1.2.2.2.1,()))
def Xg (a0:Aw):Option (Db×Aw):=(Adq a0).val
def Aa3 (a0:Aw) (a1:YI):Tree (Ap×Aw):=
 .ob (Dg a0 ((12:Int),())) fun r1=>
 .ob (Dg (a0.1,r1.2.2.1,r1.2.2.2.1,()) ((32:Int),())) fun r2=>
 .ob (He a1 r1.1 r2.1) fun r3=>letI u1:=r3.2.2.2;letI u2:=u1.2.2;letI u3:=u2.2.2;letI u4:=u3.2.2;letI u5:=u4.2.2;letI u6:=u5.2.2.2;
 .ob (B9 (a0.1,r2.2.2.1,r2.2.2.2.1,()) ([((0:Int),()),((0:Int),()),((3:Int),()),((281474976709656:Int),()),((281474976710656:Int),())],())) fun r4=>
 .ob (Av (a0.1,r4.2.2.1,r4.2.2.2.1,()) ((3:Int),())) fun r5=>
 .br r5.1.1 (
 .ob (Xg (a0.1,r5.2.2.1,r5.2.2.2.1,())) fun r6=>
 .ob (Av (a0.1,r6.2.2.1,r6.2.2.2.1,()) ((2:Int),())) fun r7=>letI u7:=r7.2.2;
 .br r7.1.1 (
 .ob (B9 (a0.1,u7.1,u7.2.1,()) ([((1:Int),()),((1:Int),()),((2:Int),()),((4294967295:Int),())],())) fun r8=>
 .ob (Do (u1.1,()) ((Dd [114,101,107,101,121]),())) fun r9=>
 .ob (Fj r8.1 r9) fun r10=>letI u8:=r10.2.2;letI u9:=u8.2.2;
 .ob (B9 (a0.1,r8.2.2.1,r8.2.2.2.1,()) ([((-1:Int),()),((0:Int),()),((5:Int),()),((7:Int),()),((1000005:Int),())],())) fun r11=>letI u10:=r11.2.2;
 .br (a1.1==(0:Int)) (
 .br (decide (r11.1.1<(0:Int))) (
 .br (a1.1==(0:Int)) (
 .br (decide (r10.1<(4294967295:Int))) (
 .ob (Av (a0.1,u10.1,u10.2.1,()) ((2:Int),())) fun r12=>
 .br r12.1.1 (
 .ob (Do (r10.2.1,()) ((Dd [114,101,107,101,121]),())) fun r13=>
 .leaf ((r3.1,r3.2.1,r10.1,r10.2.1,u8.1,u8.2.1,u9.1,(i64.wrap (r10.1-(1:Int))),u1.1,r4.1.1,r6.1.1,r6.1.2.1,true,(5:Int),r13.1,()),(a0.1,r12.2.2.1,r12.2.2.2.1,()))) (
 .leaf ((r3.1,r3.2.1,r10.1,r10.2.1,u8.1,u8.2.1,u9.1,(i64.wrap (r10.1-(1:Int))),u1.1,r4.1.1,r6.1.1,r6.1.2.1,true,(5:Int),u6.1,()),(a0.1,r12.2.2.1,r12.2.2.2.1,())))) (
 .leaf ((r3.1,r3.2.1,r10.1,r10.2.1,u8.1,u8.2.1,u9.1,(i64.wrap (r10.1-(1:Int))),u1.1,r4.1.1,r6.1.1,r6.1.2.1,true,(5:Int),u6.1,()),(a0.1,u10.1,u10.2.1,())))) (
 .leaf ((r3.1,r3.2.1,r10.1,r10.2.1,u8.1,u8.2.1,u9.1,(i64.wrap (r10.1-(1:Int))),u1.1,r4.1.1,r6.1.1,r6.1.2.1,true,(5:Int),u6.1,()),(a0.1,u10.1,u10.2.1,())))) (
 .br (a1.1==(0:Int)) (
 .br (decide (r10.1<(4294967295:Int))) (
 .ob (Av (a0.1,u10.1,u10.2.1,()) ((2:Int),())) fun r14=>
 .br r14.1.1 (
 .ob (Do (r10.2.1,()) ((Dd [114,101,107,101,121]),())) fun r15=>
 .leaf ((r3.1,r3.2.1,r10.1,r10.2.1,u8.1,u8.2.1,u9.1,(i64.wrap (r10.1-(1:Int))),u1.1,r4.1.1,r6.1.1,r6.1.2.1,true,r11.1.1,r15.1,()),(a0.1,r14.2.2.1,r14.2.2.2.1,()))) (
 .leaf ((r3.1,r3.2.1,r10.1,r10.2.1,u8.1,u8.2.1,u9.1,(i64.wrap (r10.1-(1:Int))),u1.1,r4.1.1,r6.1.1,r6.1.2.1,true,r11.1.1,u6.1,()),(a0.1,r14.2.2.1,r14.2.2.2.1,())))) (
 .leaf ((r3.1,r3.2.1,r10.1,r10.2.1,u8.1,u8.2.1,u9.1,(i64.wrap (r10.1-(1:Int))),u1.1,r4.1.1,r6.1.1,r6.1.2.1,true,r11.1.1,u6.1,()),(a0.1,u10.1,u10.2.1,())))) (
 .leaf ((r3.1,r3.2.1,r10.1,r10.2.1,u8.1,u8.2.1,u9.1,(i64.wrap (r10.1-(1:Int))),u1.1,r4.1.1,r6.1.1,r6.1.2.1,true,r11.1.1,u6.1,()),(a0.1,u10.1,u10.2.1,()))))) (
 .br (a1.1==(0:Int)) (
 .br (decide (r10.1<(4294967295:Int))) (
 .ob (Av (a0.1,u10.1,u10.2.1,()) ((2:Int),())) fun r16=>
 .br r16.1.1 (
 .ob (Do (r10.2.1,()) ((Dd [114,101,107,101,121]),())) fun r17=>
 .leaf ((r3.1,r3.2.1,r10.1,r10.2.1,u8.1,u8.2.1,u9.1,(i64.wrap (r10.1-(1:Int))),u1.1,r4.1.1,r6.1.1,r6.1.2.1,true,r11.1.1,r17.1,()),(a0.1,r16.2.2.1,r16.2.2.2.1,()))) (
 .leaf ((r3.1,r3.2.1,r10.1,r10.2.1,u8.1,u8.2.1,u9.1,(i64.wrap (r10.1-(1:Int))),u1.1,r4.1.1,r6.1.1,r6.1.2.1,true,r11.1.1,u6.1,()),(a0.1,r16.2.2.1,r16.2.2.2.1,())))) (
 .leaf ((r3.1,r3.2.1,r10.1,r10.2.1,u8.1,u8.2.1,u9.1,(i64.wrap (r10.1-(1:Int))),u1.1,r4.1.1,r6.1.1,r6.1.2.1,true,r11.1.1,u6.1,()),(a0.1,u10.1,u10.2.1,())))) (
 .leaf ((r3.1,r3.2.1,r10.1,r10.2.1,u8.1,u8.2.1,u9.1,(i64.wrap (r10.1-(1:Int))),u1.1,r4.1.1,r6.1.1,r6.1.2.1,true,r11.1.1,u6.1,()),(a0.1,u10.1,u10.2.1,()))))) (
 .br (a1.1==(0:Int)) (
 .br (decide (r3.2.2.1<(4294967295:Int))) (
 .ob (Av (a0.1,u7.1,u7.2.1,()) ((2:Int),())) fun r18=>
 .br r18.1.1 (
 .ob (Do (u1.1,()) ((Dd [114,101,107,101,121]),())) fun r19=>
 .leaf ((r3.1,r3.2.1,r3.2.2.1,u1.1,r4.1.1,r6.1.1,r6.1.2.1,u3.1,u3.2.1,u4.1,u4.2.1,u5.1,u5.2.1,u5.2.2.1,r19.1,()),(a0.1,r18.2.2.1,r18.2.2.2.1,()))) (
 .leaf ((r3.1,r3.2.1,r3.2.2.1,u1.1,r4.1.1,r6.1.1,r6.1.2.1,u3.1,u3.2.1,u4.1,u4.2.1,u5.1,u5.2.1,u5.2.2.1,u6.1,()),(a0.1,r18.2.2.1,r18.2.2.2.1,())))) (
 .leaf ((r3.1,r3.2.1,r3.2.2.1,u1.1,r4.1.1,r6.1.1,r6.1.2.1,u3.1,u3.2.1,u4.1,u4.2.1,u5.1,u5.2.1,u5.2.2.1,u6.1,()),(a0.1,u7.1,u7.2.1,())))) (
 .leaf ((r3.1,r3.2.1,r3.2.2.1,u1.1,r4.1.1,r6.1.1,r6.1.2.1,u3.1,u3.2.1,u4.1,u4.2.1,u5.1,u5.2.1,u5.2.2.1,u6.1,()),(a0.1,u7.1,u7.2.1,()))))) (
 .ob (Av (a0.1,r5.2.2.1,r5.2.2.2.1,()) ((2:Int),())) fun r20=>letI u11:=r20.2.2;
 .br r20.1.1 (
 .ob (B9 (a0.1,u11.1,u11.2.1,()) ([((1:Int),()),((1:Int),()),((2:Int),()),((4294967295:Int),())],())) fun r21=>
 .ob (Do (u1.1,()) ((Dd [114,101,107,101,121]),())) fun r22=>
 .ob (Fj r21.1 r22) fun r23=>letI u12:=r23.2.2;letI u13:=u12.2.2;
 .ob (B9 (a0.1,r21.2.2.1,r21.2.2.2.1,()) ([((-1:Int),()),((0:Int),()),((5:Int),()),((7:Int),()),((1000005:Int),())],())) fun r24=>letI u14:=r24.2.2;
 .br (a1.1==(0:Int)) (
 .br (decide (r24.1.1<(0:Int))) (
 .br (a1.1==(0:Int)) (
 .br (decide (r23.1<(4294967295:Int))) (
 .ob (Av (a0.1,u14.1,u14.2.1,()) ((2:Int),())) fun r25=>
 .br r25.1.1 (
 .ob (Do (r23.2.1,()) ((Dd [114,101,107,101,121]),())) fun r26=>
 .leaf ((r3.1,r3.2.1,r23.1,r23.2.1,u12.1,u12.2.1,u13.1,(i64.wrap (r23.1-(1:Int))),u1.1,r4.1.1,u2.1,u2.2.1,true,(5:Int),r26.1,()),(a0.1,r25.2.2.1,r25.2.2.2.1,()))) (
 .leaf ((r3.1,r3.2.1,r23.1,r23.2.1,u12.1,u12.2.1,u13.1,(i64.wrap (r23.1-(1:Int))),u1.1,r4.1.1,u2.1,u2.2.1,true,(5:Int),u6.1,()),(a0.1,r25.2.2.1,r25.2.2.2.1,())))) (
 .leaf ((r3.1,r3.2.1,r23.1,r23.2.1,u12.1,u12.2.1,u13.1,(i64.wrap (r23.1-(1:Int))),u1.1,r4.1.1,u2.1,u2.2.1,true,(5:Int),u6.1,()),(a0.1,u14.1,u14.2.1,())))) (
 .leaf ((r3.1,r3.2.1,r23.1,r23.2.1,u12.1,u12.2.1,u13.1,(i64.wrap (r23.1-(1:Int))),u1.1,r4.1.1,u2.1,u2.2.1,true,(5:Int),u6.1,()),(a0.1,u14.1,u14.2.1,())))) (
 .br (a1.1==(0:Int)) (
 .br (decide (r23.1<(4294967295:Int))) (
 .ob (Av (a0.1,u14.1,u14.2.1,()) ((2:Int),())) fun r27=>
 .br r27.1.1 (
 .ob (Do (r23.2.1,()) ((Dd [114,101,107,101,121]),())) fun r28=>
 .leaf ((r3.1,r3.2.1,r23.1,r23.2.1,u12.1,u12.2.1,u13.1,(i64.wrap (r23.1-(1:Int))),u1.1,r4.1.1,u2.1,u2.2.1,true,r24.1.1,r28.1,()),(a0.1,r27.2.2.1,r27.2.2.2.1,()))) (
 .leaf ((r3.1,r3.2.1,r23.1,r23.2.1,u12.1,u12.2.1,u13.1,(i64.wrap (r23.1-(1:Int))),u1.1,r4.1.1,u2.1,u2.2.1,true,r24.1.1,u6.1,()),(a0.1,r27.2.2.1,r27.2.2.2.1,())))) (
 .leaf ((r3.1,r3.2.1,r23.1,r23.2.1,u12.1,u12.2.1,u13.1,(i64.wrap (r23.1-(1:Int))),u1.1,r4.1.1,u2.1,u2.2.1,true,r24.1.1,u6.1,()),(a0.1,u14.1,u14.2.1,())))) (
 .leaf ((r3.1,r3.2.1,r23.1,r23.2.1,u12.1,u12.2.1,u13.1,(i64.wrap (r23.1-(1:Int))),u1.1,r4.1.1,u2.1,u2.2.1,true,r24.1.1,u6.1,()),(a0.1,u14.1,u14.2.1,()))))) (
 .br (a1.1==(0:Int)) (
 .br (decide (r23.1<(4294967295:Int))) (
 .ob (Av (a0.1,u14.1,u14.2.1,()) ((2:Int),())) fun r29=>
 .br r29.1.1 (
 .ob (Do (r23.2.1,()) ((Dd [114,101,107,101,121]),())) fun r30=>
 .leaf ((r3.1,r3.2.1,r23.1,r23.2.1,u12.1,u12.2.1,u13.1,(i64.wrap (r23.1-(1:Int))),u1.1,r4.1.1,u2.1,u2.2.1,true,r24.1.1,r30.1,()),(a0.1,r29.2.2.1,r29.2.2.2.1,()))) (
 .leaf ((r3.1,r3.2.1,r23.1,r23.2.1,u12.1,u12.2.1,u13.1,(i64.wrap (r23.1-(1:Int))),u1.1,r4.1.1,u2.1,u2.2.1,true,r24.1.1,u6.1,()),(a0.1,r29.2.2.1,r29.2.2.2.1,())))) (
 .leaf ((r3.1,r3.2.1,r23.1,r23.2.1,u12.1,u12.2.1,u13.1,(i64.wrap (r23.1-(1:Int))),u1.1,r4.1.1,u2.1,u2.2.1,true,r24.1.1,u6.1,()),(a0.1,u14.1,u14.2.1,())))) (
 .leaf ((r3.1,r3.2.1,r23.1,r23.2.1,u12.1,u12.2.1,u13.1,(i64.wrap (r23.1-(1:Int))),u1.1,r4.1.1,u2.1,u2.2.1,true,r24.1.1,u6.1,()),(a0.1,u14.1,u14.2.1,()))))) (
 .br (a1.1==(0:Int)) (
 .br (decide (r3.2.2.1<(4294967295:Int))) (
 .ob (Av (a0.1,u11.1,u11.2.1,()) ((2:Int),())) fun r31=>
 .br r31.1.1 (
 .ob (Do (u1.1,()) ((Dd [114,101,107,101,121]),())) fun r32=>
 .leaf ((r3.1,r3.2.1,r3.2.2.1,u1.1,r4.1.1,u2.1,u2.2.1,u3.1,u3.2.1,u4.1,u4.2.1,u5.1,u5.2.1,u5.2.2.1,r32.1,()),(a0.1,r31.2.2.1,r31.2.2.2.1,()))) (
 .leaf ((r3.1,r3.2.1,r3.2.2.1,u1.1,r4.1.1,u2.1,u2.2.1,u3.1,u3.2.1,u4.1,u4.2.1,u5.1,u5.2.1,u5.2.2.1,u6.1,()),(a0.1,r31.2.2.1,r31.2.2.2.1,())))) (
 .leaf ((r3.1,r3.2.1,r3.2.2.1,u1.1,r4.1.1,u2.1,u2.2.1,u3.1,u3.2.1,u4.1,u4.2.1,u5.1,u5.2.1,u5.2.2.1,u6.1,()),(a0.1,u11.1,u11.2.1,())))) (
 .leaf ((r3.1,r3.2.1,r3.2.2.1,u1.1,r4.1.1,u2.1,u2.2.1,u3.1,u3.2.1,u4.1,u4.2.1,u5.1,u5.2.1,u5.2.2.1,u6.1,()),(a0.1,u11.1,u11.2.1,())))))
def Un (a0:Aw) (a1:YI):Option (Ap×Aw):=(Aa3 a0 a1).val
def Ajl (a0:A8):Tree (A8):=
 .chk (decide (([]:List YB).length+a0.2.2.1.length<=4294967296)) <|
 .leaf (a0.1,a0.2.1,(([]:List YB)++a0.2.2.1),a0.2.2.2.1,())
def Qk (a0:A8):Option (A8):=(Ajl a0).val
def L0 (x1:Int×Int×Int×(List A8)×Int×Int×(List A8)×Int×Int×(List A8)×Unit):Option ((Int×Int×Int×(List A8)×Int×Int×(List A8)×Int×Int×(List A8)×Unit)⊕((Int×Int×(List A8)×Int×Int×(List A8)×Unit))):=
 letI u1:=x1.2.2.2;letI u2:=u1.2.2;letI u3:=u2.2.2;Tree.val <|
 .br (decide (x1.1<(x1.2.2.2.1.length:Int))) (
 .ob (idx u1.1 x1.1) fun e2=>
 .ob (Qk e2) fun r3=>
 .chk (decide (x1.2.2.2.2.2.2.2.2.2.1.length+[r3].length<=4294967296)) <|
 .leaf (.inl ((i64.wrap (x1.1+(1:Int))),x1.2.1,x1.2.2.1,u1.1,u1.2.1,u2.1,u2.2.1,u3.1,u3.2.1,(u3.2.2.1++[r3]),()))) (
 .leaf (.inr (u1.2.1,u2.1,u2.2.1,u3.1,u3.2.1,u3.2.2.1,())))
def Ajm (a0:Bm):Tree (Bm):=
 .ob (Ax L0 ((0:Int),a0.1,a0.2.1,a0.2.2.1,(0:Int),(0:Int),([]:List A8),a0.1,a0.2.1,([]:List A8),())) fun o4=>
 .leaf (o4.2.2.2.1,o4.2.2.2.2.1,o4.2.2.2.2.2.1,())
def Ea (a0:Bm):Option (Bm):=(Ajm a0).val
def Kw (x5:Int×Int×Int×Int×(List A8)×Int×Int×(List A8)×Int×Int×(List A8)×Unit):Option ((Int×Int×Int×Int×(List A8)×Int×Int×(List A8)×Int×Int×(List A8)×Unit)⊕((Int×Int×(List A8)×Int×Int×(List A8)×Unit))):=
 letI u1:=x5.2.2;letI u2:=u1.2.2;letI u3:=u2.2.2;letI u4:=u3.2.2;Tree.val <|
 .br (decide (x5.2.1<(x5.2.2.2.2.1.length:Int))) (
 .ob (idx u2.1 x5.2.1) fun e6=>
 .br (decide (e6.2.2.2.1≥x5.1)) (
 .ob (idx u2.1 x5.2.1) fun e7=>
 .ob (Qk e7) fun r8=>
 .chk (decide (x5.2.2.2.2.2.2.2.2.2.2.1.length+[r8].length<=4294967296)) <|
 .leaf (.inl (x5.1,(i64.wrap (x5.2.1+(1:Int))),u1.1,u1.2.1,u2.1,u2.2.1,u3.1,u3.2.1,u4.1,u4.2.1,(u4.2.2.1++[r8]),()))) (
 .leaf (.inl (x5.1,(i64.wrap (x5.2.1+(1:Int))),u1.1,u1.2.1,u2.1,u2.2.1,u3.1,u3.2.1,u4.1,u4.2.1,u4.2.2.1,())))) (
 .leaf (.inr (u2.2.1,u3.1,u3.2.1,u4.1,u4.2.1,u4.2.2.1,())))
def Ae9 (a0:Bm) (a1:YI):Tree (Bm):=
 .ob (Qj a0) fun r1=>
 .br (!r1.1) (
 .ob (Ea a0) fun r2=>
 .leaf r2) (
 .ob (Bt a1 ((0:Int),()) ((1000000:Int),())) fun r3=>
 .br (!r3.1) (
 .ob (Ea a0) fun r4=>
 .leaf r4) (
 .ob (Ax Kw (a1.1,(0:Int),a0.1,a0.2.1,a0.2.2.1,(0:Int),(0:Int),([]:List A8),a0.1,a0.2.1,([]:List A8),())) fun o9=>
 .leaf (o9.2.2.2.1,o9.2.2.2.2.1,o9.2.2.2.2.2.1,())))
def Agk (a0:Bm) (a1:YI):Option (Bm):=(Ae9 a0 a1).val
def Qf (x10:Int×(List YB)×Int×Int×Int×(List A8)×Int×Int×Int×Int×(List A8)×Int×Int×(List A8)×Unit):Option ((Int×(List YB)×Int×Int×Int×(List A8)×Int×Int×Int×Int×(List A8)×Int×Int×(List A8)×Unit)⊕((Bool×Int×Int×(List A8)×Unit)⊕(Int×(List YB)×Int×Int×(List A8)×Int×Int×Int×Int×(List A8)×Int×Int×(List A8)×Unit))):=
 letI u1:=x10.2.2;letI u2:=u1.2.2;letI u3:=u2.2.2;letI u4:=u3.2.2;letI u5:=u4.2.2;letI u6:=u5.2.2;Tree.val <|
 .br (decide (u1.1<(x10.2.2.2.2.2.2.2.2.2.2.2.2.2.1.length:Int))) (
 .ob (idx u6.2.1 u1.1) fun e11=>
 .br (and (e11.1==u3.1) (and (e11.2.1==u3.2.1) true)) (
 .ob (Ea (u1.2.1,u2.1,u2.2.1,())) fun r12=>
 .leaf (.inr (.inl (false,r12.1,r12.2.1,r12.2.2.1,())))) (
 .leaf (.inl (x10.1,x10.2.1,(i64.wrap (u1.1+(1:Int))),u1.2.1,u2.1,u2.2.1,u3.1,u3.2.1,u4.1,u4.2.1,u5.1,u5.2.1,u6.1,u6.2.1,())))) (
 .leaf (.inr (.inr (x10.1,x10.2.1,u1.2.1,u2.1,u2.2.1,u3.1,u3.2.1,u4.1,u4.2.1,u5.1,u5.2.1,u6.1,u6.2.1,()))))
def Ate (a0:Bm) (a1:YI) (a2:A7) (a3:YBs):Tree (Bm×(Bool×Unit)):=
 .ob (Qj a0) fun r1=>
 .br (!r1.1) (
 .ob (Ea a0) fun r2=>
 .leaf (r2,(false,()))) (
 .ob (Bt a1 ((0:Int),()) ((1000000:Int),())) fun r3=>
 .br (!r3.1) (
 .ob (Ea a0) fun r4=>
 .leaf (r4,(false,()))) (
 .ob (Hk a2) fun r5=>
 .br (!r5.1) (
 .ob (Ea a0) fun r6=>
 .leaf (r6,(false,()))) (
 .br ((a3.1.length:Int) != (12:Int)) (
 .ob (Ea a0) fun r7=>
 .leaf (r7,(false,()))) (
 .br (and (a2.1==a0.1) (and (a2.2.1==a0.2.1) true)) (
 .ob (Ea a0) fun r8=>
 .leaf (r8,(false,()))) (
 .ob (Agk a0 a1) fun r9=>
 .ob (Ax Qf (a1.1,a3.1,(0:Int),a0.1,a0.2.1,a0.2.2.1,a2.1,a2.2.1,(0:Int),(0:Int),([]:List A8),r9.1,r9.2.1,r9.2.2.1,())) fun o13=>
 .sm o13 (fun o14=>
 .leaf ((o14.2.1,o14.2.2.1,o14.2.2.2.1,()),(o14.1,()))) (fun o15=>letI u1:=o15.2.2;letI u2:=u1.2.2.2;letI u3:=u2.2.2.2.2.2;
 .br ((o15.2.2.2.2.2.2.2.2.2.2.2.2.1.length:Int)==(3:Int)) (
 .ob (Ea (u1.1,u1.2.1,u1.2.2.1,())) fun r16=>
 .leaf (r16,(false,()))) (
 .chk (decide (([]:List YB).length+o15.2.1.length<=4294967296)) <|
 .chk (decide (o15.2.2.2.2.2.2.2.2.2.2.2.2.1.length+[(u2.1,u2.2.1,(([]:List YB)++o15.2.1),(i64.wrap (o15.1+(6:Int))),())].length<=4294967296)) <|
 .leaf ((u3.1,u3.2.1,(u3.2.2.1++[(u2.1,u2.2.1,(([]:List YB)++o15.2.1),(i64.wrap (o15.1+(6:Int))),())]),()),(true,())))))))))
def Em (a0:Bm) (a1:YI) (a2:A7) (a3:YBs):Option (Bm×(Bool×Unit)):=(Ate a0 a1 a2 a3).val
def U8 (x6:Int×Int×(List YB)×Int×Int×Int×Int×(List A8)×Int×Int×(List A8)×Unit):Option ((Int×Int×(List YB)×Int×Int×Int×Int×(List A8)×Int×Int×(List A8)×Unit)⊕(((List YB)×Int×Int×Int×Int×(List A8)×Int×Int×(List A8)×Unit))):=
 letI u1:=x6.2.2;letI u2:=u1.2.2;letI u3:=u2.2.2;letI u4:=u3.2.2;Tree.val <|
 .br (decide (x6.2.1>(0:Int))) (
 .ob (Bi (u1.1,u1.2.1,u2.1,()) ((7:Int),())) fun r7=>
 .ob (H4 r7.1) fun r8=>
 .ob (Dg (u1.1,r7.2.2.1,r7.2.2.2.1,()) ((12:Int),())) fun r9=>
 .ob (Em (u4.1,u4.2.1,u4.2.2.1,()) (x6.1,()) r8 r9.1) fun r10=>
 .ob (Bi (u1.1,r9.2.2.1,r9.2.2.2.1,()) ((3:Int),())) fun r11=>
 .leaf (.inl ((i64.wrap (x6.1+r11.1.1)),(i64.wrap (x6.2.1-(1:Int))),u1.1,r11.2.2.1,r11.2.2.2.1,u2.2.1,u3.1,u3.2.1,r10.1.1,r10.1.2.1,r10.1.2.2.1,()))) (
 .leaf (.inr (u1.1,u1.2.1,u2.1,u2.2.1,u3.1,u3.2.1,u4.1,u4.2.1,u4.2.2.1,())))
def Aa5 (a0:Aw):Tree (Bm×Aw):=
 .ob (Bi a0 ((5:Int),())) fun r1=>
 .ob (H4 r1.1) fun r2=>
 .ob (Lg r2) fun r3=>
 .ob (Bi (a0.1,r1.2.2.1,r1.2.2.2.1,()) ((6:Int),())) fun r4=>
 .ob (Bi (a0.1,r4.2.2.1,r4.2.2.2.1,()) ((5:Int),())) fun r5=>
 .ob (Ax U8 (r4.1.1,r5.1.1,a0.1,r5.2.2.1,r5.2.2.2.1,(0:Int),(0:Int),([]:List A8),r3.1,r3.2.1,r3.2.2.1,())) fun o12=>letI u1:=o12.2.2.2.2.2.2;
 .leaf ((u1.1,u1.2.1,u1.2.2.1,()),(o12.1,o12.2.1,o12.2.2.1,()))
def Ql (a0:Aw):Option (Bm×Aw):=(Aa5 a0).val
def Aa6 (a0:Aw):Tree (Ak×Aw):=
 .ob (Dg a0 ((16:Int),())) fun r1=>
 .ob (Bi (a0.1,r1.2.2.1,r1.2.2.2.1,()) ((2:Int),())) fun r2=>
 .ob (Py (a0.1,r2.2.2.1,r2.2.2.2.1,())) fun r3=>
 .ob (Hd r1.1 ((i64.wrap ((1:Int)+r2.1.1)),()) r3.1) fun r4=>
 .ob (Dg (a0.1,r3.2.2.1,r3.2.2.2.1,()) ((16:Int),())) fun r5=>
 .ob (B9 (a0.1,r5.2.2.1,r5.2.2.2.1,()) ([((0:Int),()),((5:Int),()),((90:Int),())],())) fun r6=>
 .ob (Bi (a0.1,r6.2.2.1,r6.2.2.2.1,()) ((5:Int),())) fun r7=>
 .ob (H4 ((i64.wrap ((1:Int)+r7.1.1)),())) fun r8=>
 .ob (Kp r5.1 r6.1 r8 r4.1) fun r9=>letI u1:=r9.2.2.2;letI u2:=u1.2.2.2;letI u3:=u2.2.2.2;letI u4:=u3.2.2.2;letI u5:=u4.2.2.2;letI u6:=u5.2.2.2;letI u7:=u6.2.2.2;
 .ob (Av (a0.1,r7.2.2.1,r7.2.2.2.1,()) ((2:Int),())) fun r10=>
 .br r10.1.1 (
 .ob (Un (a0.1,r10.2.2.1,r10.2.2.2.1,()) ((1:Int),())) fun r11=>letI u8:=r11.1.2.2;letI u9:=u8.2.2;letI u10:=u9.2.2;letI u11:=u10.2.2;letI u12:=u11.2.2;letI u13:=u12.2.2;
 .ob (Av (a0.1,r11.2.2.1,r11.2.2.2.1,()) ((2:Int),())) fun r12=>
 .br r12.1.1 (
 .ob (Ql (a0.1,r12.2.2.1,r12.2.2.2.1,())) fun r13=>
 .leaf ((r9.1,r9.2.1,r11.1.2.1,r11.1.1,r11.1.2.1,u8.1,u8.2.1,u9.1,u9.2.1,u10.1,u10.2.1,u11.1,u11.2.1,u12.1,u12.2.1,u13.1,u13.2.1,u13.2.2.1,r13.1.1,r13.1.2.1,r13.1.2.2.1,u7.1,u7.2.1,u7.2.2.1,()),(a0.1,r13.2.2.1,r13.2.2.2.1,()))) (
 .leaf ((r9.1,r9.2.1,r11.1.2.1,r11.1.1,r11.1.2.1,u8.1,u8.2.1,u9.1,u9.2.1,u10.1,u10.2.1,u11.1,u11.2.1,u12.1,u12.2.1,u13.1,u13.2.1,u13.2.2.1,u6.1,u6.2.1,u6.2.2.1,u7.1,u7.2.1,u7.2.2.1,()),(a0.1,r12.2.2.1,r12.2.2.2.1,())))) (
 .ob (Av (a0.1,r10.2.2.1,r10.2.2.2.1,()) ((2:Int),())) fun r14=>
 .br r14.1.1 (
 .ob (Ql (a0.1,r14.2.2.1,r14.2.2.2.1,())) fun r15=>
 .leaf ((r9.1,r9.2.1,r9.2.2.1,u1.1,u1.2.1,u1.2.2.1,u2.1,u2.2.1,u2.2.2.1,u3.1,u3.2.1,u3.2.2.1,u4.1,u4.2.1,u4.2.2.1,u5.1,u5.2.1,u5.2.2.1,r15.1.1,r15.1.2.1,r15.1.2.2.1,u7.1,u7.2.1,u7.2.2.1,()),(a0.1,r15.2.2.1,r15.2.2.2.1,()))) (
 .leaf (r9,(a0.1,r14.2.2.1,r14.2.2.2.1,()))))
def Uo (a0:Aw):Option (Ak×Aw):=(Aa6 a0).val
def Any (a0:YEp):Tree (YEp):=
 .chk (decide (([]:List YB).length+a0.2.1.length<=4294967296)) <|
 .ob (Apq (a0.2.2.2.1,a0.2.2.2.2.1,())) fun r1=>
 .leaf (a0.1,(([]:List YB)++a0.2.1),a0.2.2.1,r1.1,r1.2.1,())
def Te (a0:YEp):Option (YEp):=(Any a0).val
def Atf (a0:YEp) (a1:Bool×Unit):Tree (YEp):=
 .br (!a1.1) (
 .chk (decide (([]:List YB).length+a0.2.1.length<=4294967296)) <|
 .chk (decide (([]:List YI).length+a0.2.2.2.2.1.length<=4294967296)) <|
 .leaf (a0.1,(([]:List YB)++a0.2.1),a0.2.2.1,a0.2.2.2.1,(([]:List YI)++a0.2.2.2.2.1),())) (
 .ob (Te a0) fun r1=>
 .leaf r1)
def Aut (a0:YEp) (a1:Bool×Unit):Option (YEp):=(Atf a0 a1).val
def Ajn (a0:Ap):Tree (Ap):=
 letI u1:=a0.2.2.2;letI u2:=u1.2.2.2;letI u3:=u2.2.2.2;letI u4:=u3.2.2.2;.chk (decide (([]:List YB).length+a0.2.1.length<=4294967296)) <|
 .ob (Te (a0.2.2.1,u1.1,u1.2.1,u1.2.2.1,u2.1,())) fun r1=>
 .ob (Aut (u2.2.1,u2.2.2.1,u3.1,u3.2.1,u3.2.2.1,()) (u4.1,())) fun r2=>
 .chk (decide (([]:List YB).length+a0.2.2.2.2.2.2.2.2.2.2.2.2.2.2.1.length<=4294967296)) <|
 .leaf (a0.1,(([]:List YB)++a0.2.1),r1.1,r1.2.1,r1.2.2.1,r1.2.2.2.1,r1.2.2.2.2.1,r2.1,r2.2.1,r2.2.2.1,r2.2.2.2.1,r2.2.2.2.2.1,u4.1,u4.2.1,(([]:List YB)++u4.2.2.1),())
def Iz (a0:Ap):Option (Ap):=(Ajn a0).val
def Ajo (a0:Ak):Tree (Ak):=
 letI u1:=a0.2.2.2;letI u2:=u1.2.2.2;letI u3:=u2.2.2.2;letI u4:=u3.2.2.2;letI u5:=u4.2.2.2;letI u6:=u5.2.2.2.2;.chk (decide (([]:List YB).length+a0.2.1.length<=4294967296)) <|
 .chk (decide (([]:List YB).length+a0.2.2.1.length<=4294967296)) <|
 .ob (Iz (u1.1,u1.2.1,u1.2.2.1,u2.1,u2.2.1,u2.2.2.1,u3.1,u3.2.1,u3.2.2.1,u4.1,u4.2.1,u4.2.2.1,u5.1,u5.2.1,u5.2.2.1,())) fun r1=>letI u7:=r1.2.2.2;letI u8:=u7.2.2.2;letI u9:=u8.2.2.2.2;
 .ob (Ea (u5.2.2.2.1,u6.1,u6.2.1,())) fun r2=>
 .leaf (a0.1,(([]:List YB)++a0.2.1),(([]:List YB)++a0.2.2.1),r1.1,r1.2.1,r1.2.2.1,u7.1,u7.2.1,u7.2.2.1,u8.1,u8.2.1,u8.2.2.1,u8.2.2.2.1,u9.1,u9.2.1,u9.2.2.1,u9.2.2.2.1,u9.2.2.2.2.1,r2.1,r2.2.1,r2.2.2.1,u6.2.2.1,u6.2.2.2.1,u6.2.2.2.2.1,())
def Nb (a0:Ak):Option (Ak):=(Ajo a0).val
def L3 (x1:Int×Int×(List Ak)×Int×(List Ak)×Int×(List Ak)×Unit):Option ((Int×Int×(List Ak)×Int×(List Ak)×Int×(List Ak)×Unit)⊕((Int×(List Ak)×Int×(List Ak)×Unit))):=
 letI u1:=x1.2.2;letI u2:=u1.2.2;Tree.val <|
 .br (decide (x1.1<(x1.2.2.1.length:Int))) (
 .ob (idx u1.1 x1.1) fun e2=>
 .ob (Nb e2) fun r3=>
 .chk (decide (x1.2.2.2.2.2.2.1.length+[r3].length<=4294967296)) <|
 .leaf (.inl ((i64.wrap (x1.1+(1:Int))),x1.2.1,u1.1,u1.2.1,u2.1,u2.2.1,(u2.2.2.1++[r3]),()))) (
 .leaf (.inr (u1.2.1,u2.1,u2.2.1,u2.2.2.1,())))
def Ajp (a0:Ch):Tree (Ch):=
 .ob (Ax L3 ((0:Int),a0.1,a0.2.1,(0:Int),([]:List Ak),a0.1,([]:List Ak),())) fun o4=>
 .leaf (o4.2.2.1,o4.2.2.2.1,())
def Akj (a0:Ch):Option (Ch):=(Ajp a0).val
def Ajr (a0:Ch) (a1:Ak):Tree (Ch×YI):=
 .ob (Akj a0) fun r1=>
 .ob (Aia a0) fun r2=>
 .br (!r2.1) (
 .leaf (r1,((1:Int),()))) (
 .ob (O6 a1) fun r3=>
 .br (!r3.1) (
 .leaf (r1,((1:Int),()))) (
 .br a1.2.2.2.2.2.2.2.2.2.2.2.2.2.2.2.2.2.2.2.2.2.2.2.1 (
 .leaf (r1,((1:Int),()))) (
 .ob (Adx a0 (a1.2.2.1,())) fun r4=>
 .br (decide (r4.1≥(0:Int))) (
 .leaf (r1,((3:Int),()))) (
 .ob (Agh a0) fun r5=>
 .br (r5.1==a0.1) (
 .leaf (r1,((7:Int),()))) (
 .br ((a0.2.1.length:Int)==(12:Int)) (
 .leaf (r1,((7:Int),()))) (
 .ob (Nb a1) fun r6=>
 .chk (decide (r1.2.1.length+[r6].length<=4294967296)) <|
 .leaf ((r1.1,(r1.2.1++[r6]),()),((0:Int),()))))))))
def Qm (a0:Ch) (a1:Ak):Option (Ch×YI):=(Ajr a0 a1).val
def Anz (a0:Ak):Tree (Ak):=
 .ob (O6 a0) fun r1=>
 .br (!r1.1) (
 .ob (Nb a0) fun r2=>
 .leaf r2) (
 .chk (decide (([]:List YB).length+a0.2.1.length<=4294967296)) <|
 .chk (decide (([]:List YB).length+a0.2.2.1.length<=4294967296)) <|
 .leaf (a0.1,(([]:List YB)++a0.2.1),(([]:List YB)++a0.2.2.1),(0:Int),([]:List YB),(0:Int),([]:List YB),(0:Int),(0:Int),([]:List YI),(0:Int),([]:List YB),(0:Int),(0:Int),([]:List YI),false,(0:Int),([]:List YB),(0:Int),(0:Int),([]:List A8),a0.2.2.2.2.2.2.2.2.2.2.2.2.2.2.2.2.2.2.2.2.2.1,(0:Int),true,()))
def Zx (a0:Ak):Option (Ak):=(Anz a0).val
def L4 (x4:Int×(List YB)×Int×Int×Int×(List Ak)×Int×(List Ak)×Unit):Option ((Int×(List YB)×Int×Int×Int×(List Ak)×Int×(List Ak)×Unit)⊕(((List YB)×Int×Int×Int×(List Ak)×Int×(List Ak)×Unit))):=
 letI u1:=x4.2.2.2;letI u2:=u1.2.2;Tree.val <|
 .br (decide (x4.1>(0:Int))) (
 .ob (Uo (x4.2.1,x4.2.2.1,u1.1,())) fun r5=>
 .ob (Qm (u2.2.1,u2.2.2.1,()) r5.1) fun r6=>
 .br (decide ((r6.1.2.1.length:Int)>(0:Int))) (
 .ob (Av (x4.2.1,r5.2.2.1,r5.2.2.2.1,()) ((3:Int),())) fun r7=>
 .br r7.1.1 (
 .ob (Bi (x4.2.1,r7.2.2.1,r7.2.2.2.1,()) ((r6.1.2.1.length:Int),())) fun r8=>
 .ob (idx r6.1.2.1 r8.1.1) fun e9=>
 .ob (Zx e9) fun r10=>
 .ob (idx r6.1.2.1 r8.1.1) fun e11=>
 let q12:=(r6.1.2.1.set (r8.1.1).toNat r10)
 .leaf (.inl ((i64.wrap (x4.1-(1:Int))),x4.2.1,r8.2.2.1,r8.2.2.2.1,u1.2.1,u2.1,r6.1.1,q12,()))) (
 .leaf (.inl ((i64.wrap (x4.1-(1:Int))),x4.2.1,r7.2.2.1,r7.2.2.2.1,u1.2.1,u2.1,r6.1.1,r6.1.2.1,())))) (
 .leaf (.inl ((i64.wrap (x4.1-(1:Int))),x4.2.1,r5.2.2.1,r5.2.2.2.1,u1.2.1,u2.1,r6.1.1,r6.1.2.1,())))) (
 .leaf (.inr (x4.2.1,x4.2.2.1,u1.1,u1.2.1,u2.1,u2.2.1,u2.2.2.1,())))
def Aa8 (a0:Aw):Tree (Ch×Aw):=
 .ob (Bi a0 ((6:Int),())) fun r1=>
 .ob (O5 ((i64.wrap ((1:Int)+r1.1.1)),())) fun r2=>
 .ob (Bi (a0.1,r1.2.2.1,r1.2.2.2.1,()) ((6:Int),())) fun r3=>
 .ob (Ax L4 (r3.1.1,a0.1,r3.2.2.1,r3.2.2.2.1,(0:Int),([]:List Ak),r2.1,r2.2.1,())) fun o13=>
 .leaf ((o13.2.2.2.2.2.1,o13.2.2.2.2.2.2.1,()),(o13.1,o13.2.1,o13.2.2.1,()))
def Up (a0:Aw):Option (Ch×Aw):=(Aa8 a0).val
def Uc (x1:(List Ao)×Int×Int×Int×Unit):Option (((List Ao)×Int×Int×Int×Unit)⊕(YI⊕(Unit))):=
 Tree.val <|
 .br (decide (x1.2.1<(x1.1.length:Int))) (
 .ob (idx x1.1 x1.2.1) fun e2=>
 .br (and (e2.1==x1.2.2.1) (and (e2.2.1==x1.2.2.2.1) true)) (
 .leaf (.inr (.inl (x1.2.1,())))) (
 .leaf (.inl (x1.1,(i64.wrap (x1.2.1+(1:Int))),x1.2.2.1,x1.2.2.2.1,())))) (
 .leaf (.inr (.inr ())))
def Ath (a0:(List Ao)×Unit) (a1:A7):Tree (YI):=
 .ob (Ax Uc (a0.1,(0:Int),a1.1,a1.2.1,())) fun o3=>
 .sm o3 (fun o4=>
 .leaf o4) (fun o5=>
 .leaf ((-1:Int),()))
def Aca (a0:(List Ao)×Unit) (a1:A7):Option (YI):=(Ath a0 a1).val
def An1 (a0:(List Ao)×Unit) (a1:A7) (a2:YI):Tree (((List Ao)×Unit)):=
 .chk (decide (([]:List Ao).length+a0.1.length<=4294967296)) <|
 .ob (Mc a0) fun r1=>
 .br (!r1.1) (
 .leaf ((([]:List Ao)++a0.1),())) (
 .ob (Hk a1) fun r2=>
 .br (!r2.1) (
 .leaf ((([]:List Ao)++a0.1),())) (
 .ob (Bt a2 ((0:Int),()) ((1000000:Int),())) fun r3=>
 .br (!r3.1) (
 .leaf ((([]:List Ao)++a0.1),())) (
 .ob (Aca a0 a1) fun r4=>
 .br (decide (r4.1<(0:Int))) (
 .br ((a0.1.length:Int)==(8:Int)) (
 .leaf ((([]:List Ao)++a0.1),())) (
 .chk (decide ((([]:List Ao)++a0.1).length+[(a1.1,a1.2.1,a2.1,(0:Int),())].length<=4294967296)) <|
 .leaf (((([]:List Ao)++a0.1)++[(a1.1,a1.2.1,a2.1,(0:Int),())]),()))) (
 .ob (idx (([]:List Ao)++a0.1) r4.1) fun e5=>
 .ob (idx (([]:List Ao)++a0.1) r4.1) fun e6=>
 let q7:=((([]:List Ao)++a0.1).set (r4.1).toNat (e6.1,e6.2.1,(i64.wrap (e5.2.2.1+a2.1)),e6.2.2.2.1,()))
 .ob (idx q7 r4.1) fun e8=>
 .br (decide (e8.2.2.1>(1000000:Int))) (
 .ob (idx q7 r4.1) fun e9=>
 let q10:=(q7.set (r4.1).toNat (e9.1,e9.2.1,(1000000:Int),e9.2.2.2.1,()))
 .leaf (q10,())) (
 .leaf (q7,()))))))
def Agl (a0:(List Ao)×Unit) (a1:A7) (a2:YI):Option (((List Ao)×Unit)):=(An1 a0 a1 a2).val
def Ud (a0:(List Ao)×Unit) (a1:A7):Tree (YI):=
 .ob (Aca a0 a1) fun r1=>
 .ob (Mc a0) fun r2=>
 .br (!r2.1) (
 .leaf ((0:Int),())) (
 .br (decide (r1.1<(0:Int))) (
 .leaf ((0:Int),())) (
 .ob (idx a0.1 r1.1) fun e3=>
 .ob (idx a0.1 r1.1) fun e4=>
 .leaf ((i64.wrap ((i64.wrap ((3:Int)*e3.2.2.1))-e4.2.2.2.1)),())))
def Nc (a0:(List Ao)×Unit) (a1:A7):Option (YI):=(Ud a0 a1).val
def Ahx (a0:(List Ao)×Unit) (a1:A7) (a2:YI):Tree (((List Ao)×Unit)×(Bool×Unit)):=
 .chk (decide (([]:List Ao).length+a0.1.length<=4294967296)) <|
 .ob (Aca a0 a1) fun r1=>
 .br (decide (r1.1<(0:Int))) (
 .leaf (((([]:List Ao)++a0.1),()),(false,()))) (
 .ob (Mc a0) fun r2=>
 .br (!r2.1) (
 .leaf (((([]:List Ao)++a0.1),()),(false,()))) (
 .ob (Nc a0 a1) fun r3=>
 .ob (Bt a2 ((0:Int),()) r3) fun r4=>
 .br (!r4.1) (
 .leaf (((([]:List Ao)++a0.1),()),(false,()))) (
 .ob (idx (([]:List Ao)++a0.1) r1.1) fun e5=>
 .ob (idx (([]:List Ao)++a0.1) r1.1) fun e6=>
 let q7:=((([]:List Ao)++a0.1).set (r1.1).toNat (e6.1,e6.2.1,e6.2.2.1,(i64.wrap (e5.2.2.2.1+a2.1)),()))
 .leaf ((q7,()),(true,())))))
def Rr (a0:(List Ao)×Unit) (a1:A7) (a2:YI):Option (((List Ao)×Unit)×(Bool×Unit)):=(Ahx a0 a1 a2).val
def L5 (x2:(List Ao)×Int×(List YB)×Int×Int×Unit):Option (((List Ao)×Int×(List YB)×Int×Int×Unit)⊕(((List Ao)×(List YB)×Int×Int×Unit))):=
 letI u1:=x2.2.2;Tree.val <|
 .br (decide (x2.2.1>(0:Int))) (
 .ob (Bi (u1.1,u1.2.1,u1.2.2.1,()) ((10:Int),())) fun r3=>
 .ob (H4 r3.1) fun r4=>
 .ob (B9 (u1.1,r3.2.2.1,r3.2.2.2.1,()) ([((0:Int),()),((1:Int),()),((34:Int),()),((60:Int),()),((999999:Int),()),((1000000:Int),())],())) fun r5=>
 .ob (Agl (x2.1,()) r4 r5.1) fun r6=>
 .ob (B9 (u1.1,r5.2.2.1,r5.2.2.2.1,()) ([((0:Int),()),((3:Int),()),((45:Int),()),((102:Int),()),((1000:Int),())],())) fun r7=>
 .ob (Rr r6 r4 r7.1) fun r8=>
 .leaf (.inl (r8.1.1,(i64.wrap (x2.2.1-(1:Int))),u1.1,r7.2.2.1,r7.2.2.2.1,()))) (
 .leaf (.inr (x2.1,u1.1,u1.2.1,u1.2.2.1,())))
def Aa9 (a0:Aw) (a1:YI):Tree (((List Ao)×Unit)×Aw):=
 .ob (Bi a0 ((i64.wrap (a1.1+(1:Int))),())) fun r1=>
 .ob (Ax L5 (([]:List Ao),r1.1.1,a0.1,r1.2.2.1,r1.2.2.2.1,())) fun o9=>
 .leaf ((o9.1,()),(o9.2.1,o9.2.2.1,o9.2.2.2.1,()))
def Uq (a0:Aw) (a1:YI):Option (((List Ao)×Unit)×Aw):=(Aa9 a0 a1).val
def L6 (x6:Int×(List YB)×Int×Int×(List YBs)×(List YB)×(List YB)×Int×Int×(List Ak)×(List Ao)×(List YBs)×(List YB)×(List YB)×Int×Int×(List Ak)×(List Ao)×Int×(List Ak)×Unit):Option ((Int×(List YB)×Int×Int×(List YBs)×(List YB)×(List YB)×Int×Int×(List Ak)×(List Ao)×(List YBs)×(List YB)×(List YB)×Int×Int×(List Ak)×(List Ao)×Int×(List Ak)×Unit)⊕(((List YB)×Int×Int×(List YBs)×(List YB)×(List YB)×Int×Int×(List Ak)×(List Ao)×(List YBs)×(List YB)×(List YB)×Int×Int×(List Ak)×(List Ao)×Unit))):=
 letI u1:=x6.2.2;letI u2:=u1.2.2;letI u3:=u2.2.2;letI u4:=u3.2.2;letI u5:=u4.2.2;letI u6:=u5.2.2;letI u7:=u6.2.2;letI u8:=u7.2.2;letI u9:=u8.2.2;Tree.val <|
 .br (decide (x6.1<(x6.2.2.2.2.2.2.2.2.2.2.2.2.2.2.2.2.2.2.2.1.length:Int))) (
 .ob (idx u9.2.1 x6.1) fun e7=>
 .br (decide (e7.1<=(x6.2.2.2.2.2.2.2.2.2.2.2.1.length:Int))) (
 .ob (idx u9.2.1 x6.1) fun e8=>
 .ob (Qm (u7.2.1,u8.1,()) e8) fun r9=>
 .leaf (.inl ((i64.wrap (x6.1+(1:Int))),x6.2.1,u1.1,u1.2.1,u2.1,u2.2.1,u3.1,u3.2.1,u4.1,u4.2.1,u5.1,u5.2.1,u6.1,u6.2.1,u7.1,r9.1.1,r9.1.2.1,u8.2.1,u9.1,u9.2.1,()))) (
 .leaf (.inl ((i64.wrap (x6.1+(1:Int))),x6.2.1,u1.1,u1.2.1,u2.1,u2.2.1,u3.1,u3.2.1,u4.1,u4.2.1,u5.1,u5.2.1,u6.1,u6.2.1,u7.1,u7.2.1,u8.1,u8.2.1,u9.1,u9.2.1,())))) (
 .leaf (.inr (x6.2.1,u1.1,u1.2.1,u2.1,u2.2.1,u3.1,u3.2.1,u4.1,u4.2.1,u5.1,u5.2.1,u6.1,u6.2.1,u7.1,u7.2.1,u8.1,u8.2.1,())))
def Aba (a0:Aw):Tree (Bs×Aw):=
 .ob (Ul a0) fun r1=>
 .ob (Dg (a0.1,r1.2.2.1,r1.2.2.2.1,()) ((8:Int),())) fun r2=>
 .ob (Bi (a0.1,r2.2.2.1,r2.2.2.2.1,()) ((4:Int),())) fun r3=>
 .ob (Px r1.1 r2.1 ((i64.wrap ((1:Int)+r3.1.1)),())) fun r4=>letI u1:=r4.2.2.2;
 .ob (Up (a0.1,r3.2.2.1,r3.2.2.2.1,())) fun r5=>
 .ob (Ax L6 ((0:Int),a0.1,r5.2.2.1,r5.2.2.2.1,([]:List YBs),([]:List YB),([]:List YB),(0:Int),(0:Int),([]:List Ak),([]:List Ao),r4.1,r4.2.1,r4.2.2.1,u1.1,u1.2.1,u1.2.2.1,u1.2.2.2.1,r5.1.1,r5.1.2.1,())) fun o10=>letI u2:=o10.2.2.2.2.2.2.2.2.2.2;
 .ob (Uq (o10.1,o10.2.1,o10.2.2.1,()) ((6:Int),())) fun r11=>
 .ob (Bi (o10.1,r11.2.2.1,r11.2.2.2.1,()) ((30:Int),())) fun r12=>
 .leaf ((u2.1,u2.2.1,u2.2.2.1,(i64.wrap ((1:Int)+r12.1.1)),u2.2.2.2.2.1,u2.2.2.2.2.2.1,r11.1.1,()),(o10.1,r12.2.2.1,r12.2.2.2.1,()))
def Ur (a0:Aw):Option (Bs×Aw):=(Aba a0).val
def Jp (x2:Gc):Option (Gc⊕(YBs)):=
 Tree.val <|
 .br (decide (x2.2.1<(20:Int))) (
 .chk (decide (x2.1.length+[((0:Int),())].length<=4294967296)) <|
 .leaf (.inl ((x2.1++[((0:Int),())]),(i64.wrap (x2.2.1+(1:Int))),()))) (
 .leaf (.inr (x2.1,())))
def Afb (a0:Aq):Tree (YBs):=
 letI u1:=a0.2.2;letI u2:=u1.2.2.2;letI u3:=u2.2.2.2;.ob (Na a0) fun r1=>
 .br (!r1.1) (
 .leaf (([]:List YB),())) (
 .br (a0.1==(1:Int)) (
 .chk (decide ([((u8.wrap (a0.1)),())].length+[((u8.wrap (a0.2.1)),())].length<=4294967296)) <|
 .chk (decide (([((u8.wrap (a0.1)),())]++[((u8.wrap (a0.2.1)),())]).length+a0.2.2.1.length<=4294967296)) <|
 .ob (Ax Jp ((([((u8.wrap (a0.1)),())]++[((u8.wrap (a0.2.1)),())])++u1.1),(0:Int),())) fun o3=>
 .leaf o3) (
 .br (a0.1==(2:Int)) (
 .chk (decide ([((u8.wrap (a0.1)),())].length+a0.2.2.1.length<=4294967296)) <|
 .chk (decide (([((u8.wrap (a0.1)),())]++u1.1).length+a0.2.2.2.1.length<=4294967296)) <|
 .ob (En ((([((u8.wrap (a0.1)),())]++u1.1)++u1.2.1),()) (u1.2.2.1,()) ((4:Int),())) fun r4=>
 .chk (decide (r4.1.length+a0.2.2.2.2.2.1.length<=4294967296)) <|
 .leaf ((r4.1++u2.1),())) (
 .br (a0.1==(3:Int)) (
 .chk (decide ([((u8.wrap (a0.1)),())].length+[((u8.wrap (a0.2.1)),())].length<=4294967296)) <|
 .chk (decide (([((u8.wrap (a0.1)),())]++[((u8.wrap (a0.2.1)),())]).length+a0.2.2.1.length<=4294967296)) <|
 .chk (decide ((([((u8.wrap (a0.1)),())]++[((u8.wrap (a0.2.1)),())])++u1.1).length+a0.2.2.2.1.length<=4294967296)) <|
 .ob (En (((([((u8.wrap (a0.1)),())]++[((u8.wrap (a0.2.1)),())])++u1.1)++u1.2.1),()) (u1.2.2.1,()) ((4:Int),())) fun r5=>
 .chk (decide (r5.1.length+a0.2.2.2.2.2.1.length<=4294967296)) <|
 .chk (decide ((r5.1++u2.1).length+a0.2.2.2.2.2.2.1.length<=4294967296)) <|
 .leaf (((r5.1++u2.1)++u2.2.1),())) (
 .chk (decide ([((u8.wrap (a0.1)),())].length+a0.2.2.2.1.length<=4294967296)) <|
 .ob (En (([((u8.wrap (a0.1)),())]++u1.2.1),()) (u2.2.2.1,()) ((4:Int),())) fun r6=>
 .ob (En r6 (u3.1,()) ((6:Int),())) fun r7=>
 .chk (decide (r7.1.length+a0.2.2.2.2.2.2.2.2.2.2.1.length<=4294967296)) <|
 .chk (decide ((r7.1++u3.2.2.1).length+a0.2.2.2.2.2.2.2.2.2.1.length<=4294967296)) <|
 .leaf (((r7.1++u3.2.2.1)++u3.2.1),())))))
def Lh (a0:Aq):Option (YBs):=(Afb a0).val
def Ajs (a0:YBs) (a1:A7):Tree (YBs):=
 .ob (Hk a1) fun r1=>
 .br (!r1.1) (
 .chk (decide (([]:List YB).length+a0.1.length<=4294967296)) <|
 .leaf ((([]:List YB)++a0.1),())) (
 .ob (En a0 (a1.1,()) ((4:Int),())) fun r2=>
 .ob (En r2 (a1.2.1,()) ((2:Int),())) fun r3=>
 .leaf r3)
def Ayq (a0:YBs) (a1:A7):Option (YBs):=(Ajs a0 a1).val
def Wv (a0:A7) (a1:YI) (a2:YBs) (a3:YBs) (a4:YI):Tree (YBs):=
 .ob (Hk a0) fun r1=>
 .br (!r1.1) (
 .leaf (([]:List YB),())) (
 .ob (Bt a1 ((1:Int),()) ((9:Int),())) fun r2=>
 .br (!r2.1) (
 .leaf (([]:List YB),())) (
 .br ((a2.1.length:Int) != (12:Int)) (
 .leaf (([]:List YB),())) (
 .br ((a3.1.length:Int) != (12:Int)) (
 .leaf (([]:List YB),())) (
 .ob (Bt a4 ((0:Int),()) ((1000000:Int),())) fun r3=>
 .br (!r3.1) (
 .leaf (([]:List YB),())) (
 .ob (Ayq ([((99:Int),())],()) a0) fun r4=>
 .chk (decide (r4.1.length+[((u8.wrap (a1.1)),())].length<=4294967296)) <|
 .chk (decide ((r4.1++[((u8.wrap (a1.1)),())]).length+a2.1.length<=4294967296)) <|
 .chk (decide (((r4.1++[((u8.wrap (a1.1)),())])++a2.1).length+a3.1.length<=4294967296)) <|
 .ob (En ((((r4.1++[((u8.wrap (a1.1)),())])++a2.1)++a3.1),()) a4 ((4:Int),())) fun r5=>
 .leaf r5)))))
def N4 (a0:A7) (a1:YI) (a2:YBs) (a3:YBs) (a4:YI):Option (YBs):=(Wv a0 a1 a2 a3 a4).val
def An2 (a0:YBs) (a1:A7) (a2:YI) (a3:YBs) (a4:YBs) (a5:YI):Tree (YBs):=
 .ob (N4 a1 a2 a3 a4 a5) fun r1=>
 .ob (Aur a0) fun r2=>
 .br (!r2.1) (
 .leaf (([]:List YB),())) (
 .br ((r1.1.length:Int)==(0:Int)) (
 .leaf (([]:List YB),())) (
 .ob (Aej a0 r1) fun r3=>
 .leaf r3))
def Zy (a0:YBs) (a1:A7) (a2:YI) (a3:YBs) (a4:YBs) (a5:YI):Option (YBs):=(An2 a0 a1 a2 a3 a4 a5).val
def An4 (a0:Aw) (a1:YBs):Tree (YBs×Aw):=
 .chk (decide (([]:List YB).length+a1.1.length<=4294967296)) <|
 .ob (Bi a0 ((8:Int),())) fun r1=>letI u1:=r1.2.2;
 .br (r1.1.1==(0:Int)) (
 .br (decide (((([]:List YB)++a1.1).length:Int)>(0:Int))) (
 .ob (Bi (a0.1,u1.1,u1.2.1,()) (((([]:List YB)++a1.1).length:Int),())) fun r2=>
 .ob (idx (([]:List YB)++a1.1) r2.1.1) fun e3=>
 .ob (Bi (a0.1,r2.2.2.1,r2.2.2.2.1,()) ((255:Int),())) fun r4=>
 .ob (idx (([]:List YB)++a1.1) r2.1.1) fun e5=>
 let q6:=((([]:List YB)++a1.1).set (r2.1.1).toNat ((u8.wrap ((BitVec.ofInt (u8.bits) (e3.1) ^^^ BitVec.ofInt (u8.bits) ((u8.wrap ((i64.wrap ((1:Int)+r4.1.1)))))).toNat:Nat)),()))
 .leaf ((q6,()),(a0.1,r4.2.2.1,r4.2.2.2.1,()))) (
 .leaf (((([]:List YB)++a1.1),()),(a0.1,u1.1,u1.2.1,())))) (
 .br (r1.1.1==(1:Int)) (
 .br (decide (((([]:List YB)++a1.1).length:Int)>(0:Int))) (
 .ob (Bi (a0.1,u1.1,u1.2.1,()) (((([]:List YB)++a1.1).length:Int),())) fun r7=>
 .chk (decide ((0:Int)<=r7.1.1)) <|
 .chk (decide (r7.1.1<=((([]:List YB)++a1.1).length:Int))) <|
 .leaf (((((([]:List YB)++a1.1).take (r7.1.1).toNat).drop ((0:Int)).toNat),()),(a0.1,r7.2.2.1,r7.2.2.2.1,()))) (
 .leaf (((([]:List YB)++a1.1),()),(a0.1,u1.1,u1.2.1,())))) (
 .br (r1.1.1==(2:Int)) (
 .ob (Kc (a0.1,u1.1,u1.2.1,())) fun r8=>
 .chk (decide ((([]:List YB)++a1.1).length+[((u8.wrap (r8.1.1)),())].length<=4294967296)) <|
 .leaf ((((([]:List YB)++a1.1)++[((u8.wrap (r8.1.1)),())]),()),(a0.1,r8.2.2.1,r8.2.2.2.1,()))) (
 .leaf (((([]:List YB)++a1.1),()),(a0.1,u1.1,u1.2.1,())))))
def I0 (a0:Aw) (a1:YBs):Option (YBs×Aw):=(An4 a0 a1).val
def An5 (a0:Aw):Tree (YI×YBs×Aw):=
 .ob (Bi a0 ((6:Int),())) fun r1=>letI u1:=r1.2.2;
 .br (r1.1.1==(0:Int)) (
 .ob (Bi (a0.1,u1.1,u1.2.1,()) ((2:Int),())) fun r2=>
 .ob (Dg (a0.1,r2.2.2.1,r2.2.2.2.1,()) ((12:Int),())) fun r3=>
 .leaf (((i64.wrap ((5:Int)+r2.1.1)),()),r3.1,(a0.1,r3.2.2.1,r3.2.2.2.1,()))) (
 .br (r1.1.1==(1:Int)) (
 .ob (Bi (a0.1,u1.1,u1.2.1,()) ((2:Int),())) fun r4=>
 .ob (Dg (a0.1,r4.2.2.1,r4.2.2.2.1,()) ((4:Int),())) fun r5=>
 .leaf (((i64.wrap ((7:Int)+r4.1.1)),()),r5.1,(a0.1,r5.2.2.1,r5.2.2.2.1,()))) (
 .ob (B9 (a0.1,u1.1,u1.2.1,()) ([((0:Int),()),((1:Int),()),((3:Int),()),((12:Int),()),((33:Int),()),((40:Int),())],())) fun r6=>
 .ob (Dg (a0.1,r6.2.2.1,r6.2.2.2.1,()) r6.1) fun r7=>
 .leaf (((4:Int),()),r7.1,(a0.1,r7.2.2.1,r7.2.2.2.1,()))))
def Apr (a0:Aw):Option (YI×YBs×Aw):=(An5 a0).val
def An7 (a0:YI) (a1:YBs) (a2:YI) (a3:YI):Tree (YBs):=
 .ob (Bt a0 ((0:Int),()) ((1:Int),())) fun r1=>
 .br (!r1.1) (
 .leaf (([]:List YB),())) (
 .br ((a1.1.length:Int) != (12:Int)) (
 .leaf (([]:List YB),())) (
 .ob (Bt a2 ((0:Int),()) ((4294967295:Int),())) fun r2=>
 .br (!r2.1) (
 .leaf (([]:List YB),())) (
 .ob (Bt a3 ((0:Int),()) ((281474976710655:Int),())) fun r3=>
 .br (!r3.1) (
 .leaf (([]:List YB),())) (
 .chk (decide ([((u8.wrap (a0.1)),())].length+a1.1.length<=4294967296)) <|
 .ob (En (([((u8.wrap (a0.1)),())]++a1.1),()) a2 ((4:Int),())) fun r4=>
 .ob (En r4 a3 ((6:Int),())) fun r5=>
 .leaf r5))))
def Tf (a0:YI) (a1:YBs) (a2:YI) (a3:YI):Option (YBs):=(An7 a0 a1 a2 a3).val
def Ajt (a0:YBs) (a1:YBs) (a2:YI):Tree (YBs):=
 .ob (Bt a2 ((0:Int),()) ((6:Int),())) fun r1=>
 .br (!r1.1) (
 .leaf (([]:List YB),())) (
 .br (decide ((a1.1.length:Int)>(100:Int))) (
 .leaf (([]:List YB),())) (
 .chk (decide ([((115:Int),())].length+a1.1.length<=4294967296)) <|
 .ob (En (([((115:Int),())]++a1.1),()) a2 ((4:Int),())) fun r2=>
 .ob (Vn a0 r2) fun r3=>
 .leaf r3))
def Akk (a0:YBs) (a1:YBs) (a2:YI):Option (YBs):=(Ajt a0 a1 a2).val
def Ns (x2:(List YB)×(List YB)×Int×(List YB)×Int×Unit):Option (((List YB)×(List YB)×Int×(List YB)×Int×Unit)⊕((Int×(List YB)×Unit))):=
 letI u1:=x2.2.2;Tree.val <|
 .br (decide ((x2.2.2.2.1.length:Int)<u1.1)) (
 .ob (Akk (x2.1,()) (x2.2.1,()) (u1.2.2.1,())) fun r3=>
 .chk (decide (x2.2.2.2.1.length+r3.1.length<=4294967296)) <|
 .leaf (.inl (x2.1,x2.2.1,u1.1,(u1.2.1++r3.1),(i64.wrap (u1.2.2.1+(1:Int))),()))) (
 .leaf (.inr (u1.1,u1.2.1,())))
def An8 (a0:YBs) (a1:YBs) (a2:YI):Tree (YBs):=
 .ob (Bt a2 ((0:Int),()) ((200:Int),())) fun r1=>
 .br (!r1.1) (
 .leaf (([]:List YB),())) (
 .br (decide ((a1.1.length:Int)>(100:Int))) (
 .leaf (([]:List YB),())) (
 .br (decide ((a0.1.length:Int)>(1048576:Int))) (
 .leaf (([]:List YB),())) (
 .ob (Ax Ns (a0.1,a1.1,a2.1,([]:List YB),(0:Int),())) fun o4=>
 .chk (decide ((0:Int)<=o4.1)) <|
 .chk (decide (o4.1<=(o4.2.1.length:Int))) <|
 .chk (decide (([]:List YB).length+((o4.2.1.take (o4.1).toNat).drop ((0:Int)).toNat).length<=4294967296)) <|
 .leaf ((([]:List YB)++((o4.2.1.take (o4.1).toNat).drop ((0:Int)).toNat)),()))))
def Aps (a0:YBs) (a1:YBs) (a2:YI):Option (YBs):=(An8 a0 a1 a2).val
def V4 (x2:(List YB)×(List YB)×(List YB)×Int×Unit):Option (((List YB)×(List YB)×(List YB)×Int×Unit)⊕(YBs)):=
 letI u1:=x2.2.2;Tree.val <|
 .br (decide (u1.2.1<(x2.1.length:Int))) (
 .ob (idx x2.1 u1.2.1) fun e3=>
 .ob (idx u1.1 u1.2.1) fun e4=>
 .chk (decide (x2.2.1.length+[((u8.wrap ((BitVec.ofInt (u8.bits) (e3.1) ^^^ BitVec.ofInt (u8.bits) (e4.1)).toNat:Nat)),())].length<=4294967296)) <|
 .leaf (.inl (x2.1,(x2.2.1++[((u8.wrap ((BitVec.ofInt (u8.bits) (e3.1) ^^^ BitVec.ofInt (u8.bits) (e4.1)).toNat:Nat)),())]),u1.1,(i64.wrap (u1.2.1+(1:Int))),()))) (
 .leaf (.inr (x2.2.1,())))
def A5f (a0:YBs) (a1:YBs) (a2:YBs):Tree (YBs):=
 .br (decide ((a2.1.length:Int)>(200:Int))) (
 .leaf (([]:List YB),())) (
 .br (decide ((a1.1.length:Int)>(100:Int))) (
 .leaf (([]:List YB),())) (
 .br (decide ((a0.1.length:Int)>(1048576:Int))) (
 .leaf (([]:List YB),())) (
 .ob (Aps a0 a1 ((a2.1.length:Int),())) fun r1=>
 .ob (Ax V4 (a2.1,([]:List YB),r1.1,(0:Int),())) fun o5=>
 .leaf o5)))
def Awj (a0:YBs) (a1:YBs) (a2:YBs):Option (YBs):=(A5f a0 a1 a2).val
def Afc (a0:YI) (a1:Aq):Tree (YBs):=
 letI u1:=a1.2.2.2.2.2.2.2;.ob (Bt a0 ((0:Int),()) ((1:Int),())) fun r1=>
 .br (!r1.1) (
 .leaf (([]:List YB),())) (
 .ob (Na a1) fun r2=>
 .br (!r2.1) (
 .leaf (([]:List YB),())) (
 .ob (O7 (a1.1,())) fun r3=>
 .br (!r3.1) (
 .leaf (([]:List YB),())) (
 .ob (Tf a0 (a1.2.2.2.1,()) (u1.1,()) (u1.2.1,())) fun r4=>
 .chk (decide ([((116:Int),())].length+r4.1.length<=4294967296)) <|
 .chk (decide (([((116:Int),())]++r4.1).length+[((u8.wrap (a1.1)),())].length<=4294967296)) <|
 .chk (decide ((([((116:Int),())]++r4.1)++[((u8.wrap (a1.1)),())]).length+a1.2.2.2.2.2.2.2.2.2.1.length<=4294967296)) <|
 .leaf (((([((116:Int),())]++r4.1)++[((u8.wrap (a1.1)),())])++u1.2.2.1),()))))
def Li (a0:YI) (a1:Aq):Option (YBs):=(Afc a0 a1).val
def Oz (x5:(List YB)×Int×Int×Int×Int×(List YB)×(List YB)×Int×(List YB)×(List YB)×Int×Int×(List YB)×(List YB)×Int×Int×(List YB)×(List YB)×Int×(List YB)×(List YB)×Int×Int×(List YB)×(List YB)×Unit):Option (((List YB)×Int×Int×Int×Int×(List YB)×(List YB)×Int×(List YB)×(List YB)×Int×Int×(List YB)×(List YB)×Int×Int×(List YB)×(List YB)×Int×(List YB)×(List YB)×Int×Int×(List YB)×(List YB)×Unit)⊕(((List YB)×Int×Int×Int×(List YB)×(List YB)×Int×(List YB)×(List YB)×Int×Int×(List YB)×(List YB)×Int×Int×(List YB)×(List YB)×Int×(List YB)×(List YB)×Int×Int×(List YB)×(List YB)×Unit))):=
 letI u1:=x5.2.2;letI u2:=u1.2.2;letI u3:=u2.2.2;letI u4:=u3.2.2;letI u5:=u4.2.2;letI u6:=u5.2.2;letI u7:=u6.2.2;letI u8:=u7.2.2;letI u9:=u8.2.2;letI u10:=u9.2.2;letI u11:=u10.2.2;Tree.val <|
 .br (decide (u1.1<(16:Int))) (
 .chk (decide (x5.2.2.2.2.2.2.2.2.2.2.2.2.2.2.2.2.2.2.2.2.2.2.2.2.1.length+[((0:Int),())].length<=4294967296)) <|
 .leaf (.inl (x5.1,x5.2.1,(i64.wrap (u1.1+(1:Int))),u1.2.1,u2.1,u2.2.1,u3.1,u3.2.1,u4.1,u4.2.1,u5.1,u5.2.1,u6.1,u6.2.1,u7.1,u7.2.1,u8.1,u8.2.1,u9.1,u9.2.1,u10.1,u10.2.1,u11.1,u11.2.1,(u11.2.2.1++[((0:Int),())]),()))) (
 .leaf (.inr (x5.1,x5.2.1,u1.2.1,u2.1,u2.2.1,u3.1,u3.2.1,u4.1,u4.2.1,u5.1,u5.2.1,u6.1,u6.2.1,u7.1,u7.2.1,u8.1,u8.2.1,u9.1,u9.2.1,u10.1,u10.2.1,u11.1,u11.2.1,u11.2.2.1,())))
def An9 (a0:YBs) (a1:YI) (a2:YBs) (a3:YI) (a4:YI) (a5:YI) (a6:YBs):Tree (Aq×(Bool×Unit)):=
 .ob (Tf a1 a2 a3 a4) fun r1=>
 .br ((a0.1.length:Int) != (32:Int)) (
 .leaf (((0:Int),(0:Int),([]:List YB),([]:List YB),(0:Int),([]:List YB),([]:List YB),(0:Int),(0:Int),([]:List YB),([]:List YB),()),(false,()))) (
 .br ((r1.1.length:Int)==(0:Int)) (
 .leaf (((0:Int),(0:Int),([]:List YB),([]:List YB),(0:Int),([]:List YB),([]:List YB),(0:Int),(0:Int),([]:List YB),([]:List YB),()),(false,()))) (
 .ob (O7 a5) fun r2=>
 .br (!r2.1) (
 .leaf (((0:Int),(0:Int),([]:List YB),([]:List YB),(0:Int),([]:List YB),([]:List YB),(0:Int),(0:Int),([]:List YB),([]:List YB),()),(false,()))) (
 .ob (Xd a5 ((a6.1.length:Int),())) fun r3=>
 .br (!r3.1) (
 .leaf (((0:Int),(0:Int),([]:List YB),([]:List YB),(0:Int),([]:List YB),([]:List YB),(0:Int),(0:Int),([]:List YB),([]:List YB),()),(false,()))) (
 .chk (decide (([]:List YB).length+a2.1.length<=4294967296)) <|
 .ob (Awj a0 r1 a6) fun r4=>
 .ob (Ax Oz (a0.1,a1.1,(0:Int),(0:Int),(0:Int),([]:List YB),([]:List YB),(0:Int),([]:List YB),([]:List YB),(0:Int),(0:Int),([]:List YB),([]:List YB),a5.1,(0:Int),([]:List YB),(([]:List YB)++a2.1),(0:Int),([]:List YB),([]:List YB),a3.1,a4.1,r4.1,([]:List YB),())) fun o6=>letI u1:=o6.2.2.2.2.2.2.2.2.2.2.2.2.2;letI u2:=u1.2.2;letI u3:=u2.2.2;letI u4:=u3.2.2;letI u5:=u4.2.2;
 .ob (Li (o6.2.1,()) (u1.1,u1.2.1,u2.1,u2.2.1,u3.1,u3.2.1,u4.1,u4.2.1,u5.1,u5.2.1,u5.2.2.1,())) fun r7=>
 .ob (Aej (o6.1,()) r7) fun r8=>
 .leaf ((u1.1,u1.2.1,u2.1,u2.2.1,u3.1,u3.2.1,u4.1,u4.2.1,u5.1,u5.2.1,r8.1,()),(true,()))))))
def Bz (a0:YBs) (a1:YI) (a2:YBs) (a3:YI) (a4:YI) (a5:YI) (a6:YBs):Option (Aq×(Bool×Unit)):=(An9 a0 a1 a2 a3 a4 a5 a6).val
def Aob (a0:Aw) (a1:Aq):Tree (Aq×Aw):=
 .ob (Ady a1) fun r1=>letI u1:=r1.2.2;letI u2:=u1.2.2;letI u3:=u2.2.2;letI u4:=u3.2.2;letI u5:=u4.2.2;
 .ob (Bi a0 ((14:Int),())) fun r2=>letI u6:=r2.2.2;
 .br (r2.1.1==(0:Int)) (
 .ob (B9 (a0.1,u6.1,u6.2.1,()) ([((1:Int),()),((-1:Int),()),((7:Int),())],())) fun r3=>
 .leaf ((r1.1,r1.2.1,u1.1,u1.2.1,u2.1,u2.2.1,u3.1,u3.2.1,(i64.wrap (u4.1+r3.1.1)),u4.2.1,u5.1,()),(a0.1,r3.2.2.1,r3.2.2.2.1,()))) (
 .br (r2.1.1==(1:Int)) (
 .ob (B9 (a0.1,u6.1,u6.2.1,()) ([((1:Int),()),((-1:Int),())],())) fun r4=>
 .leaf ((r1.1,r1.2.1,u1.1,u1.2.1,u2.1,u2.2.1,u3.1,(i64.wrap (u3.2.1+r4.1.1)),u4.1,u4.2.1,u5.1,()),(a0.1,r4.2.2.1,r4.2.2.2.1,()))) (
 .br (r2.1.1==(2:Int)) (
 .ob (I0 (a0.1,u6.1,u6.2.1,()) (u1.2.1,())) fun r5=>
 .leaf ((r1.1,r1.2.1,u1.1,r5.1.1,u2.1,u2.2.1,u3.1,u3.2.1,u4.1,u4.2.1,u5.1,()),(a0.1,r5.2.2.1,r5.2.2.2.1,()))) (
 .br (r2.1.1==(3:Int)) (
 .ob (I0 (a0.1,u6.1,u6.2.1,()) (u4.2.1,())) fun r6=>
 .leaf ((r1.1,r1.2.1,u1.1,u1.2.1,u2.1,u2.2.1,u3.1,u3.2.1,u4.1,r6.1.1,u5.1,()),(a0.1,r6.2.2.1,r6.2.2.2.1,()))) (
 .br (r2.1.1==(4:Int)) (
 .ob (I0 (a0.1,u6.1,u6.2.1,()) (u4.2.1,())) fun r7=>
 .leaf ((r1.1,r1.2.1,u1.1,u1.2.1,u2.1,u2.2.1,u3.1,u3.2.1,u4.1,r7.1.1,u5.1,()),(a0.1,r7.2.2.1,r7.2.2.2.1,()))) (
 .br (r2.1.1==(5:Int)) (
 .ob (I0 (a0.1,u6.1,u6.2.1,()) (u5.1,())) fun r8=>
 .leaf ((r1.1,r1.2.1,u1.1,u1.2.1,u2.1,u2.2.1,u3.1,u3.2.1,u4.1,u4.2.1,r8.1.1,()),(a0.1,r8.2.2.1,r8.2.2.2.1,()))) (
 .br (r2.1.1==(6:Int)) (
 .ob (I0 (a0.1,u6.1,u6.2.1,()) (u5.1,())) fun r9=>
 .leaf ((r1.1,r1.2.1,u1.1,u1.2.1,u2.1,u2.2.1,u3.1,u3.2.1,u4.1,u4.2.1,r9.1.1,()),(a0.1,r9.2.2.1,r9.2.2.2.1,()))) (
 .br (r2.1.1==(7:Int)) (
 .ob (Bi (a0.1,u6.1,u6.2.1,()) ((10:Int),())) fun r10=>
 .leaf ((r10.1.1,r1.2.1,u1.1,u1.2.1,u2.1,u2.2.1,u3.1,u3.2.1,u4.1,u4.2.1,u5.1,()),(a0.1,r10.2.2.1,r10.2.2.2.1,()))) (
 .leaf (r1,(a0.1,u6.1,u6.2.1,()))))))))))
def B8 (a0:Aw) (a1:Aq):Option (Aq×Aw):=(Aob a0 a1).val
def Afd (a0:Aw) (a1:Ap):Tree (Aq×Aw):=
 letI u1:=a1.2.2;letI u2:=u1.2.2.2;letI u3:=u2.2.2;letI u4:=u3.2.2.2;letI u5:=u4.2.2.2.2;.ob (Apr a0) fun r1=>letI u6:=r1.2.2.2;
 .br u4.2.2.1 (
 .ob (Av (a0.1,u6.1,u6.2.1,()) ((3:Int),())) fun r2=>letI u7:=r2.2.2;
 .br r2.1.1 (
 .br (decide ((a1.2.2.2.2.2.2.2.2.2.2.2.2.2.2.1.length:Int)>(0:Int))) (
 .ob (Av (a0.1,u7.1,u7.2.1,()) ((2:Int),())) fun r3=>
 .br r3.1.1 (
 .ob (Fj ((i64.wrap (u1.1+(1:Int))),()) (u5.1,())) fun r4=>
 .ob (B9 (a0.1,r3.2.2.1,r3.2.2.2.1,()) ([((1:Int),()),((1:Int),()),((2:Int),()),((0:Int),()),((-1:Int),()),((5:Int),())],())) fun r5=>
 .br (decide ((i64.wrap (r4.2.2.2.1+r5.1.1))<(0:Int))) (
 .ob (Av (a0.1,r5.2.2.1,r5.2.2.2.1,()) ((10:Int),())) fun r6=>
 .br r6.1.1 (
 .ob (Bz (r4.2.1,()) (a1.1,()) (a1.2.1,()) (r4.1,()) ((0:Int),()) r1.1 r1.2.1) fun r7=>
 .ob (Av (a0.1,r6.2.2.1,r6.2.2.2.1,()) ((5:Int),())) fun r8=>
 .br r8.1.1 (
 .ob (B8 (a0.1,r8.2.2.1,r8.2.2.2.1,()) r7.1) fun r9=>
 .leaf (r9.1,(a0.1,r9.2.2.1,r9.2.2.2.1,()))) (
 .leaf (r7.1,(a0.1,r8.2.2.1,r8.2.2.2.1,())))) (
 .ob (Bz (r4.2.1,()) ((i64.wrap ((1:Int)-a1.1)),()) (a1.2.1,()) (r4.1,()) ((0:Int),()) r1.1 r1.2.1) fun r10=>
 .ob (Av (a0.1,r6.2.2.1,r6.2.2.2.1,()) ((5:Int),())) fun r11=>
 .br r11.1.1 (
 .ob (B8 (a0.1,r11.2.2.1,r11.2.2.2.1,()) r10.1) fun r12=>
 .leaf (r12.1,(a0.1,r12.2.2.1,r12.2.2.2.1,()))) (
 .leaf (r10.1,(a0.1,r11.2.2.1,r11.2.2.2.1,()))))) (
 .ob (Av (a0.1,r5.2.2.1,r5.2.2.2.1,()) ((10:Int),())) fun r13=>
 .br r13.1.1 (
 .ob (Bz (r4.2.1,()) (a1.1,()) (a1.2.1,()) (r4.1,()) ((i64.wrap (r4.2.2.2.1+r5.1.1)),()) r1.1 r1.2.1) fun r14=>
 .ob (Av (a0.1,r13.2.2.1,r13.2.2.2.1,()) ((5:Int),())) fun r15=>
 .br r15.1.1 (
 .ob (B8 (a0.1,r15.2.2.1,r15.2.2.2.1,()) r14.1) fun r16=>
 .leaf (r16.1,(a0.1,r16.2.2.1,r16.2.2.2.1,()))) (
 .leaf (r14.1,(a0.1,r15.2.2.1,r15.2.2.2.1,())))) (
 .ob (Bz (r4.2.1,()) ((i64.wrap ((1:Int)-a1.1)),()) (a1.2.1,()) (r4.1,()) ((i64.wrap (r4.2.2.2.1+r5.1.1)),()) r1.1 r1.2.1) fun r17=>
 .ob (Av (a0.1,r13.2.2.1,r13.2.2.2.1,()) ((5:Int),())) fun r18=>
 .br r18.1.1 (
 .ob (B8 (a0.1,r18.2.2.1,r18.2.2.2.1,()) r17.1) fun r19=>
 .leaf (r19.1,(a0.1,r19.2.2.1,r19.2.2.2.1,()))) (
 .leaf (r17.1,(a0.1,r18.2.2.1,r18.2.2.2.1,())))))) (
 .ob (B9 (a0.1,r3.2.2.1,r3.2.2.2.1,()) ([((1:Int),()),((1:Int),()),((2:Int),()),((0:Int),()),((-1:Int),()),((5:Int),())],())) fun r20=>
 .br (decide ((i64.wrap (u4.1+r20.1.1))<(0:Int))) (
 .ob (Av (a0.1,r20.2.2.1,r20.2.2.2.1,()) ((10:Int),())) fun r21=>
 .br r21.1.1 (
 .ob (Bz (u3.2.1,()) (a1.1,()) (a1.2.1,()) (u3.1,()) ((0:Int),()) r1.1 r1.2.1) fun r22=>
 .ob (Av (a0.1,r21.2.2.1,r21.2.2.2.1,()) ((5:Int),())) fun r23=>
 .br r23.1.1 (
 .ob (B8 (a0.1,r23.2.2.1,r23.2.2.2.1,()) r22.1) fun r24=>
 .leaf (r24.1,(a0.1,r24.2.2.1,r24.2.2.2.1,()))) (
 .leaf (r22.1,(a0.1,r23.2.2.1,r23.2.2.2.1,())))) (
 .ob (Bz (u3.2.1,()) ((i64.wrap ((1:Int)-a1.1)),()) (a1.2.1,()) (u3.1,()) ((0:Int),()) r1.1 r1.2.1) fun r25=>
 .ob (Av (a0.1,r21.2.2.1,r21.2.2.2.1,()) ((5:Int),())) fun r26=>
 .br r26.1.1 (
 .ob (B8 (a0.1,r26.2.2.1,r26.2.2.2.1,()) r25.1) fun r27=>
 .leaf (r27.1,(a0.1,r27.2.2.1,r27.2.2.2.1,()))) (
 .leaf (r25.1,(a0.1,r26.2.2.1,r26.2.2.2.1,()))))) (
 .ob (Av (a0.1,r20.2.2.1,r20.2.2.2.1,()) ((10:Int),())) fun r28=>
 .br r28.1.1 (
 .ob (Bz (u3.2.1,()) (a1.1,()) (a1.2.1,()) (u3.1,()) ((i64.wrap (u4.1+r20.1.1)),()) r1.1 r1.2.1) fun r29=>
 .ob (Av (a0.1,r28.2.2.1,r28.2.2.2.1,()) ((5:Int),())) fun r30=>
 .br r30.1.1 (
 .ob (B8 (a0.1,r30.2.2.1,r30.2.2.2.1,()) r29.1) fun r31=>
 .leaf (r31.1,(a0.1,r31.2.2.1,r31.2.2.2.1,()))) (
 .leaf (r29.1,(a0.1,r30.2.2.1,r30.2.2.2.1,())))) (
 .ob (Bz (u3.2.1,()) ((i64.wrap ((1:Int)-a1.1)),()) (a1.2.1,()) (u3.1,()) ((i64.wrap (u4.1+r20.1.1)),()) r1.1 r1.2.1) fun r32=>
 .ob (Av (a0.1,r28.2.2.1,r28.2.2.2.1,()) ((5:Int),())) fun r33=>
 .br r33.1.1 (
 .ob (B8 (a0.1,r33.2.2.1,r33.2.2.2.1,()) r32.1) fun r34=>
 .leaf (r34.1,(a0.1,r34.2.2.1,r34.2.2.2.1,()))) (
 .leaf (r32.1,(a0.1,r33.2.2.1,r33.2.2.2.1,()))))))) (
 .ob (B9 (a0.1,u7.1,u7.2.1,()) ([((1:Int),()),((1:Int),()),((2:Int),()),((0:Int),()),((-1:Int),()),((5:Int),())],())) fun r35=>
 .br (decide ((i64.wrap (u4.1+r35.1.1))<(0:Int))) (
 .ob (Av (a0.1,r35.2.2.1,r35.2.2.2.1,()) ((10:Int),())) fun r36=>
 .br r36.1.1 (
 .ob (Bz (u3.2.1,()) (a1.1,()) (a1.2.1,()) (u3.1,()) ((0:Int),()) r1.1 r1.2.1) fun r37=>
 .ob (Av (a0.1,r36.2.2.1,r36.2.2.2.1,()) ((5:Int),())) fun r38=>
 .br r38.1.1 (
 .ob (B8 (a0.1,r38.2.2.1,r38.2.2.2.1,()) r37.1) fun r39=>
 .leaf (r39.1,(a0.1,r39.2.2.1,r39.2.2.2.1,()))) (
 .leaf (r37.1,(a0.1,r38.2.2.1,r38.2.2.2.1,())))) (
 .ob (Bz (u3.2.1,()) ((i64.wrap ((1:Int)-a1.1)),()) (a1.2.1,()) (u3.1,()) ((0:Int),()) r1.1 r1.2.1) fun r40=>
 .ob (Av (a0.1,r36.2.2.1,r36.2.2.2.1,()) ((5:Int),())) fun r41=>
 .br r41.1.1 (
 .ob (B8 (a0.1,r41.2.2.1,r41.2.2.2.1,()) r40.1) fun r42=>
 .leaf (r42.1,(a0.1,r42.2.2.1,r42.2.2.2.1,()))) (
 .leaf (r40.1,(a0.1,r41.2.2.1,r41.2.2.2.1,()))))) (
 .ob (Av (a0.1,r35.2.2.1,r35.2.2.2.1,()) ((10:Int),())) fun r43=>
 .br r43.1.1 (
 .ob (Bz (u3.2.1,()) (a1.1,()) (a1.2.1,()) (u3.1,()) ((i64.wrap (u4.1+r35.1.1)),()) r1.1 r1.2.1) fun r44=>
 .ob (Av (a0.1,r43.2.2.1,r43.2.2.2.1,()) ((5:Int),())) fun r45=>
 .br r45.1.1 (
 .ob (B8 (a0.1,r45.2.2.1,r45.2.2.2.1,()) r44.1) fun r46=>
 .leaf (r46.1,(a0.1,r46.2.2.1,r46.2.2.2.1,()))) (
 .leaf (r44.1,(a0.1,r45.2.2.1,r45.2.2.2.1,())))) (
 .ob (Bz (u3.2.1,()) ((i64.wrap ((1:Int)-a1.1)),()) (a1.2.1,()) (u3.1,()) ((i64.wrap (u4.1+r35.1.1)),()) r1.1 r1.2.1) fun r47=>
 .ob (Av (a0.1,r43.2.2.1,r43.2.2.2.1,()) ((5:Int),())) fun r48=>
 .br r48.1.1 (
 .ob (B8 (a0.1,r48.2.2.1,r48.2.2.2.1,()) r47.1) fun r49=>
 .leaf (r49.1,(a0.1,r49.2.2.1,r49.2.2.2.1,()))) (
 .leaf (r47.1,(a0.1,r48.2.2.1,r48.2.2.2.1,()))))))) (
 .br (decide ((a1.2.2.2.2.2.2.2.2.2.2.2.2.2.2.1.length:Int)>(0:Int))) (
 .ob (Av (a0.1,u7.1,u7.2.1,()) ((2:Int),())) fun r50=>
 .br r50.1.1 (
 .ob (Fj ((i64.wrap (u1.1+(1:Int))),()) (u5.1,())) fun r51=>
 .ob (B9 (a0.1,r50.2.2.1,r50.2.2.2.1,()) ([((1:Int),()),((1:Int),()),((2:Int),()),((0:Int),()),((-1:Int),()),((5:Int),())],())) fun r52=>
 .br (decide ((i64.wrap (r51.2.2.2.1+r52.1.1))<(0:Int))) (
 .ob (Av (a0.1,r52.2.2.1,r52.2.2.2.1,()) ((10:Int),())) fun r53=>
 .br r53.1.1 (
 .ob (Bz (r51.2.1,()) (a1.1,()) (a1.2.1,()) (r51.1,()) ((0:Int),()) r1.1 r1.2.1) fun r54=>
 .ob (Av (a0.1,r53.2.2.1,r53.2.2.2.1,()) ((5:Int),())) fun r55=>
 .br r55.1.1 (
 .ob (B8 (a0.1,r55.2.2.1,r55.2.2.2.1,()) r54.1) fun r56=>
 .leaf (r56.1,(a0.1,r56.2.2.1,r56.2.2.2.1,()))) (
 .leaf (r54.1,(a0.1,r55.2.2.1,r55.2.2.2.1,())))) (
 .ob (Bz (r51.2.1,()) ((i64.wrap ((1:Int)-a1.1)),()) (a1.2.1,()) (r51.1,()) ((0:Int),()) r1.1 r1.2.1) fun r57=>
 .ob (Av (a0.1,r53.2.2.1,r53.2.2.2.1,()) ((5:Int),())) fun r58=>
 .br r58.1.1 (
 .ob (B8 (a0.1,r58.2.2.1,r58.2.2.2.1,()) r57.1) fun r59=>
 .leaf (r59.1,(a0.1,r59.2.2.1,r59.2.2.2.1,()))) (
 .leaf (r57.1,(a0.1,r58.2.2.1,r58.2.2.2.1,()))))) (
 .ob (Av (a0.1,r52.2.2.1,r52.2.2.2.1,()) ((10:Int),())) fun r60=>
 .br r60.1.1 (
 .ob (Bz (r51.2.1,()) (a1.1,()) (a1.2.1,()) (r51.1,()) ((i64.wrap (r51.2.2.2.1+r52.1.1)),()) r1.1 r1.2.1) fun r61=>
 .ob (Av (a0.1,r60.2.2.1,r60.2.2.2.1,()) ((5:Int),())) fun r62=>
 .br r62.1.1 (
 .ob (B8 (a0.1,r62.2.2.1,r62.2.2.2.1,()) r61.1) fun r63=>
 .leaf (r63.1,(a0.1,r63.2.2.1,r63.2.2.2.1,()))) (
 .leaf (r61.1,(a0.1,r62.2.2.1,r62.2.2.2.1,())))) (
 .ob (Bz (r51.2.1,()) ((i64.wrap ((1:Int)-a1.1)),()) (a1.2.1,()) (r51.1,()) ((i64.wrap (r51.2.2.2.1+r52.1.1)),()) r1.1 r1.2.1) fun r64=>
 .ob (Av (a0.1,r60.2.2.1,r60.2.2.2.1,()) ((5:Int),())) fun r65=>
 .br r65.1.1 (
 .ob (B8 (a0.1,r65.2.2.1,r65.2.2.2.1,()) r64.1) fun r66=>
 .leaf (r66.1,(a0.1,r66.2.2.1,r66.2.2.2.1,()))) (
 .leaf (r64.1,(a0.1,r65.2.2.1,r65.2.2.2.1,())))))) (
 .ob (B9 (a0.1,r50.2.2.1,r50.2.2.2.1,()) ([((1:Int),()),((1:Int),()),((2:Int),()),((0:Int),()),((-1:Int),()),((5:Int),())],())) fun r67=>
 .br (decide ((i64.wrap (u2.1+r67.1.1))<(0:Int))) (
 .ob (Av (a0.1,r67.2.2.1,r67.2.2.2.1,()) ((10:Int),())) fun r68=>
 .br r68.1.1 (
 .ob (Bz (u1.2.1,()) (a1.1,()) (a1.2.1,()) (u1.1,()) ((0:Int),()) r1.1 r1.2.1) fun r69=>
 .ob (Av (a0.1,r68.2.2.1,r68.2.2.2.1,()) ((5:Int),())) fun r70=>
 .br r70.1.1 (
 .ob (B8 (a0.1,r70.2.2.1,r70.2.2.2.1,()) r69.1) fun r71=>
 .leaf (r71.1,(a0.1,r71.2.2.1,r71.2.2.2.1,()))) (
 .leaf (r69.1,(a0.1,r70.2.2.1,r70.2.2.2.1,())))) (
 .ob (Bz (u1.2.1,()) ((i64.wrap ((1:Int)-a1.1)),()) (a1.2.1,()) (u1.1,()) ((0:Int),()) r1.1 r1.2.1) fun r72=>
 .ob (Av (a0.1,r68.2.2.1,r68.2.2.2.1,()) ((5:Int),())) fun r73=>
 .br r73.1.1 (
 .ob (B8 (a0.1,r73.2.2.1,r73.2.2.2.1,()) r72.1) fun r74=>
 .leaf (r74.1,(a0.1,r74.2.2.1,r74.2.2.2.1,()))) (
 .leaf (r72.1,(a0.1,r73.2.2.1,r73.2.2.2.1,()))))) (
 .ob (Av (a0.1,r67.2.2.1,r67.2.2.2.1,()) ((10:Int),())) fun r75=>
 .br r75.1.1 (
 .ob (Bz (u1.2.1,()) (a1.1,()) (a1.2.1,()) (u1.1,()) ((i64.wrap (u2.1+r67.1.1)),()) r1.1 r1.2.1) fun r76=>
 .ob (Av (a0.1,r75.2.2.1,r75.2.2.2.1,()) ((5:Int),())) fun r77=>
 .br r77.1.1 (
 .ob (B8 (a0.1,r77.2.2.1,r77.2.2.2.1,()) r76.1) fun r78=>
 .leaf (r78.1,(a0.1,r78.2.2.1,r78.2.2.2.1,()))) (
 .leaf (r76.1,(a0.1,r77.2.2.1,r77.2.2.2.1,())))) (
 .ob (Bz (u1.2.1,()) ((i64.wrap ((1:Int)-a1.1)),()) (a1.2.1,()) (u1.1,()) ((i64.wrap (u2.1+r67.1.1)),()) r1.1 r1.2.1) fun r79=>
 .ob (Av (a0.1,r75.2.2.1,r75.2.2.2.1,()) ((5:Int),())) fun r80=>
 .br r80.1.1 (
 .ob (B8 (a0.1,r80.2.2.1,r80.2.2.2.1,()) r79.1) fun r81=>
 .leaf (r81.1,(a0.1,r81.2.2.1,r81.2.2.2.1,()))) (
 .leaf (r79.1,(a0.1,r80.2.2.1,r80.2.2.2.1,()))))))) (
 .ob (B9 (a0.1,u7.1,u7.2.1,()) ([((1:Int),()),((1:Int),()),((2:Int),()),((0:Int),()),((-1:Int),()),((5:Int),())],())) fun r82=>
 .br (decide ((i64.wrap (u2.1+r82.1.1))<(0:Int))) (
 .ob (Av (a0.1,r82.2.2.1,r82.2.2.2.1,()) ((10:Int),())) fun r83=>
 .br r83.1.1 (
 .ob (Bz (u1.2.1,()) (a1.1,()) (a1.2.1,()) (u1.1,()) ((0:Int),()) r1.1 r1.2.1) fun r84=>
 .ob (Av (a0.1,r83.2.2.1,r83.2.2.2.1,()) ((5:Int),())) fun r85=>
 .br r85.1.1 (
 .ob (B8 (a0.1,r85.2.2.1,r85.2.2.2.1,()) r84.1) fun r86=>
 .leaf (r86.1,(a0.1,r86.2.2.1,r86.2.2.2.1,()))) (
 .leaf (r84.1,(a0.1,r85.2.2.1,r85.2.2.2.1,())))) (
 .ob (Bz (u1.2.1,()) ((i64.wrap ((1:Int)-a1.1)),()) (a1.2.1,()) (u1.1,()) ((0:Int),()) r1.1 r1.2.1) fun r87=>
 .ob (Av (a0.1,r83.2.2.1,r83.2.2.2.1,()) ((5:Int),())) fun r88=>
 .br r88.1.1 (
 .ob (B8 (a0.1,r88.2.2.1,r88.2.2.2.1,()) r87.1) fun r89=>
 .leaf (r89.1,(a0.1,r89.2.2.1,r89.2.2.2.1,()))) (
 .leaf (r87.1,(a0.1,r88.2.2.1,r88.2.2.2.1,()))))) (
 .ob (Av (a0.1,r82.2.2.1,r82.2.2.2.1,()) ((10:Int),())) fun r90=>
 .br r90.1.1 (
 .ob (Bz (u1.2.1,()) (a1.1,()) (a1.2.1,()) (u1.1,()) ((i64.wrap (u2.1+r82.1.1)),()) r1.1 r1.2.1) fun r91=>
 .ob (Av (a0.1,r90.2.2.1,r90.2.2.2.1,()) ((5:Int),())) fun r92=>
 .br r92.1.1 (
 .ob (B8 (a0.1,r92.2.2.1,r92.2.2.2.1,()) r91.1) fun r93=>
 .leaf (r93.1,(a0.1,r93.2.2.1,r93.2.2.2.1,()))) (
 .leaf (r91.1,(a0.1,r92.2.2.1,r92.2.2.2.1,())))) (
 .ob (Bz (u1.2.1,()) ((i64.wrap ((1:Int)-a1.1)),()) (a1.2.1,()) (u1.1,()) ((i64.wrap (u2.1+r82.1.1)),()) r1.1 r1.2.1) fun r94=>
 .ob (Av (a0.1,r90.2.2.1,r90.2.2.2.1,()) ((5:Int),())) fun r95=>
 .br r95.1.1 (
 .ob (B8 (a0.1,r95.2.2.1,r95.2.2.2.1,()) r94.1) fun r96=>
 .leaf (r96.1,(a0.1,r96.2.2.1,r96.2.2.2.1,()))) (
 .leaf (r94.1,(a0.1,r95.2.2.1,r95.2.2.2.1,())))))))) (
 .br (decide ((a1.2.2.2.2.2.2.2.2.2.2.2.2.2.2.1.length:Int)>(0:Int))) (
 .ob (Av (a0.1,u6.1,u6.2.1,()) ((2:Int),())) fun r97=>
 .br r97.1.1 (
 .ob (Fj ((i64.wrap (u1.1+(1:Int))),()) (u5.1,())) fun r98=>
 .ob (B9 (a0.1,r97.2.2.1,r97.2.2.2.1,()) ([((1:Int),()),((1:Int),()),((2:Int),()),((0:Int),()),((-1:Int),()),((5:Int),())],())) fun r99=>
 .br (decide ((i64.wrap (r98.2.2.2.1+r99.1.1))<(0:Int))) (
 .ob (Av (a0.1,r99.2.2.1,r99.2.2.2.1,()) ((10:Int),())) fun r100=>
 .br r100.1.1 (
 .ob (Bz (r98.2.1,()) (a1.1,()) (a1.2.1,()) (r98.1,()) ((0:Int),()) r1.1 r1.2.1) fun r101=>
 .ob (Av (a0.1,r100.2.2.1,r100.2.2.2.1,()) ((5:Int),())) fun r102=>
 .br r102.1.1 (
 .ob (B8 (a0.1,r102.2.2.1,r102.2.2.2.1,()) r101.1) fun r103=>
 .leaf (r103.1,(a0.1,r103.2.2.1,r103.2.2.2.1,()))) (
 .leaf (r101.1,(a0.1,r102.2.2.1,r102.2.2.2.1,())))) (
 .ob (Bz (r98.2.1,()) ((i64.wrap ((1:Int)-a1.1)),()) (a1.2.1,()) (r98.1,()) ((0:Int),()) r1.1 r1.2.1) fun r104=>
 .ob (Av (a0.1,r100.2.2.1,r100.2.2.2.1,()) ((5:Int),())) fun r105=>
 .br r105.1.1 (
 .ob (B8 (a0.1,r105.2.2.1,r105.2.2.2.1,()) r104.1) fun r106=>
 .leaf (r106.1,(a0.1,r106.2.2.1,r106.2.2.2.1,()))) (
 .leaf (r104.1,(a0.1,r105.2.2.1,r105.2.2.2.1,()))))) (
 .ob (Av (a0.1,r99.2.2.1,r99.2.2.2.1,()) ((10:Int),())) fun r107=>
 .br r107.1.1 (
 .ob (Bz (r98.2.1,()) (a1.1,()) (a1.2.1,()) (r98.1,()) ((i64.wrap (r98.2.2.2.1+r99.1.1)),()) r1.1 r1.2.1) fun r108=>
 .ob (Av (a0.1,r107.2.2.1,r107.2.2.2.1,()) ((5:Int),())) fun r109=>
 .br r109.1.1 (
 .ob (B8 (a0.1,r109.2.2.1,r109.2.2.2.1,()) r108.1) fun r110=>
 .leaf (r110.1,(a0.1,r110.2.2.1,r110.2.2.2.1,()))) (
 .leaf (r108.1,(a0.1,r109.2.2.1,r109.2.2.2.1,())))) (
 .ob (Bz (r98.2.1,()) ((i64.wrap ((1:Int)-a1.1)),()) (a1.2.1,()) (r98.1,()) ((i64.wrap (r98.2.2.2.1+r99.1.1)),()) r1.1 r1.2.1) fun r111=>
 .ob (Av (a0.1,r107.2.2.1,r107.2.2.2.1,()) ((5:Int),())) fun r112=>
 .br r112.1.1 (
 .ob (B8 (a0.1,r112.2.2.1,r112.2.2.2.1,()) r111.1) fun r113=>
 .leaf (r113.1,(a0.1,r113.2.2.1,r113.2.2.2.1,()))) (
 .leaf (r111.1,(a0.1,r112.2.2.1,r112.2.2.2.1,())))))) (
 .ob (B9 (a0.1,r97.2.2.1,r97.2.2.2.1,()) ([((1:Int),()),((1:Int),()),((2:Int),()),((0:Int),()),((-1:Int),()),((5:Int),())],())) fun r114=>
 .br (decide ((i64.wrap (u2.1+r114.1.1))<(0:Int))) (
 .ob (Av (a0.1,r114.2.2.1,r114.2.2.2.1,()) ((10:Int),())) fun r115=>
 .br r115.1.1 (
 .ob (Bz (u1.2.1,()) (a1.1,()) (a1.2.1,()) (u1.1,()) ((0:Int),()) r1.1 r1.2.1) fun r116=>
 .ob (Av (a0.1,r115.2.2.1,r115.2.2.2.1,()) ((5:Int),())) fun r117=>
 .br r117.1.1 (
 .ob (B8 (a0.1,r117.2.2.1,r117.2.2.2.1,()) r116.1) fun r118=>
 .leaf (r118.1,(a0.1,r118.2.2.1,r118.2.2.2.1,()))) (
 .leaf (r116.1,(a0.1,r117.2.2.1,r117.2.2.2.1,())))) (
 .ob (Bz (u1.2.1,()) ((i64.wrap ((1:Int)-a1.1)),()) (a1.2.1,()) (u1.1,()) ((0:Int),()) r1.1 r1.2.1) fun r119=>
 .ob (Av (a0.1,r115.2.2.1,r115.2.2.2.1,()) ((5:Int),())) fun r120=>
 .br r120.1.1 (
 .ob (B8 (a0.1,r120.2.2.1,r120.2.2.2.1,()) r119.1) fun r121=>
 .leaf (r121.1,(a0.1,r121.2.2.1,r121.2.2.2.1,()))) (
 .leaf (r119.1,(a0.1,r120.2.2.1,r120.2.2.2.1,()))))) (
 .ob (Av (a0.1,r114.2.2.1,r114.2.2.2.1,()) ((10:Int),())) fun r122=>
 .br r122.1.1 (
 .ob (Bz (u1.2.1,()) (a1.1,()) (a1.2.1,()) (u1.1,()) ((i64.wrap (u2.1+r114.1.1)),()) r1.1 r1.2.1) fun r123=>
 .ob (Av (a0.1,r122.2.2.1,r122.2.2.2.1,()) ((5:Int),())) fun r124=>
 .br r124.1.1 (
 .ob (B8 (a0.1,r124.2.2.1,r124.2.2.2.1,()) r123.1) fun r125=>
 .leaf (r125.1,(a0.1,r125.2.2.1,r125.2.2.2.1,()))) (
 .leaf (r123.1,(a0.1,r124.2.2.1,r124.2.2.2.1,())))) (
 .ob (Bz (u1.2.1,()) ((i64.wrap ((1:Int)-a1.1)),()) (a1.2.1,()) (u1.1,()) ((i64.wrap (u2.1+r114.1.1)),()) r1.1 r1.2.1) fun r126=>
 .ob (Av (a0.1,r122.2.2.1,r122.2.2.2.1,()) ((5:Int),())) fun r127=>
 .br r127.1.1 (
 .ob (B8 (a0.1,r127.2.2.1,r127.2.2.2.1,()) r126.1) fun r128=>
 .leaf (r128.1,(a0.1,r128.2.2.1,r128.2.2.2.1,()))) (
 .leaf (r126.1,(a0.1,r127.2.2.1,r127.2.2.2.1,()))))))) (
 .ob (B9 (a0.1,u6.1,u6.2.1,()) ([((1:Int),()),((1:Int),()),((2:Int),()),((0:Int),()),((-1:Int),()),((5:Int),())],())) fun r129=>
 .br (decide ((i64.wrap (u2.1+r129.1.1))<(0:Int))) (
 .ob (Av (a0.1,r129.2.2.1,r129.2.2.2.1,()) ((10:Int),())) fun r130=>
 .br r130.1.1 (
 .ob (Bz (u1.2.1,()) (a1.1,()) (a1.2.1,()) (u1.1,()) ((0:Int),()) r1.1 r1.2.1) fun r131=>
 .ob (Av (a0.1,r130.2.2.1,r130.2.2.2.1,()) ((5:Int),())) fun r132=>
 .br r132.1.1 (
 .ob (B8 (a0.1,r132.2.2.1,r132.2.2.2.1,()) r131.1) fun r133=>
 .leaf (r133.1,(a0.1,r133.2.2.1,r133.2.2.2.1,()))) (
 .leaf (r131.1,(a0.1,r132.2.2.1,r132.2.2.2.1,())))) (
 .ob (Bz (u1.2.1,()) ((i64.wrap ((1:Int)-a1.1)),()) (a1.2.1,()) (u1.1,()) ((0:Int),()) r1.1 r1.2.1) fun r134=>
 .ob (Av (a0.1,r130.2.2.1,r130.2.2.2.1,()) ((5:Int),())) fun r135=>
 .br r135.1.1 (
 .ob (B8 (a0.1,r135.2.2.1,r135.2.2.2.1,()) r134.1) fun r136=>
 .leaf (r136.1,(a0.1,r136.2.2.1,r136.2.2.2.1,()))) (
 .leaf (r134.1,(a0.1,r135.2.2.1,r135.2.2.2.1,()))))) (
 .ob (Av (a0.1,r129.2.2.1,r129.2.2.2.1,()) ((10:Int),())) fun r137=>
 .br r137.1.1 (
 .ob (Bz (u1.2.1,()) (a1.1,()) (a1.2.1,()) (u1.1,()) ((i64.wrap (u2.1+r129.1.1)),()) r1.1 r1.2.1) fun r138=>
 .ob (Av (a0.1,r137.2.2.1,r137.2.2.2.1,()) ((5:Int),())) fun r139=>
 .br r139.1.1 (
 .ob (B8 (a0.1,r139.2.2.1,r139.2.2.2.1,()) r138.1) fun r140=>
 .leaf (r140.1,(a0.1,r140.2.2.1,r140.2.2.2.1,()))) (
 .leaf (r138.1,(a0.1,r139.2.2.1,r139.2.2.2.1,())))) (
 .ob (Bz (u1.2.1,()) ((i64.wrap ((1:Int)-a1.1)),()) (a1.2.1,()) (u1.1,()) ((i64.wrap (u2.1+r129.1.1)),()) r1.1 r1.2.1) fun r141=>
 .ob (Av (a0.1,r137.2.2.1,r137.2.2.2.1,()) ((5:Int),())) fun r142=>
 .br r142.1.1 (
 .ob (B8 (a0.1,r142.2.2.1,r142.2.2.2.1,()) r141.1) fun r143=>
 .leaf (r143.1,(a0.1,r143.2.2.1,r143.2.2.2.1,()))) (
 .leaf (r141.1,(a0.1,r142.2.2.1,r142.2.2.2.1,())))))))
def Xh (a0:Aw) (a1:Ap):Option (Aq×Aw):=(Afd a0 a1).val
def Acs (a0:YI):Tree (YBs):=
 .ob (Bt a0 ((0:Int),()) ((4294967295:Int),())) fun r1=>
 .br (!r1.1) (
 .leaf (([]:List YB),())) (
 .ob (En (([]:List YB),()) a0 ((4:Int),())) fun r2=>
 .leaf r2)
def Fa (a0:YI):Option (YBs):=(Acs a0).val
def Aoc (a0:Aw):Tree (A7×Aw):=
 .ob (Av a0 ((3:Int),())) fun r1=>
 .br r1.1.1 (
 .ob (Bi (a0.1,r1.2.2.1,r1.2.2.2.1,()) ((16777216:Int),())) fun r2=>
 .ob (Kc (a0.1,r2.2.2.1,r2.2.2.2.1,())) fun r3=>
 .ob (Bi (a0.1,r3.2.2.1,r3.2.2.2.1,()) ((65536:Int),())) fun r4=>
 .leaf (((i64.wrap ((i64.wrap (r2.1.1*(256:Int)))+r3.1.1)),r4.1.1,()),(a0.1,r4.2.2.1,r4.2.2.2.1,()))) (
 .ob (Bi (a0.1,r1.2.2.1,r1.2.2.2.1,()) ((6:Int),())) fun r5=>
 .ob (H4 r5.1) fun r6=>
 .leaf (r6,(a0.1,r5.2.2.1,r5.2.2.2.1,())))
def Apt (a0:Aw):Option (A7×Aw):=(Aoc a0).val
def Atm (a0:Aw):Tree (YI×Aw):=
 .ob (B9 a0 ([((-1:Int),()),((0:Int),()),((1:Int),()),((2:Int),()),((255:Int),()),((256:Int),()),((65535:Int),()),((2147483647:Int),()),((2147483648:Int),()),((4294967295:Int),()),((4294967296:Int),()),((-2147483648:Int),()),((9223372036854775807:Int),()),((-9223372036854775808:Int),())],())) fun r1=>
 .leaf (r1.1,(a0.1,r1.2.2.1,r1.2.2.2.1,()))
def Auu (a0:Aw):Option (YI×Aw):=(Atm a0).val
def Atn (a0:Aw):Tree (A7×Aw):=
 .ob (Apt a0) fun r1=>
 .ob (Bi (a0.1,r1.2.2.1,r1.2.2.2.1,()) ((10:Int),())) fun r2=>letI u1:=r2.2.2;
 .br (r2.1.1==(0:Int)) (
 .ob (Auu (a0.1,u1.1,u1.2.1,())) fun r3=>
 .leaf ((r3.1.1,r1.1.2.1,()),(a0.1,r3.2.2.1,r3.2.2.2.1,()))) (
 .br (r2.1.1==(1:Int)) (
 .ob (B9 (a0.1,u1.1,u1.2.1,()) ([((-1:Int),()),((65535:Int),()),((65536:Int),()),((0:Int),())],())) fun r4=>
 .leaf ((r1.1.1,r4.1.1,()),(a0.1,r4.2.2.1,r4.2.2.2.1,()))) (
 .leaf (r1.1,(a0.1,u1.1,u1.2.1,()))))
def Gj (a0:Aw):Option (A7×Aw):=(Atn a0).val
def Afe (a0:Aw) (a1:Ak):Tree (A7×Aq×Aw):=
 letI u1:=a1.2.2;letI u2:=u1.2.2.2;letI u3:=u2.2.2.2;letI u4:=u3.2.2;letI u5:=u4.2.2.2;letI u6:=u5.2.2;letI u7:=u6.2.2.2;.ob (Av a0 ((2:Int),())) fun r1=>
 .br r1.1.1 (
 .ob (Bi (a0.1,r1.2.2.1,r1.2.2.2.1,()) ((7:Int),())) fun r2=>
 .ob (H4 ((i64.wrap ((1:Int)+r2.1.1)),())) fun r3=>
 .ob (Xh (a0.1,r2.2.2.1,r2.2.2.2.1,()) (u1.2.1,u1.2.2.1,u2.1,u2.2.1,u2.2.2.1,u3.1,u3.2.1,u4.1,u4.2.1,u4.2.2.1,u5.1,u5.2.1,u6.1,u6.2.1,u6.2.2.1,())) fun r4=>
 .ob (Bi (a0.1,r4.2.2.1,r4.2.2.2.1,()) ((5:Int),())) fun r5=>letI u8:=r5.2.2;
 .br (r5.1.1==(0:Int)) (
 .br (decide ((a1.2.2.2.2.2.2.2.2.2.2.2.2.2.2.2.2.2.2.2.2.1.length:Int)>(0:Int))) (
 .ob (Bi (a0.1,u8.1,u8.2.1,()) ((a1.2.2.2.2.2.2.2.2.2.2.2.2.2.2.2.2.2.2.2.2.1.length:Int),())) fun r6=>
 .ob (idx u7.2.2.1 r6.1.1) fun e7=>
 .ob (Bz (u2.2.1,()) ((0:Int),()) (u1.1,()) (u2.1,()) ((i64.wrap (u3.1+(1:Int))),()) ((6:Int),()) (e7.2.2.1,())) fun r8=>
 .ob (Av (a0.1,r6.2.2.1,r6.2.2.2.1,()) ((12:Int),())) fun r9=>
 .br r9.1.1 (
 .ob (Gj (a0.1,r9.2.2.1,r9.2.2.2.1,())) fun r10=>
 .leaf (r10.1,r8.1,(a0.1,r10.2.2.1,r10.2.2.2.1,()))) (
 .leaf ((e7.1,e7.2.1,()),r8.1,(a0.1,r9.2.2.1,r9.2.2.2.1,())))) (
 .ob (Av (a0.1,u8.1,u8.2.1,()) ((12:Int),())) fun r11=>
 .br r11.1.1 (
 .ob (Gj (a0.1,r11.2.2.1,r11.2.2.2.1,())) fun r12=>
 .leaf (r12.1,r4.1,(a0.1,r12.2.2.1,r12.2.2.2.1,()))) (
 .leaf (r3,r4.1,(a0.1,r11.2.2.1,r11.2.2.2.1,()))))) (
 .br (r5.1.1==(1:Int)) (
 .br u6.1 (
 .ob (Av (a0.1,u8.1,u8.2.1,()) ((2:Int),())) fun r13=>
 .br r13.1.1 (
 .ob (Fa ((i64.wrap (u4.1+(1:Int))),())) fun r14=>
 .ob (Bz (u4.2.1,()) ((0:Int),()) (u1.1,()) (u4.1,()) ((i64.wrap (u5.1+(1:Int))),()) ((7:Int),()) r14) fun r15=>
 .ob (Av (a0.1,r13.2.2.1,r13.2.2.2.1,()) ((12:Int),())) fun r16=>
 .br r16.1.1 (
 .ob (Gj (a0.1,r16.2.2.1,r16.2.2.2.1,())) fun r17=>
 .leaf (r17.1,r15.1,(a0.1,r17.2.2.1,r17.2.2.2.1,()))) (
 .leaf (r3,r15.1,(a0.1,r16.2.2.1,r16.2.2.2.1,())))) (
 .ob (Fa ((i64.wrap (u2.1+(1:Int))),())) fun r18=>
 .ob (Bz (u2.2.1,()) ((0:Int),()) (u1.1,()) (u2.1,()) ((i64.wrap (u3.1+(1:Int))),()) ((7:Int),()) r18) fun r19=>
 .ob (Av (a0.1,r13.2.2.1,r13.2.2.2.1,()) ((12:Int),())) fun r20=>
 .br r20.1.1 (
 .ob (Gj (a0.1,r20.2.2.1,r20.2.2.2.1,())) fun r21=>
 .leaf (r21.1,r19.1,(a0.1,r21.2.2.1,r21.2.2.2.1,()))) (
 .leaf (r3,r19.1,(a0.1,r20.2.2.1,r20.2.2.2.1,()))))) (
 .ob (Fa ((i64.wrap (u2.1+(1:Int))),())) fun r22=>
 .ob (Bz (u2.2.1,()) ((0:Int),()) (u1.1,()) (u2.1,()) ((i64.wrap (u3.1+(1:Int))),()) ((7:Int),()) r22) fun r23=>
 .ob (Av (a0.1,u8.1,u8.2.1,()) ((12:Int),())) fun r24=>
 .br r24.1.1 (
 .ob (Gj (a0.1,r24.2.2.1,r24.2.2.2.1,())) fun r25=>
 .leaf (r25.1,r23.1,(a0.1,r25.2.2.1,r25.2.2.2.1,()))) (
 .leaf (r3,r23.1,(a0.1,r24.2.2.1,r24.2.2.2.1,()))))) (
 .ob (Av (a0.1,u8.1,u8.2.1,()) ((12:Int),())) fun r26=>
 .br r26.1.1 (
 .ob (Gj (a0.1,r26.2.2.1,r26.2.2.2.1,())) fun r27=>
 .leaf (r27.1,r4.1,(a0.1,r27.2.2.1,r27.2.2.2.1,()))) (
 .leaf (r3,r4.1,(a0.1,r26.2.2.1,r26.2.2.2.1,())))))) (
 .ob (Xh (a0.1,r1.2.2.1,r1.2.2.2.1,()) (u1.2.1,u1.2.2.1,u2.1,u2.2.1,u2.2.2.1,u3.1,u3.2.1,u4.1,u4.2.1,u4.2.2.1,u5.1,u5.2.1,u6.1,u6.2.1,u6.2.2.1,())) fun r28=>
 .ob (Bi (a0.1,r28.2.2.1,r28.2.2.2.1,()) ((5:Int),())) fun r29=>letI u9:=r29.2.2;
 .br (r29.1.1==(0:Int)) (
 .br (decide ((a1.2.2.2.2.2.2.2.2.2.2.2.2.2.2.2.2.2.2.2.2.1.length:Int)>(0:Int))) (
 .ob (Bi (a0.1,u9.1,u9.2.1,()) ((a1.2.2.2.2.2.2.2.2.2.2.2.2.2.2.2.2.2.2.2.2.1.length:Int),())) fun r30=>
 .ob (idx u7.2.2.1 r30.1.1) fun e31=>
 .ob (Bz (u2.2.1,()) ((0:Int),()) (u1.1,()) (u2.1,()) ((i64.wrap (u3.1+(1:Int))),()) ((6:Int),()) (e31.2.2.1,())) fun r32=>
 .ob (Av (a0.1,r30.2.2.1,r30.2.2.2.1,()) ((12:Int),())) fun r33=>
 .br r33.1.1 (
 .ob (Gj (a0.1,r33.2.2.1,r33.2.2.2.1,())) fun r34=>
 .leaf (r34.1,r32.1,(a0.1,r34.2.2.1,r34.2.2.2.1,()))) (
 .leaf ((e31.1,e31.2.1,()),r32.1,(a0.1,r33.2.2.1,r33.2.2.2.1,())))) (
 .ob (Av (a0.1,u9.1,u9.2.1,()) ((12:Int),())) fun r35=>
 .br r35.1.1 (
 .ob (Gj (a0.1,r35.2.2.1,r35.2.2.2.1,())) fun r36=>
 .leaf (r36.1,r28.1,(a0.1,r36.2.2.1,r36.2.2.2.1,()))) (
 .leaf ((u7.1,u7.2.1,()),r28.1,(a0.1,r35.2.2.1,r35.2.2.2.1,()))))) (
 .br (r29.1.1==(1:Int)) (
 .br u6.1 (
 .ob (Av (a0.1,u9.1,u9.2.1,()) ((2:Int),())) fun r37=>
 .br r37.1.1 (
 .ob (Fa ((i64.wrap (u4.1+(1:Int))),())) fun r38=>
 .ob (Bz (u4.2.1,()) ((0:Int),()) (u1.1,()) (u4.1,()) ((i64.wrap (u5.1+(1:Int))),()) ((7:Int),()) r38) fun r39=>
 .ob (Av (a0.1,r37.2.2.1,r37.2.2.2.1,()) ((12:Int),())) fun r40=>
 .br r40.1.1 (
 .ob (Gj (a0.1,r40.2.2.1,r40.2.2.2.1,())) fun r41=>
 .leaf (r41.1,r39.1,(a0.1,r41.2.2.1,r41.2.2.2.1,()))) (
 .leaf ((u7.1,u7.2.1,()),r39.1,(a0.1,r40.2.2.1,r40.2.2.2.1,())))) (
 .ob (Fa ((i64.wrap (u2.1+(1:Int))),())) fun r42=>
 .ob (Bz (u2.2.1,()) ((0:Int),()) (u1.1,()) (u2.1,()) ((i64.wrap (u3.1+(1:Int))),()) ((7:Int),()) r42) fun r43=>
 .ob (Av (a0.1,r37.2.2.1,r37.2.2.2.1,()) ((12:Int),())) fun r44=>
 .br r44.1.1 (
 .ob (Gj (a0.1,r44.2.2.1,r44.2.2.2.1,())) fun r45=>
 .leaf (r45.1,r43.1,(a0.1,r45.2.2.1,r45.2.2.2.1,()))) (
 .leaf ((u7.1,u7.2.1,()),r43.1,(a0.1,r44.2.2.1,r44.2.2.2.1,()))))) (
 .ob (Fa ((i64.wrap (u2.1+(1:Int))),())) fun r46=>
 .ob (Bz (u2.2.1,()) ((0:Int),()) (u1.1,()) (u2.1,()) ((i64.wrap (u3.1+(1:Int))),()) ((7:Int),()) r46) fun r47=>
 .ob (Av (a0.1,u9.1,u9.2.1,()) ((12:Int),())) fun r48=>
 .br r48.1.1 (
 .ob (Gj (a0.1,r48.2.2.1,r48.2.2.2.1,())) fun r49=>
 .leaf (r49.1,r47.1,(a0.1,r49.2.2.1,r49.2.2.2.1,()))) (
 .leaf ((u7.1,u7.2.1,()),r47.1,(a0.1,r48.2.2.1,r48.2.2.2.1,()))))) (
 .ob (Av (a0.1,u9.1,u9.2.1,()) ((12:Int),())) fun r50=>
 .br r50.1.1 (
 .ob (Gj (a0.1,r50.2.2.1,r50.2.2.2.1,())) fun r51=>
 .leaf (r51.1,r28.1,(a0.1,r51.2.2.1,r51.2.2.2.1,()))) (
 .leaf ((u7.1,u7.2.1,()),r28.1,(a0.1,r50.2.2.1,r50.2.2.2.1,()))))))
def Agm (a0:Aw) (a1:Ak):Option (A7×Aq×Aw):=(Afe a0 a1).val
def O8 (a0:Aw) (j:YBs) (r2:A7) (r3:YI×Aw) (e:YBs) (x:Int) (cn sn:YBs) (c:Aw):Tree (YI×A7×YBs×Aw):=
 .ob (Zy j r2 ((i64.wrap ((1:Int)+x)),()) cn sn r3.1) fun r16=>
 .ob (Hd e ((i64.wrap ((1:Int)+x)),()) ((2:Int),(0:Int),cn.1,sn.1,r3.1.1,r16.1,([]:List YB),(0:Int),(0:Int),([]:List YB),([]:List YB),())) fun r17=>
 .ob (Lh r17.1) fun r18=>
 .ob (Av c ((3:Int),())) fun r19=>
 .br r19.1.1 (
 .ob (I0 (a0.1,r19.2.2.1,r19.2.2.2.1,()) r18) fun r20=>
 .ob (B9 (a0.1,r20.2.2.1,r20.2.2.2.1,()) ([((0:Int),()),((0:Int),()),((0:Int),()),((10:Int),()),((11:Int),())],())) fun r21=>
 .leaf (((i64.wrap (r3.1.1+r21.1.1)),()),r2,r20.1,(a0.1,r21.2.2.1,r21.2.2.2.1,()))) (
 .ob (B9 (a0.1,r19.2.2.1,r19.2.2.2.1,()) ([((0:Int),()),((0:Int),()),((0:Int),()),((10:Int),()),((11:Int),())],())) fun r22=>
 .leaf (((i64.wrap (r3.1.1+r22.1.1)),()),r2,r18,(a0.1,r22.2.2.1,r22.2.2.2.1,())))
def A0m (a0:Aw) (a1:Bs) (r2:A7) (r3:YI×Aw) (r4:YI×Aw):Tree (YI×A7×YBs×Aw):=
 .ob (Dg (a0.1,r4.2.2.1,r4.2.2.2.1,()) ((12:Int),())) fun r8=>
 .ob (Dg (a0.1,r8.2.2.1,r8.2.2.2.1,()) ((12:Int),())) fun r9=>
 .ob (Bi (a0.1,r9.2.2.1,r9.2.2.2.1,()) ((3:Int),())) fun r10=>letI u1:=r10.2.2;
 .br (decide ((i64.wrap ((1:Int)+r10.1.1))<=(a1.1.length:Int))) (
 .ob (idx a1.1 (i64.wrap ((i64.wrap ((1:Int)+r10.1.1))-(1:Int)))) fun e11=>
 .br (decide ((a1.2.2.2.2.2.1.length:Int)>(0:Int))) (
 .ob (Av (a0.1,u1.1,u1.2.1,()) ((3:Int),())) fun r12=>
 .br r12.1.1 (
 .ob (Bi (a0.1,r12.2.2.1,r12.2.2.2.1,()) ((a1.2.2.2.2.2.1.length:Int),())) fun r13=>
 .ob (idx a1.2.2.2.2.2.1 r13.1.1) fun e14=>
 .ob (Av (a0.1,r13.2.2.1,r13.2.2.2.1,()) ((2:Int),())) fun r15=>
 .br r15.1.1 (
 O8 a0 (a1.2.1,()) r2 r3 e11 r10.1.1 (e14.2.1,()) (e14.2.2.1,()) (a0.1,r15.2.2.1,r15.2.2.2.1,())) (
 O8 a0 (a1.2.1,()) r2 r3 e11 r10.1.1 r8.1 (e14.2.2.1,()) (a0.1,r15.2.2.1,r15.2.2.2.1,()))) (
 O8 a0 (a1.2.1,()) r2 r3 e11 r10.1.1 r8.1 r9.1 (a0.1,r12.2.2.1,r12.2.2.2.1,()))) (
 O8 a0 (a1.2.1,()) r2 r3 e11 r10.1.1 r8.1 r9.1 (a0.1,u1.1,u1.2.1,()))) (
 .br (decide ((a1.2.2.2.2.2.1.length:Int)>(0:Int))) (
 .ob (Av (a0.1,u1.1,u1.2.1,()) ((3:Int),())) fun r44=>
 .br r44.1.1 (
 .ob (Bi (a0.1,r44.2.2.1,r44.2.2.2.1,()) ((a1.2.2.2.2.2.1.length:Int),())) fun r45=>
 .ob (idx a1.2.2.2.2.2.1 r45.1.1) fun e46=>
 .ob (Av (a0.1,r45.2.2.1,r45.2.2.2.1,()) ((2:Int),())) fun r47=>
 .br r47.1.1 (
 O8 a0 (a1.2.1,()) r2 r3 ([((1:Int),())],()) r10.1.1 (e46.2.1,()) (e46.2.2.1,()) (a0.1,r47.2.2.1,r47.2.2.2.1,())) (
 O8 a0 (a1.2.1,()) r2 r3 ([((1:Int),())],()) r10.1.1 r8.1 (e46.2.2.1,()) (a0.1,r47.2.2.1,r47.2.2.2.1,()))) (
 O8 a0 (a1.2.1,()) r2 r3 ([((1:Int),())],()) r10.1.1 r8.1 r9.1 (a0.1,r44.2.2.1,r44.2.2.2.1,()))) (
 O8 a0 (a1.2.1,()) r2 r3 ([((1:Int),())],()) r10.1.1 r8.1 r9.1 (a0.1,u1.1,u1.2.1,())))
def Aff (a0:Aw) (a1:Bs):Tree (YI×A7×YBs×Aw):=
 .ob (Bi a0 ((9:Int),())) fun r1=>
 .ob (H4 ((i64.wrap ((1:Int)+r1.1.1)),())) fun r2=>
 .ob (B9 (a0.1,r1.2.2.1,r1.2.2.2.1,()) ([((0:Int),()),((5:Int),()),((6:Int),()),((8:Int),()),((300:Int),()),((95:Int),())],())) fun r3=>
 .ob (Bi (a0.1,r3.2.2.1,r3.2.2.2.1,()) ((5:Int),())) fun r4=>letI u1:=r4.2.2;
 .br (r4.1.1==(0:Int)) (
 .ob (Bi (a0.1,u1.1,u1.2.1,()) ((4:Int),())) fun r5=>
 .ob (Dg (a0.1,r5.2.2.1,r5.2.2.2.1,()) ((12:Int),())) fun r6=>
 .ob (Lh ((1:Int),(i64.wrap ((1:Int)+r5.1.1)),r6.1.1,([]:List YB),(0:Int),([]:List YB),([]:List YB),(0:Int),(0:Int),([]:List YB),([]:List YB),())) fun r7=>
 .leaf (r3.1,r2,r7,(a0.1,r6.2.2.1,r6.2.2.2.1,()))) (
 .br (r4.1.1==(1:Int)) (A0m a0 a1 r2 r3 r4) (
 .br (r4.1.1==(2:Int)) (A0m a0 a1 r2 r3 r4) (
 .br (r4.1.1==(3:Int)) (
 .br (decide ((a1.2.2.2.2.2.1.length:Int)>(0:Int))) (
 .ob (Bi (a0.1,u1.1,u1.2.1,()) ((a1.2.2.2.2.2.1.length:Int),())) fun r144=>
 .ob (idx a1.2.2.2.2.2.1 r144.1.1) fun e145=>
 .ob (Agm (a0.1,r144.2.2.1,r144.2.2.2.1,()) e145) fun r146=>
 .ob (B9 (a0.1,r146.2.2.2.1,r146.2.2.2.2.1,()) ([((0:Int),()),((5:Int),()),((6:Int),()),((8:Int),())],())) fun r147=>
 .ob (Lh r146.2.1) fun r148=>
 .leaf (r147.1,r146.1,r148,(a0.1,r147.2.2.1,r147.2.2.2.1,()))) (
 .ob (Bi (a0.1,u1.1,u1.2.1,()) ((80:Int),())) fun r149=>
 .ob (Dg (a0.1,r149.2.2.1,r149.2.2.2.1,()) r149.1) fun r150=>
 .leaf (r3.1,r2,r150.1,(a0.1,r150.2.2.1,r150.2.2.2.1,())))) (
 .ob (Bi (a0.1,u1.1,u1.2.1,()) ((80:Int),())) fun r151=>
 .ob (Dg (a0.1,r151.2.2.1,r151.2.2.2.1,()) r151.1) fun r152=>
 .leaf (r3.1,r2,r152.1,(a0.1,r152.2.2.1,r152.2.2.2.1,()))))))
def Agn (a0:Aw) (a1:Bs):Option (YI×A7×YBs×Aw):=(Aff a0 a1).val
def Sz (a0:YBs):Tree (Bs×YI×A7×YBs):=
 .ob (Aup a0) fun r1=>
 .ob (Ur r1) fun r2=>
 .ob (Agn (r1.1,r2.2.2.1,r2.2.2.2.1,()) r2.1) fun r3=>
 .leaf (r2.1,r3.1,r3.2.1,r3.2.2.1)
def K5 (a0:YBs):Option (Bs×YI×A7×YBs):=(Sz a0).val
def Atq (a0:YBs):Tree (YBs):=
 .chk (decide (([]:List YB).length+a0.1.length<=4294967296)) <|
 .leaf ((([]:List YB)++a0.1),())
def Bk (a0:YBs):Option (YBs):=(Atq a0).val
def Kx (x1:(List YBs)×(List YBs)×Int×Int×Unit):Option (((List YBs)×(List YBs)×Int×Int×Unit)⊕(((List YBs)×Unit))):=
 letI u1:=x1.2.2;Tree.val <|
 .br (decide (u1.2.1<u1.1)) (
 .ob (idx x1.2.1 u1.2.1) fun e2=>
 .ob (Bk e2) fun r3=>
 .chk (decide (x1.1.length+[r3].length<=4294967296)) <|
 .leaf (.inl ((x1.1++[r3]),x1.2.1,u1.1,(i64.wrap (u1.2.1+(1:Int))),()))) (
 .leaf (.inr (x1.1,())))
def Afg (a0:(List YBs)×Unit):Tree (((List YBs)×Unit)):=
 .ob (Ax Kx (([]:List YBs),a0.1,(a0.1.length:Int),(0:Int),())) fun o4=>
 .leaf o4
def Ago (a0:(List YBs)×Unit):Option (((List YBs)×Unit)):=(Afg a0).val
def Ajv (a0:Db):Tree (Db):=
 .chk (decide (([]:List YI).length+a0.2.1.length<=4294967296)) <|
 .leaf (a0.1,(([]:List YI)++a0.2.1),())
def Abo (a0:Db):Option (Db):=(Ajv a0).val
def Aod (a0:YEp):Tree (YEp):=
 .ob (Bk (a0.2.1,())) fun r1=>
 .ob (Abo (a0.2.2.2.1,a0.2.2.2.2.1,())) fun r2=>
 .leaf (a0.1,r1.1,a0.2.2.1,r2.1,r2.2.1,())
def Tg (a0:YEp):Option (YEp):=(Aod a0).val
def Afh (a0:Ap):Tree (Ap):=
 letI u1:=a0.2.2.2;letI u2:=u1.2.2.2;letI u3:=u2.2.2.2.2;.ob (Bk (a0.2.1,())) fun r1=>
 .ob (Bk (u3.2.2.2.2.1,())) fun r2=>
 .ob (Tg (a0.2.2.1,u1.1,u1.2.1,u1.2.2.1,u2.1,())) fun r3=>
 .ob (Tg (u2.2.1,u2.2.2.1,u2.2.2.2.1,u3.1,u3.2.1,())) fun r4=>
 .leaf (a0.1,r1.1,r3.1,r3.2.1,r3.2.2.1,r3.2.2.2.1,r3.2.2.2.2.1,r4.1,r4.2.1,r4.2.2.1,r4.2.2.2.1,r4.2.2.2.2.1,u3.2.2.1,u3.2.2.2.1,r2.1,())
def H5 (a0:Ap):Option (Ap):=(Afh a0).val
def Jq (x1:(List A8)×Int×Int×Int×Int×(List A8)×Int×Int×(List A8)×Unit):Option (((List A8)×Int×Int×Int×Int×(List A8)×Int×Int×(List A8)×Unit)⊕((Int×Int×(List A8)×Int×Int×(List A8)×Unit))):=
 letI u1:=x1.2.2;letI u2:=u1.2.2;letI u3:=u2.2.2;Tree.val <|
 .br (decide (u1.1<x1.2.1)) (
 .ob (idx x1.1 u1.1) fun e2=>
 .ob (Bk (e2.2.2.1,())) fun r3=>
 .chk (decide (x1.2.2.2.2.2.2.2.2.1.length+[(e2.1,e2.2.1,r3.1,e2.2.2.2.1,())].length<=4294967296)) <|
 .leaf (.inl (x1.1,x1.2.1,(i64.wrap (u1.1+(1:Int))),u1.2.1,u2.1,u2.2.1,u3.1,u3.2.1,(u3.2.2.1++[(e2.1,e2.2.1,r3.1,e2.2.2.2.1,())]),()))) (
 .leaf (.inr (u1.2.1,u2.1,u2.2.1,u3.1,u3.2.1,u3.2.2.1,())))
def Acu (a0:Bm):Tree (Bm):=
 .ob (Ax Jq (a0.2.2.1,(a0.2.2.1.length:Int),(0:Int),(0:Int),(0:Int),([]:List A8),a0.1,a0.2.1,([]:List A8),())) fun o4=>
 .leaf (o4.2.2.2.1,o4.2.2.2.2.1,o4.2.2.2.2.2.1,())
def Fb (a0:Bm):Option (Bm):=(Acu a0).val
def Afi (a0:Ak):Tree (Ak):=
 letI u1:=a0.2.2.2;letI u2:=u1.2.2.2;letI u3:=u2.2.2.2;letI u4:=u3.2.2.2;letI u5:=u4.2.2.2;letI u6:=u5.2.2.2.2;.ob (Bk (a0.2.1,())) fun r1=>
 .ob (Bk (a0.2.2.1,())) fun r2=>
 .ob (H5 (u1.1,u1.2.1,u1.2.2.1,u2.1,u2.2.1,u2.2.2.1,u3.1,u3.2.1,u3.2.2.1,u4.1,u4.2.1,u4.2.2.1,u5.1,u5.2.1,u5.2.2.1,())) fun r3=>letI u7:=r3.2.2.2;letI u8:=u7.2.2.2;letI u9:=u8.2.2.2.2;
 .ob (Fb (u5.2.2.2.1,u6.1,u6.2.1,())) fun r4=>
 .leaf (a0.1,r1.1,r2.1,r3.1,r3.2.1,r3.2.2.1,u7.1,u7.2.1,u7.2.2.1,u8.1,u8.2.1,u8.2.2.1,u8.2.2.2.1,u9.1,u9.2.1,u9.2.2.1,u9.2.2.2.1,u9.2.2.2.2.1,r4.1,r4.2.1,r4.2.2.1,u6.2.2.1,u6.2.2.2.1,u6.2.2.2.2.1,())
def Ja (a0:Ak):Option (Ak):=(Afi a0).val
def L8 (x1:(List Ak)×Int×Int×Int×(List Ak)×Int×(List Ak)×Unit):Option (((List Ak)×Int×Int×Int×(List Ak)×Int×(List Ak)×Unit)⊕((Int×(List Ak)×Int×(List Ak)×Unit))):=
 letI u1:=x1.2.2;letI u2:=u1.2.2;Tree.val <|
 .br (decide (u1.1<x1.2.1)) (
 .ob (idx x1.1 u1.1) fun e2=>
 .ob (Ja e2) fun r3=>
 .chk (decide (x1.2.2.2.2.2.2.1.length+[r3].length<=4294967296)) <|
 .leaf (.inl (x1.1,x1.2.1,(i64.wrap (u1.1+(1:Int))),u1.2.1,u2.1,u2.2.1,(u2.2.2.1++[r3]),()))) (
 .leaf (.inr (u1.2.1,u2.1,u2.2.1,u2.2.2.1,())))
def Ajx (a0:Ch):Tree (Ch):=
 .ob (Ax L8 (a0.2.1,(a0.2.1.length:Int),(0:Int),(0:Int),([]:List Ak),a0.1,([]:List Ak),())) fun o4=>
 .leaf (o4.2.2.1,o4.2.2.2.1,())
def Qn (a0:Ch):Option (Ch):=(Ajx a0).val
def Ww (a0:(List Ao)×Unit):Tree (((List Ao)×Unit)):=
 .chk (decide (([]:List Ao).length+a0.1.length<=4294967296)) <|
 .leaf ((([]:List Ao)++a0.1),())
def Mm (a0:(List Ao)×Unit):Option (((List Ao)×Unit)):=(Ww a0).val
def Zs (a0:Bs):Tree (Bs):=
 letI u1:=a0.2.2.2;.ob (Ago (a0.1,())) fun r1=>
 .ob (Bk (a0.2.1,())) fun r2=>
 .ob (Bk (a0.2.2.1,())) fun r3=>
 .ob (Qn (u1.2.1,u1.2.2.1,())) fun r4=>
 .ob (Mm (u1.2.2.2.1,())) fun r5=>
 .leaf (r1.1,r2.1,r3.1,u1.1,r4.1,r4.2.1,r5.1,())
def Zz (a0:Bs):Option (Bs):=(Zs a0).val
def Aoe (a0:YI) (a1:YI) (a2:YI):Tree ((Bool×Unit)):=
 .br (decide (a0.1≥a1.1)) (
 .leaf ((decide (a0.1<=a2.1)),())) (
 .leaf (false,()))
def Bh (a0:YI) (a1:YI) (a2:YI):Option ((Bool×Unit)):=(Aoe a0 a1 a2).val
def A7p (a0:YBs):Tree ((Bool×Unit)):=
 .leaf (((a0.1.length:Int)==(32:Int)),())
def Aib (a0:YBs):Option ((Bool×Unit)):=(A7p a0).val
def Aoh (a0:Gc):Tree ((Bool×Unit)):=
 .ob (Bh ((a0.1.length:Int),()) ((1:Int),()) ((32:Int),())) fun r1=>
 .br r1.1 (
 .ob (Bh (a0.2.1,()) ((0:Int),()) ((10000:Int),())) fun r2=>
 .leaf r2) (
 .leaf (false,()))
def Ad1 (a0:Gc):Option ((Bool×Unit)):=(Aoh a0).val
def Kb (x1:Int×(List Ak)×Int×Int×Unit):Option ((Int×(List Ak)×Int×Int×Unit)⊕(YI)):=
 letI u1:=x1.2.2;Tree.val <|
 .br (decide (u1.2.1<u1.1)) (
 .ob (idx x1.2.1 u1.2.1) fun e2=>
 .br (!e2.2.2.2.2.2.2.2.2.2.2.2.2.2.2.2.2.2.2.2.2.2.2.2.1) (
 .leaf (.inl ((i64.wrap (x1.1+(1:Int))),x1.2.1,u1.1,(i64.wrap (u1.2.1+(1:Int))),()))) (
 .leaf (.inl (x1.1,x1.2.1,u1.1,(i64.wrap (u1.2.1+(1:Int))),())))) (
 .leaf (.inr (x1.1,())))
def Aoj (a0:Ch):Tree (YI):=
 .ob (Ax Kb ((0:Int),a0.2.1,(a0.2.1.length:Int),(0:Int),())) fun o3=>
 .leaf o3
def G4 (a0:Ch):Option (YI):=(Aoj a0).val
def Ax4 (a0:YBs):Tree ((Bool×Unit)):=
 .leaf (((a0.1.length:Int)==(12:Int)),())
def Dw (a0:YBs):Option ((Bool×Unit)):=(Ax4 a0).val
def Arv (a0:YBs) (a1:YBs):Tree ((Bool×Unit)):=
 .leaf ((decide ((Qr a0.1)=(Qr a1.1))),())
def Cf (a0:YBs) (a1:YBs):Option ((Bool×Unit)):=(Arv a0 a1).val
def Alo (x1:(List YI)×(List YI)×Int×Int×Unit):Option (((List YI)×(List YI)×Int×Int×Unit)⊕((Bool×Unit)⊕(Unit))):=
 letI u1:=x1.2.2;Tree.val <|
 .br (decide (u1.2.1<u1.1)) (
 .ob (idx x1.2.1 u1.2.1) fun e2=>
 .ob (idx x1.1 u1.2.1) fun e3=>
 .br (e2.1 != e3.1) (
 .leaf (.inr (.inl (false,())))) (
 .leaf (.inl (x1.1,x1.2.1,u1.1,(i64.wrap (u1.2.1+(1:Int))),())))) (
 .leaf (.inr (.inr ())))
def Afk (a0:(List YI)×Unit) (a1:(List YI)×Unit):Tree ((Bool×Unit)):=
 .br ((a0.1.length:Int) != (a1.1.length:Int)) (
 .leaf (false,())) (
 .ob (Ax Alo (a1.1,a0.1,(a0.1.length:Int),(0:Int),())) fun o4=>
 .sm o4 (fun o5=>
 .leaf o5) (fun o6=>
 .leaf (true,())))
def Agp (a0:(List YI)×Unit) (a1:(List YI)×Unit):Option ((Bool×Unit)):=(Afk a0 a1).val
def Aol (a0:YEp) (a1:YEp):Tree ((Bool×Unit)):=
 .br (a0.1==a1.1) (
 .ob (Cf (a0.2.1,()) (a1.2.1,())) fun r1=>
 .br r1.1 (
 .br (a0.2.2.1==a1.2.2.1) (
 .br (a0.2.2.2.1==a1.2.2.2.1) (
 .ob (Agp (a0.2.2.2.2.1,()) (a1.2.2.2.2.1,())) fun r2=>
 .leaf r2) (
 .leaf (false,()))) (
 .leaf (false,()))) (
 .leaf (false,()))) (
 .leaf (false,()))
def Xi (a0:YEp) (a1:YEp):Option ((Bool×Unit)):=(Aol a0 a1).val
def Zt (a0:Ap):Tree ((Bool×Unit)):=
 letI u1:=a0.2.2.2;letI u2:=u1.2.2.2;letI u3:=u2.2.2.2;.br (a0.1==(0:Int)) (
 .br ((a0.2.1.length:Int)==(0:Int)) (
 .ob (Xi (a0.2.2.1,u1.1,u1.2.1,u1.2.2.1,u2.1,()) ((0:Int),([]:List YB),(0:Int),(0:Int),([]:List YI),())) fun r1=>
 .br r1.1 (
 .ob (Xi (u2.2.1,u2.2.2.1,u3.1,u3.2.1,u3.2.2.1,()) ((0:Int),([]:List YB),(0:Int),(0:Int),([]:List YI),())) fun r2=>
 .br r2.1 (
 .br (!u3.2.2.2.1) (
 .br (u3.2.2.2.2.1==(0:Int)) (
 .leaf (((a0.2.2.2.2.2.2.2.2.2.2.2.2.2.2.1.length:Int)==(0:Int)),())) (
 .leaf (false,()))) (
 .leaf (false,()))) (
 .leaf (false,()))) (
 .leaf (false,()))) (
 .leaf (false,()))) (
 .leaf (false,()))
def Z0 (a0:Ap):Option ((Bool×Unit)):=(Zt a0).val
def Aom (a0:YI):Tree ((Bool×Unit)):=
 .br (a0.1==(0:Int)) (
 .leaf (true,())) (
 .leaf ((a0.1==(1:Int)),()))
def O9 (a0:YI):Option ((Bool×Unit)):=(Aom a0).val
def Nu (x1:(List YI)×Int×(List YI)×Int×Int×Unit):Option (((List YI)×Int×(List YI)×Int×Int×Unit)⊕((Bool×Unit)⊕((List YI)×Int×Unit))):=
 letI u1:=x1.2.2;Tree.val <|
 .br (decide (u1.2.2.1<u1.2.1)) (
 .ob (idx u1.1 u1.2.2.1) fun e2=>
 .ob (Bh e2 ((0:Int),()) ((4294967295:Int),())) fun r3=>
 .br (!r3.1) (
 .leaf (.inr (.inl (false,())))) (
 .leaf (.inl (x1.1,x1.2.1,u1.1,u1.2.1,(i64.wrap (u1.2.2.1+(1:Int))),())))) (
 .leaf (.inr (.inr (x1.1,x1.2.1,()))))
def Afl (a0:(List YI)×Unit) (a1:YI):Tree ((Bool×Unit)):=
 .ob (Ax Nu (a0.1,a1.1,a0.1,(a0.1.length:Int),(0:Int),())) fun o4=>
 .sm o4 (fun o5=>
 .leaf o5) (fun o6=>
 .leaf (((o6.1.length:Int)==o6.2.1),()))
def Rs (a0:(List YI)×Unit) (a1:YI):Option ((Bool×Unit)):=(Afl a0 a1).val
def Aoo (a0:Db) (a1:YI):Tree ((Bool×Unit)):=
 .chk (decide ((0:Int)<=a1.1)) <|
 .chk (decide ((0:Int)<=(a1.1%(1024:Int)))) <|
 .ob (idx a0.2.1 ((a1.1%(1024:Int))/(32:Int))) fun e1=>
 .chk (decide ((0:Int)<=a1.1)) <|
 .chk (decide ((0:Int)<=(a1.1%(32:Int)))) <|
 .leaf (((i64.wrap ((BitVec.ofInt (i64.bits) ((Int.fdiv e1.1 (2^(min ((a1.1%(32:Int))).toNat i64.bits)))) &&& BitVec.ofInt (i64.bits) ((1:Int))).toNat:Nat))==(1:Int)),())
def Xj (a0:Db) (a1:YI):Option ((Bool×Unit)):=(Aoo a0 a1).val
def Qg (x3:Int×Int×(List YI)×Unit):Option ((Int×Int×(List YI)×Unit)⊕((Bool×Unit)⊕Db)):=
 Tree.val <|
 .br (decide (x3.1<(1024:Int))) (
 .ob (Xj (x3.2.1,x3.2.2.1,()) (x3.1,())) fun r4=>
 .br r4.1 (
 .leaf (.inr (.inl (false,())))) (
 .leaf (.inl ((i64.wrap (x3.1+(1:Int))),x3.2.1,x3.2.2.1,())))) (
 .leaf (.inr (.inr (x3.2.1,x3.2.2.1,()))))
def Atw (a0:Db):Tree ((Bool×Unit)):=
 .ob (Bh (a0.1,()) ((-1:Int),()) ((281474976710655:Int),())) fun r1=>
 .br (!r1.1) (
 .leaf (false,())) (
 .ob (Rs (a0.2.1,()) ((32:Int),())) fun r2=>
 .br (!r2.1) (
 .leaf (false,())) (
 .ob (Ax Qg ((i64.wrap (a0.1+(1:Int))),a0.1,a0.2.1,())) fun o5=>
 .sm o5 (fun o6=>
 .leaf o6) (fun o7=>
 .br (o7.1==(-1:Int)) (
 .leaf (true,())) (
 .ob (Xj o7 (o7.1,())) fun r8=>
 .leaf r8))))
def Aic (a0:Db):Option ((Bool×Unit)):=(Atw a0).val
def Azy (a0:YEp):Tree ((Bool×Unit)):=
 .ob (Bh (a0.1,()) ((0:Int),()) ((4294967295:Int),())) fun r1=>
 .br r1.1 (
 .br ((a0.2.1.length:Int)==(32:Int)) (
 .ob (Bh (a0.2.2.1,()) ((0:Int),()) ((281474976710656:Int),())) fun r2=>
 .br r2.1 (
 .ob (Aic (a0.2.2.2.1,a0.2.2.2.2.1,())) fun r3=>
 .leaf r3) (
 .leaf (false,()))) (
 .leaf (false,()))) (
 .leaf (false,()))
def Z1 (a0:YEp):Option ((Bool×Unit)):=(Azy a0).val
def Atx (a0:Ap):Tree ((Bool×Unit)):=
 letI u1:=a0.2.2.2.2.2.2.2;letI u2:=u1.2.2;letI u3:=u2.2.2;.br (!u3.2.1) (
 .ob (Xi (u1.1,u1.2.1,u2.1,u2.2.1,u3.1,()) ((0:Int),([]:List YB),(0:Int),(0:Int),([]:List YI),())) fun r1=>
 .br r1.1 (
 .leaf ((u3.2.2.1==(0:Int)),())) (
 .leaf (false,()))) (
 .ob (Z1 (u1.1,u1.2.1,u2.1,u2.2.1,u3.1,())) fun r2=>
 .br (!r2.1) (
 .leaf (false,())) (
 .br (u1.1 != (i64.wrap (a0.2.2.1-(1:Int)))) (
 .leaf (false,())) (
 .ob (Bh (u3.2.2.1,()) ((0:Int),()) ((1000005:Int),())) fun r3=>
 .br r3.1 (
 .leaf (true,())) (
 .br (u3.2.2.1==(-1:Int)) (
 .leaf ((a0.1==(1:Int)),())) (
 .leaf (false,()))))))
def Auv (a0:Ap):Option ((Bool×Unit)):=(Atx a0).val
def Aop (a0:Ap):Tree ((Bool×Unit)):=
 letI u1:=a0.2.2;.ob (O9 (a0.1,())) fun r1=>
 .br (!r1.1) (
 .leaf (false,())) (
 .ob (Dw (a0.2.1,())) fun r2=>
 .br (!r2.1) (
 .leaf (false,())) (
 .ob (Z1 (u1.1,u1.2.1,u1.2.2.1,u1.2.2.2.1,u1.2.2.2.2.1,())) fun r3=>
 .br (!r3.1) (
 .leaf (false,())) (
 .ob (Auv a0) fun r4=>
 .br (!r4.1) (
 .leaf (false,())) (
 .br ((a0.2.2.2.2.2.2.2.2.2.2.2.2.2.2.1.length:Int)==(0:Int)) (
 .leaf (true,())) (
 .br (a0.1==(0:Int)) (
 .br ((a0.2.2.2.2.2.2.2.2.2.2.2.2.2.2.1.length:Int)==(32:Int)) (
 .leaf ((decide (u1.1<(4294967295:Int))),())) (
 .leaf (false,()))) (
 .leaf (false,())))))))
def Kf (a0:Ap):Option ((Bool×Unit)):=(Aop a0).val
def Aoq (a0:A7):Tree ((Bool×Unit)):=
 .ob (Bh (a0.1,()) ((0:Int),()) ((4294967295:Int),())) fun r1=>
 .br r1.1 (
 .ob (Bh (a0.2.1,()) ((0:Int),()) ((65535:Int),())) fun r2=>
 .leaf r2) (
 .leaf (false,()))
def Gr (a0:A7):Option ((Bool×Unit)):=(Aoq a0).val
def Jz (x7:(List A8)×Int×Int×(List A8)×Int×Int×Int×Int×(List A8)×Int×Int×(List YB)×Int×Unit):Option (((List A8)×Int×Int×(List A8)×Int×Int×Int×Int×(List A8)×Int×Int×(List YB)×Int×Unit)⊕((Bool×Unit)⊕((List A8)×Int×Int×Int×Int×(List A8)×Unit))):=
 letI u1:=x7.2.2;letI u2:=u1.2.2.2;letI u3:=u2.2.2;letI u4:=u3.2.2;Tree.val <|
 .br (decide (u2.1<u1.2.2.1)) (
 .ob (idx u1.2.1 u2.1) fun e8=>
 .br (and (e8.1==u4.1) (and (e8.2.1==u4.2.1) true)) (
 .leaf (.inr (.inl (false,())))) (
 .leaf (.inl (x7.1,x7.2.1,u1.1,u1.2.1,u1.2.2.1,(i64.wrap (u2.1+(1:Int))),u2.2.1,u3.1,u3.2.1,u4.1,u4.2.1,u4.2.2.1,u4.2.2.2.1,())))) (
 .leaf (.inr (.inr (x7.1,x7.2.1,u1.1,u2.2.1,u3.1,u3.2.1,()))))
def L9 (x2:(List A8)×Int×Int×Int×Int×(List A8)×Unit):Option (((List A8)×Int×Int×Int×Int×(List A8)×Unit)⊕((Bool×Unit)⊕(Unit))):=
 letI u1:=x2.2.2;Tree.val <|
 .br (decide (u1.1<x2.2.1)) (
 .ob (idx x2.1 u1.1) fun e3=>
 .ob (Gr (e3.1,e3.2.1,())) fun r4=>
 .br (!r4.1) (
 .leaf (.inr (.inl (false,())))) (
 .br (and (e3.1==u1.2.1) (and (e3.2.1==u1.2.2.1) true)) (
 .leaf (.inr (.inl (false,())))) (
 .ob (Dw (e3.2.2.1,())) fun r5=>
 .br (!r5.1) (
 .leaf (.inr (.inl (false,())))) (
 .ob (Bh (e3.2.2.2.1,()) ((0:Int),()) ((1000006:Int),())) fun r6=>
 .br (!r6.1) (
 .leaf (.inr (.inl (false,())))) (
 .chk (decide ((0:Int)<=u1.1)) <|
 .chk (decide (u1.1<=(x2.2.2.2.2.2.1.length:Int))) <|
 .ob (Ax Jz (x2.1,x2.2.1,u1.1,((x2.2.2.2.2.2.1.take (u1.1).toNat).drop ((0:Int)).toNat),(((x2.2.2.2.2.2.1.take (u1.1).toNat).drop ((0:Int)).toNat).length:Int),(0:Int),u1.2.1,u1.2.2.1,u1.2.2.2.1,e3.1,e3.2.1,e3.2.2.1,e3.2.2.2.1,())) fun o9=>
 .sm o9 (fun o10=>
 .leaf (.inr (.inl o10))) (fun o11=>
 .leaf (.inl (o11.1,o11.2.1,(i64.wrap (o11.2.2.1+(1:Int))),o11.2.2.2.1,o11.2.2.2.2.1,o11.2.2.2.2.2.1,())))))))) (
 .leaf (.inr (.inr ())))
def Abd (a0:Bm):Tree ((Bool×Unit)):=
 .ob (Gr (a0.1,a0.2.1,())) fun r1=>
 .br (!r1.1) (
 .leaf (false,())) (
 .br (decide ((a0.2.2.1.length:Int)>(3:Int))) (
 .leaf (false,())) (
 .ob (Ax L9 (a0.2.2.1,(a0.2.2.1.length:Int),(0:Int),a0.1,a0.2.1,a0.2.2.1,())) fun o12=>
 .sm o12 (fun o13=>
 .leaf o13) (fun o14=>
 .leaf (true,()))))
def Us (a0:Bm):Option ((Bool×Unit)):=(Abd a0).val
def Aor (a0:Ak):Tree ((Bool×Unit)):=
 letI u1:=a0.2.2;letI u2:=u1.2.2;letI u3:=u2.2.2;letI u4:=u3.2.2;letI u5:=u4.2.2;letI u6:=u5.2.2;letI u7:=u6.2.2;letI u8:=u7.2.2;letI u9:=u8.2.2;letI u10:=u9.2.2.2;.ob (Bh (a0.1,()) ((1:Int),()) ((9:Int),())) fun r1=>
 .br (!r1.1) (
 .leaf (false,())) (
 .ob (Dw (a0.2.1,())) fun r2=>
 .br (!r2.1) (
 .leaf (false,())) (
 .ob (Dw (u1.1,())) fun r3=>
 .br (!r3.1) (
 .leaf (false,())) (
 .ob (Bh (u10.1,()) ((0:Int),()) ((1000000:Int),())) fun r4=>
 .br (!r4.1) (
 .leaf (false,())) (
 .br u10.2.2.1 (
 .ob (Z0 (u1.2.1,u2.1,u2.2.1,u3.1,u3.2.1,u4.1,u4.2.1,u5.1,u5.2.1,u6.1,u6.2.1,u7.1,u7.2.1,u8.1,u8.2.1,())) fun r5=>
 .br r5.1 (
 .br (and (u9.1==(0:Int)) (and (u9.2.1==(0:Int)) true)) (
 .br ((a0.2.2.2.2.2.2.2.2.2.2.2.2.2.2.2.2.2.2.2.2.1.length:Int)==(0:Int)) (
 .leaf ((u10.2.1==(0:Int)),())) (
 .leaf (false,()))) (
 .leaf (false,()))) (
 .leaf (false,()))) (
 .ob (Kf (u1.2.1,u2.1,u2.2.1,u3.1,u3.2.1,u4.1,u4.2.1,u5.1,u5.2.1,u6.1,u6.2.1,u7.1,u7.2.1,u8.1,u8.2.1,())) fun r6=>
 .br r6.1 (
 .br (u1.2.1==(1:Int)) (
 .ob (Cf (u2.1,()) (u1.1,())) fun r7=>
 .br r7.1 (
 .ob (Us (u9.1,u9.2.1,u9.2.2.1,())) fun r8=>
 .br r8.1 (
 .ob (Bh (u10.2.1,()) ((0:Int),()) ((1000000:Int),())) fun r9=>
 .leaf r9) (
 .leaf (false,()))) (
 .leaf (false,()))) (
 .leaf (false,()))) (
 .leaf (false,())))))))
def Pa (a0:Ak):Option ((Bool×Unit)):=(Aor a0).val
def Rf (x1:(List YB)×(List Ak)×Int×Int×Unit):Option (((List YB)×(List Ak)×Int×Int×Unit)⊕(YI⊕(Unit))):=
 letI u1:=x1.2.2;Tree.val <|
 .br (decide (u1.2.1<u1.1)) (
 .ob (idx x1.2.1 u1.2.1) fun e2=>
 .ob (Cf (e2.2.2.1,()) (x1.1,())) fun r3=>
 .br r3.1 (
 .leaf (.inr (.inl (u1.2.1,())))) (
 .leaf (.inl (x1.1,x1.2.1,u1.1,(i64.wrap (u1.2.1+(1:Int))),())))) (
 .leaf (.inr (.inr ())))
def Aos (a0:Ch) (a1:YBs):Tree (YI):=
 .ob (Ax Rf (a1.1,a0.2.1,(a0.2.1.length:Int),(0:Int),())) fun o4=>
 .sm o4 (fun o5=>
 .leaf o5) (fun o6=>
 .leaf ((-1:Int),()))
def Mn (a0:Ch) (a1:YBs):Option (YI):=(Aos a0 a1).val
def Uh (x3:(List Ak)×Int×Int×Int×(List Ak)×Unit):Option (((List Ak)×Int×Int×Int×(List Ak)×Unit)⊕((Bool×Unit)⊕(Unit))):=
 letI u1:=x3.2.2;Tree.val <|
 .br (decide (u1.1<x3.2.1)) (
 .ob (idx x3.1 u1.1) fun e4=>
 .ob (Pa e4) fun r5=>
 .br (!r5.1) (
 .leaf (.inr (.inl (false,())))) (
 .ob (Mn (u1.2.1,u1.2.2.1,()) (e4.2.2.1,())) fun r6=>
 .br (decide (r6.1<u1.1)) (
 .leaf (.inr (.inl (false,())))) (
 .leaf (.inl (x3.1,x3.2.1,(i64.wrap (u1.1+(1:Int))),u1.2.1,u1.2.2.1,()))))) (
 .leaf (.inr (.inr ())))
def Aty (a0:Ch):Tree ((Bool×Unit)):=
 .ob (Bh (a0.1,()) ((1:Int),()) ((6:Int),())) fun r1=>
 .br (!r1.1) (
 .leaf (false,())) (
 .br (decide ((a0.2.1.length:Int)>(12:Int))) (
 .leaf (false,())) (
 .ob (G4 a0) fun r2=>
 .br (decide (r2.1>a0.1)) (
 .leaf (false,())) (
 .ob (Ax Uh (a0.2.1,(a0.2.1.length:Int),(0:Int),a0.1,a0.2.1,())) fun o7=>
 .sm o7 (fun o8=>
 .leaf o8) (fun o9=>
 .leaf (true,())))))
def V6 (a0:Ch):Option ((Bool×Unit)):=(Aty a0).val
def Nv (x1:(List Ao)×Int×Int×Int×Int×Unit):Option (((List Ao)×Int×Int×Int×Int×Unit)⊕(YI⊕(Unit))):=
 letI u1:=x1.2.2;Tree.val <|
 .br (decide (u1.1<x1.2.1)) (
 .ob (idx x1.1 u1.1) fun e2=>
 .br (and (e2.1==u1.2.1) (and (e2.2.1==u1.2.2.1) true)) (
 .leaf (.inr (.inl (u1.1,())))) (
 .leaf (.inl (x1.1,x1.2.1,(i64.wrap (u1.1+(1:Int))),u1.2.1,u1.2.2.1,())))) (
 .leaf (.inr (.inr ())))
def Afo (a0:(List Ao)×Unit) (a1:A7):Tree (YI):=
 .ob (Ax Nv (a0.1,(a0.1.length:Int),(0:Int),a1.1,a1.2.1,())) fun o3=>
 .sm o3 (fun o4=>
 .leaf o4) (fun o5=>
 .leaf ((-1:Int),()))
def N5 (a0:(List Ao)×Unit) (a1:A7):Option (YI):=(Afo a0 a1).val
def Mj (x1:(List Ao)×(List Ao)×Int×Int×Unit):Option (((List Ao)×(List Ao)×Int×Int×Unit)⊕((Bool×Unit)⊕(Unit))):=
 letI u1:=x1.2.2;Tree.val <|
 .br (decide (u1.2.1<u1.1)) (
 .ob (idx x1.2.1 u1.2.1) fun e2=>
 .ob (Gr (e2.1,e2.2.1,())) fun r3=>
 .br (!r3.1) (
 .leaf (.inr (.inl (false,())))) (
 .ob (Bh (e2.2.2.1,()) ((0:Int),()) ((1000000:Int),())) fun r4=>
 .br (!r4.1) (
 .leaf (.inr (.inl (false,())))) (
 .ob (Bh (e2.2.2.2.1,()) ((0:Int),()) ((i64.wrap ((3:Int)*e2.2.2.1)),())) fun r5=>
 .br (!r5.1) (
 .leaf (.inr (.inl (false,())))) (
 .ob (N5 (x1.1,()) (e2.1,e2.2.1,())) fun r6=>
 .br (decide (r6.1<u1.2.1)) (
 .leaf (.inr (.inl (false,())))) (
 .leaf (.inl (x1.1,x1.2.1,u1.1,(i64.wrap (u1.2.1+(1:Int))),()))))))) (
 .leaf (.inr (.inr ())))
def Acw (a0:(List Ao)×Unit):Tree ((Bool×Unit)):=
 .br (decide ((a0.1.length:Int)>(8:Int))) (
 .leaf (false,())) (
 .ob (Ax Mj (a0.1,a0.1,(a0.1.length:Int),(0:Int),())) fun o7=>
 .sm o7 (fun o8=>
 .leaf o8) (fun o9=>
 .leaf (true,())))
def Md (a0:(List Ao)×Unit):Option ((Bool×Unit)):=(Acw a0).val
def Atz (a0:YBs):Tree ((Bool×Unit)):=
 .ob (Bh ((a0.1.length:Int),()) ((1:Int),()) ((32:Int),())) fun r1=>
 .leaf r1
def V7 (a0:YBs):Option ((Bool×Unit)):=(Atz a0).val
def Ky (x6:(List YBs)×Int×Int×(List YBs)×(List YB)×(List YB)×Int×Int×(List Ak)×(List Ao)×Unit):Option (((List YBs)×Int×Int×(List YBs)×(List YB)×(List YB)×Int×Int×(List Ak)×(List Ao)×Unit)⊕((Bool×Unit)⊕Bs)):=
 letI u1:=x6.2.2;letI u2:=u1.2.2;letI u3:=u2.2.2.2;Tree.val <|
 .br (decide (u1.1<x6.2.1)) (
 .ob (idx x6.1 u1.1) fun e7=>
 .ob (V7 e7) fun r8=>
 .br (!r8.1) (
 .leaf (.inr (.inl (false,())))) (
 .leaf (.inl (x6.1,x6.2.1,(i64.wrap (u1.1+(1:Int))),u1.2.1,u2.1,u2.2.1,u2.2.2.1,u3.1,u3.2.1,u3.2.2.1,())))) (
 .leaf (.inr (.inr (u1.2.1,u2.1,u2.2.1,u2.2.2.1,u3.1,u3.2.1,u3.2.2.1,()))))
def Jr (x12:(List Ak)×Int×Int×(List YBs)×(List YB)×(List YB)×Int×Int×(List Ak)×(List Ao)×Unit):Option (((List Ak)×Int×Int×(List YBs)×(List YB)×(List YB)×Int×Int×(List Ak)×(List Ao)×Unit)⊕((Bool×Unit)⊕(Unit))):=
 letI u1:=x12.2.2;letI u2:=u1.2.2.2;Tree.val <|
 .br (decide (u1.1<x12.2.1)) (
 .ob (idx x12.1 u1.1) fun e13=>
 .br (decide (e13.1>(x12.2.2.2.1.length:Int))) (
 .leaf (.inr (.inl (false,())))) (
 .leaf (.inl (x12.1,x12.2.1,(i64.wrap (u1.1+(1:Int))),u1.2.1,u1.2.2.1,u2.1,u2.2.1,u2.2.2.1,u2.2.2.2.1,u2.2.2.2.2.1,())))) (
 .leaf (.inr (.inr ())))
def W0 (a0:Bs):Tree ((Bool×Unit)):=
 letI u1:=a0.2.2;letI u2:=u1.2.2;.ob (Bh ((a0.1.length:Int),()) ((1:Int),()) ((9:Int),())) fun r1=>
 .br (!r1.1) (
 .leaf (false,())) (
 .ob (Aib (a0.2.1,())) fun r2=>
 .br (!r2.1) (
 .leaf (false,())) (
 .ob (Ad1 (u1.1,u1.2.1,())) fun r3=>
 .br (!r3.1) (
 .leaf (false,())) (
 .ob (V6 (u2.1,u2.2.1,())) fun r4=>
 .br (!r4.1) (
 .leaf (false,())) (
 .ob (Md (u2.2.2.1,())) fun r5=>
 .br (!r5.1) (
 .leaf (false,())) (
 .ob (Ax Ky (a0.1,(a0.1.length:Int),(0:Int),a0.1,a0.2.1,u1.1,u1.2.1,u2.1,u2.2.1,u2.2.2.1,())) fun o9=>
 .sm o9 (fun o10=>
 .leaf o10) (fun o11=>letI u3:=o11.2.2.2;
 .ob (Ax Jr (u3.2.2.1,(o11.2.2.2.2.2.1.length:Int),(0:Int),o11.1,o11.2.1,o11.2.2.1,u3.1,u3.2.1,u3.2.2.1,u3.2.2.2.1,())) fun o14=>
 .sm o14 (fun o15=>
 .leaf o15) (fun o16=>
 .leaf (true,()))))))))
def Xk (a0:Bs):Option ((Bool×Unit)):=(W0 a0).val
def Az0 (a0:(List Ao)×Unit) (a1:A7) (a2:YI):Tree (((List Ao)×Unit)):=
 .ob (Mm a0) fun r1=>
 .ob (Md a0) fun r2=>
 .br (!r2.1) (
 .leaf r1) (
 .ob (Gr a1) fun r3=>
 .br (!r3.1) (
 .leaf r1) (
 .ob (Bh a2 ((0:Int),()) ((1000000:Int),())) fun r4=>
 .br (!r4.1) (
 .leaf r1) (
 .ob (N5 a0 a1) fun r5=>
 .br (decide (r5.1≥(0:Int))) (
 .ob (idx r1.1 r5.1) fun e6=>
 .ob (idx r1.1 r5.1) fun e7=>
 let q8:=(r1.1.set (r5.1).toNat (e7.1,e7.2.1,(if (1000000:Int)<(i64.wrap (e6.2.2.1+a2.1))then(1000000:Int)else(i64.wrap (e6.2.2.1+a2.1))),e7.2.2.2.1,()))
 .leaf (q8,())) (
 .br (decide ((a0.1.length:Int)<(8:Int))) (
 .chk (decide (r1.1.length+[(a1.1,a1.2.1,a2.1,(0:Int),())].length<=4294967296)) <|
 .leaf ((r1.1++[(a1.1,a1.2.1,a2.1,(0:Int),())]),())) (
 .leaf r1)))))
def A0n (a0:(List Ao)×Unit) (a1:A7) (a2:YI):Option (((List Ao)×Unit)):=(Az0 a0 a1 a2).val
def At1 (a0:YBs) (a1:YI):Tree (YBs×YBs):=
 .chk (decide ((0:Int)<=(if (a0.1.length:Int)<a1.1 then(a0.1.length:Int)else a1.1))) <|
 .chk (decide ((if (a0.1.length:Int)<a1.1 then(a0.1.length:Int)else a1.1)<=(a0.1.length:Int))) <|
 .ob (Bk (((a0.1.take ((if (a0.1.length:Int)<a1.1 then(a0.1.length:Int)else a1.1)).toNat).drop ((0:Int)).toNat),())) fun r1=>
 .chk (decide ((0:Int)<=(if (a0.1.length:Int)<a1.1 then(a0.1.length:Int)else a1.1))) <|
 .chk (decide ((if (a0.1.length:Int)<a1.1 then(a0.1.length:Int)else a1.1)<=(a0.1.length:Int))) <|
 .chk (decide ((a0.1.length:Int)<=(a0.1.length:Int))) <|
 .leaf (r1,(((a0.1.take ((a0.1.length:Int)).toNat).drop ((if (a0.1.length:Int)<a1.1 then(a0.1.length:Int)else a1.1)).toNat),()))
def Dt (a0:YBs) (a1:YI):Option (YBs×YBs):=(At1 a0 a1).val
def A5j (a0:YBs) (a1:YI) (a2:YI):Tree (YBs×(Bool×Unit)):=
 .br (decide (a1.1<(0:Int))) (
 .leaf ((([]:List YB),()),(false,()))) (
 .br (decide (a2.1<(0:Int))) (
 .leaf ((([]:List YB),()),(false,()))) (
 .br (decide (a1.1>(a0.1.length:Int))) (
 .leaf ((([]:List YB),()),(false,()))) (
 .br (decide (a2.1>(i64.wrap ((a0.1.length:Int)-a1.1)))) (
 .leaf ((([]:List YB),()),(false,()))) (
 .chk (decide ((0:Int)<=a1.1)) <|
 .chk (decide (a1.1<=(i64.wrap (a1.1+a2.1)))) <|
 .chk (decide ((i64.wrap (a1.1+a2.1))<=(a0.1.length:Int))) <|
 .chk (decide (([]:List YB).length+((a0.1.take ((i64.wrap (a1.1+a2.1))).toNat).drop (a1.1).toNat).length<=4294967296)) <|
 .leaf (((([]:List YB)++((a0.1.take ((i64.wrap (a1.1+a2.1))).toNat).drop (a1.1).toNat)),()),(true,()))))))
def A51 (a0:YBs) (a1:YI) (a2:YI):Option (YBs×(Bool×Unit)):=(A5j a0 a1 a2).val
def Ta (x2:Int×Int×Int×(List YB)×Int×Int×Unit):Option ((Int×Int×Int×(List YB)×Int×Int×Unit)⊕((Int×Int×Int×Unit))):=
 letI u1:=x2.2.2;letI u2:=u1.2.2;Tree.val <|
 .br (decide (u2.2.1<u2.1)) (
 .ob (idx u1.2.1 u2.2.1) fun e3=>
 .leaf (.inl (x2.1,x2.2.1,(i64.wrap ((i64.wrap ((256:Int)*u1.1))+(i64.wrap (e3.1)))),u1.2.1,u2.1,(i64.wrap (u2.2.1+(1:Int))),()))) (
 .leaf (.inr (x2.1,x2.2.1,u1.1,())))
def Az2 (a0:YBs) (a1:YI) (a2:YI):Tree (YI×YI×(Bool×Unit)):=
 .br (decide (a2.1<(1:Int))) (
 .leaf (((0:Int),()),((0:Int),()),(false,()))) (
 .br (decide (a2.1>(6:Int))) (
 .leaf (((0:Int),()),((0:Int),()),(false,()))) (
 .ob (A51 a0 a1 a2) fun r1=>
 .br (!r1.2.1) (
 .leaf (((0:Int),()),((0:Int),()),(false,()))) (
 .ob (Ax Ta (a1.1,a2.1,(0:Int),r1.1.1,(r1.1.1.length:Int),(0:Int),())) fun o4=>
 .leaf ((o4.2.2.1,()),((i64.wrap (o4.1+o4.2.1)),()),(true,())))))
def Apu (a0:YBs) (a1:YI) (a2:YI):Option (YI×YI×(Bool×Unit)):=(Az2 a0 a1 a2).val
def Aou (a0:YBs) (a1:YI):Tree (YI×YBs):=
 .ob (Dt a0 a1) fun r1=>
 .ob (Apu r1.1 ((0:Int),()) a1) fun r2=>
 .leaf (r2.1,r1.2)
def Gd (a0:YBs) (a1:YI):Option (YI×YBs):=(Aou a0 a1).val
def Aov (a0:YI):Tree ((Bool×Unit)):=
 .ob (Bh a0 ((4:Int),()) ((8:Int),())) fun r1=>
 .leaf r1
def Mo (a0:YI):Option ((Bool×Unit)):=(Aov a0).val
def Aow (a0:YI) (a1:YI):Tree ((Bool×Unit)):=
 .br (a0.1==(4:Int)) (
 .leaf ((decide (a1.1<=(40:Int))),())) (
 .br (a0.1==(5:Int)) (
 .leaf ((a1.1==(12:Int)),())) (
 .br (a0.1==(6:Int)) (
 .leaf ((a1.1==(12:Int)),())) (
 .leaf ((a1.1==(4:Int)),()))))
def Apv (a0:YI) (a1:YI):Option ((Bool×Unit)):=(Aow a0 a1).val
def Acx (a0:Aq) (a1:Aq):Tree ((Bool×Unit)):=
 letI u1:=a0.2.2.2;letI u2:=u1.2.2.2;letI u3:=a1.2.2.2;letI u4:=u3.2.2.2;.br (a0.1==a1.1) (
 .br (a0.2.1==a1.2.1) (
 .br (u1.2.1==u3.2.1) (
 .br (u2.2.1==u4.2.1) (
 .br (u2.2.2.1==u4.2.2.1) (
 .ob (Cf (a0.2.2.1,()) (a1.2.2.1,())) fun r1=>
 .br r1.1 (
 .ob (Cf (u1.1,()) (u3.1,())) fun r2=>
 .br r2.1 (
 .ob (Cf (u1.2.2.1,()) (u3.2.2.1,())) fun r3=>
 .br r3.1 (
 .ob (Cf (u2.1,()) (u4.1,())) fun r4=>
 .br r4.1 (
 .ob (Cf (u2.2.2.2.1,()) (u4.2.2.2.1,())) fun r5=>
 .br r5.1 (
 .ob (Cf (u2.2.2.2.2.1,()) (u4.2.2.2.2.1,())) fun r6=>
 .leaf r6) (
 .leaf (false,()))) (
 .leaf (false,()))) (
 .leaf (false,()))) (
 .leaf (false,()))) (
 .leaf (false,()))) (
 .leaf (false,()))) (
 .leaf (false,()))) (
 .leaf (false,()))) (
 .leaf (false,()))) (
 .leaf (false,()))
def Me (a0:Aq) (a1:Aq):Option ((Bool×Unit)):=(Acx a0 a1).val
def Ajz (a0:Aq):Tree ((Bool×Unit)):=
 letI u1:=a0.2.2;letI u2:=u1.2.2;letI u3:=u2.2.2.2;.br (a0.1==(1:Int)) (
 .ob (Bh (a0.2.1,()) ((1:Int),()) ((9:Int),())) fun r1=>
 .br r1.1 (
 .ob (Dw (u1.1,())) fun r2=>
 .br r2.1 (
 .ob (Me a0 (a0.1,a0.2.1,u1.1,([]:List YB),(0:Int),([]:List YB),([]:List YB),(0:Int),(0:Int),([]:List YB),([]:List YB),())) fun r3=>
 .leaf r3) (
 .leaf (false,()))) (
 .leaf (false,()))) (
 .br (a0.1==(2:Int)) (
 .ob (Dw (u1.1,())) fun r4=>
 .br r4.1 (
 .ob (Dw (u1.2.1,())) fun r5=>
 .br r5.1 (
 .ob (Bh (u2.1,()) ((0:Int),()) ((1000000:Int),())) fun r6=>
 .br r6.1 (
 .br ((a0.2.2.2.2.2.1.length:Int)==(16:Int)) (
 .ob (Me a0 (a0.1,(0:Int),u1.1,u1.2.1,u2.1,u2.2.1,([]:List YB),(0:Int),(0:Int),([]:List YB),([]:List YB),())) fun r7=>
 .leaf r7) (
 .leaf (false,()))) (
 .leaf (false,()))) (
 .leaf (false,()))) (
 .leaf (false,()))) (
 .br (a0.1==(3:Int)) (
 .ob (Bh (a0.2.1,()) ((1:Int),()) ((9:Int),())) fun r8=>
 .br r8.1 (
 .ob (Dw (u1.1,())) fun r9=>
 .br r9.1 (
 .ob (Dw (u1.2.1,())) fun r10=>
 .br r10.1 (
 .ob (Bh (u2.1,()) ((0:Int),()) ((1000000:Int),())) fun r11=>
 .br r11.1 (
 .br ((a0.2.2.2.2.2.1.length:Int)==(16:Int)) (
 .br ((a0.2.2.2.2.2.2.1.length:Int)==(16:Int)) (
 .ob (Me a0 (a0.1,a0.2.1,u1.1,u1.2.1,u2.1,u2.2.1,u2.2.2.1,(0:Int),(0:Int),([]:List YB),([]:List YB),())) fun r12=>
 .leaf r12) (
 .leaf (false,()))) (
 .leaf (false,()))) (
 .leaf (false,()))) (
 .leaf (false,()))) (
 .leaf (false,()))) (
 .leaf (false,()))) (
 .ob (Mo (a0.1,())) fun r13=>
 .br r13.1 (
 .ob (Dw (u1.2.1,())) fun r14=>
 .br r14.1 (
 .ob (Bh (u3.1,()) ((0:Int),()) ((4294967295:Int),())) fun r15=>
 .br r15.1 (
 .ob (Bh (u3.2.1,()) ((0:Int),()) ((281474976710655:Int),())) fun r16=>
 .br r16.1 (
 .br ((a0.2.2.2.2.2.2.2.2.2.2.1.length:Int)==(16:Int)) (
 .ob (Apv (a0.1,()) ((a0.2.2.2.2.2.2.2.2.2.1.length:Int),())) fun r17=>
 .br r17.1 (
 .ob (Me a0 (a0.1,(0:Int),([]:List YB),u1.2.1,(0:Int),([]:List YB),([]:List YB),u3.1,u3.2.1,u3.2.2.1,u3.2.2.2.1,())) fun r18=>
 .leaf r18) (
 .leaf (false,()))) (
 .leaf (false,()))) (
 .leaf (false,()))) (
 .leaf (false,()))) (
 .leaf (false,()))) (
 .leaf (false,())))))
def Dh (a0:Aq):Option ((Bool×Unit)):=(Ajz a0).val
def Nw (x1:(List YB)×(List YBs)×Int×Int×Unit):Option (((List YB)×(List YBs)×Int×Int×Unit)⊕(YBs)):=
 letI u1:=x1.2.2;Tree.val <|
 .br (decide (u1.2.1<u1.1)) (
 .ob (idx x1.2.1 u1.2.1) fun e2=>
 .chk (decide (x1.1.length+e2.1.length<=4294967296)) <|
 .leaf (.inl ((x1.1++e2.1),x1.2.1,u1.1,(i64.wrap (u1.2.1+(1:Int))),()))) (
 .leaf (.inr (x1.1,())))
def Aox (a0:(List YBs)×Unit):Tree (YBs):=
 .ob (Ax Nw (([]:List YB),a0.1,(a0.1.length:Int),(0:Int),())) fun o3=>
 .leaf o3
def Er (a0:(List YBs)×Unit):Option (YBs):=(Aox a0).val
def A2v (x1:Int×(List YB)×Int×Unit):Option ((Int×(List YB)×Int×Unit)⊕(YBs)):=
 letI u1:=x1.2.2;Tree.val <|
 .br (decide (u1.1≥(0:Int))) (
 .chk (decide ((0:Int)<=(i64.wrap ((8:Int)*u1.1)))) <|
 .chk (decide (x1.2.1.length+[((u8.wrap ((i64.wrap ((BitVec.ofInt (i64.bits) ((Int.fdiv x1.1 (2^(min ((i64.wrap ((8:Int)*u1.1))).toNat i64.bits)))) &&& BitVec.ofInt (i64.bits) ((255:Int))).toNat:Nat)))),())].length<=4294967296)) <|
 .leaf (.inl (x1.1,(x1.2.1++[((u8.wrap ((i64.wrap ((BitVec.ofInt (i64.bits) ((Int.fdiv x1.1 (2^(min ((i64.wrap ((8:Int)*u1.1))).toNat i64.bits)))) &&& BitVec.ofInt (i64.bits) ((255:Int))).toNat:Nat)))),())]),(i64.wrap (u1.1-(1:Int))),()))) (
 .leaf (.inr (x1.2.1,())))
def Bbn (a0:YBs) (a1:YI) (a2:YI):Tree (YBs):=
 .chk (decide (([]:List YB).length+a0.1.length<=4294967296)) <|
 .br (decide (a2.1<(1:Int))) (
 .leaf ((([]:List YB)++a0.1),())) (
 .br (decide (a2.1>(6:Int))) (
 .leaf ((([]:List YB)++a0.1),())) (
 .ob (Ax A2v (a1.1,(([]:List YB)++a0.1),(i64.wrap (a2.1-(1:Int))),())) fun o2=>
 .leaf o2))
def Fc (a0:YBs) (a1:YI) (a2:YI):Option (YBs):=(Bbn a0 a1 a2).val
def Afs (a0:Aq):Tree (YBs):=
 letI u1:=a0.2.2;letI u2:=u1.2.2;letI u3:=u2.2.2.2;.ob (Dh a0) fun r1=>
 .br (!r1.1) (
 .leaf (([]:List YB),())) (
 .br (a0.1==(1:Int)) (
 .ob (Er ([([((u8.wrap (a0.1)),())],()),([((u8.wrap (a0.2.1)),())],()),(u1.1,()),((List.replicate ((20:Int)).toNat ((0:Int),())),())],())) fun r2=>
 .leaf r2) (
 .br (a0.1==(2:Int)) (
 .ob (Fc (([]:List YB),()) (u2.1,()) ((4:Int),())) fun r3=>
 .ob (Er ([([((u8.wrap (a0.1)),())],()),(u1.1,()),(u1.2.1,()),r3,(u2.2.1,())],())) fun r4=>
 .leaf r4) (
 .br (a0.1==(3:Int)) (
 .ob (Fc (([]:List YB),()) (u2.1,()) ((4:Int),())) fun r5=>
 .ob (Er ([([((u8.wrap (a0.1)),())],()),([((u8.wrap (a0.2.1)),())],()),(u1.1,()),(u1.2.1,()),r5,(u2.2.1,()),(u2.2.2.1,())],())) fun r6=>
 .leaf r6) (
 .ob (Fc (([]:List YB),()) (u3.1,()) ((4:Int),())) fun r7=>
 .ob (Fc (([]:List YB),()) (u3.2.1,()) ((6:Int),())) fun r8=>
 .ob (Er ([([((u8.wrap (a0.1)),())],()),(u1.2.1,()),r7,r8,(u3.2.2.2.1,()),(u3.2.2.1,())],())) fun r9=>
 .leaf r9))))
def Ek (a0:Aq):Option (YBs):=(Afs a0).val
def Afu (a0:YBs):Tree (Aq×(Bool×Unit)):=
 .ob (Gd a0 ((1:Int),())) fun r1=>
 .br (r1.1.1==(1:Int)) (
 .ob (Gd r1.2 ((1:Int),())) fun r2=>
 .ob (Dt r2.2 ((12:Int),())) fun r3=>
 .ob (Dh (r1.1.1,r2.1.1,r3.1.1,([]:List YB),(0:Int),([]:List YB),([]:List YB),(0:Int),(0:Int),([]:List YB),([]:List YB),())) fun r4=>
 .br (!r4.1) (
 .leaf (((0:Int),(0:Int),([]:List YB),([]:List YB),(0:Int),([]:List YB),([]:List YB),(0:Int),(0:Int),([]:List YB),([]:List YB),()),(false,()))) (
 .ob (Ek (r1.1.1,r2.1.1,r3.1.1,([]:List YB),(0:Int),([]:List YB),([]:List YB),(0:Int),(0:Int),([]:List YB),([]:List YB),())) fun r5=>
 .ob (Cf r5 a0) fun r6=>
 .br (!r6.1) (
 .leaf (((0:Int),(0:Int),([]:List YB),([]:List YB),(0:Int),([]:List YB),([]:List YB),(0:Int),(0:Int),([]:List YB),([]:List YB),()),(false,()))) (
 .leaf ((r1.1.1,r2.1.1,r3.1.1,([]:List YB),(0:Int),([]:List YB),([]:List YB),(0:Int),(0:Int),([]:List YB),([]:List YB),()),(true,()))))) (
 .br (r1.1.1==(2:Int)) (
 .br (r1.1.1==(3:Int)) (
 .ob (Gd r1.2 ((1:Int),())) fun r7=>
 .ob (Dt r7.2 ((12:Int),())) fun r8=>
 .ob (Dt r8.2 ((12:Int),())) fun r9=>
 .ob (Gd r9.2 ((4:Int),())) fun r10=>
 .ob (Dt r10.2 ((16:Int),())) fun r11=>
 .br (r1.1.1==(3:Int)) (
 .ob (Dt r11.2 ((16:Int),())) fun r12=>
 .ob (Dh (r1.1.1,r7.1.1,r8.1.1,r9.1.1,r10.1.1,r11.1.1,r12.1.1,(0:Int),(0:Int),([]:List YB),([]:List YB),())) fun r13=>
 .br (!r13.1) (
 .leaf (((0:Int),(0:Int),([]:List YB),([]:List YB),(0:Int),([]:List YB),([]:List YB),(0:Int),(0:Int),([]:List YB),([]:List YB),()),(false,()))) (
 .ob (Ek (r1.1.1,r7.1.1,r8.1.1,r9.1.1,r10.1.1,r11.1.1,r12.1.1,(0:Int),(0:Int),([]:List YB),([]:List YB),())) fun r14=>
 .ob (Cf r14 a0) fun r15=>
 .br (!r15.1) (
 .leaf (((0:Int),(0:Int),([]:List YB),([]:List YB),(0:Int),([]:List YB),([]:List YB),(0:Int),(0:Int),([]:List YB),([]:List YB),()),(false,()))) (
 .leaf ((r1.1.1,r7.1.1,r8.1.1,r9.1.1,r10.1.1,r11.1.1,r12.1.1,(0:Int),(0:Int),([]:List YB),([]:List YB),()),(true,()))))) (
 .ob (Dh (r1.1.1,r7.1.1,r8.1.1,r9.1.1,r10.1.1,r11.1.1,([]:List YB),(0:Int),(0:Int),([]:List YB),([]:List YB),())) fun r16=>
 .br (!r16.1) (
 .leaf (((0:Int),(0:Int),([]:List YB),([]:List YB),(0:Int),([]:List YB),([]:List YB),(0:Int),(0:Int),([]:List YB),([]:List YB),()),(false,()))) (
 .ob (Ek (r1.1.1,r7.1.1,r8.1.1,r9.1.1,r10.1.1,r11.1.1,([]:List YB),(0:Int),(0:Int),([]:List YB),([]:List YB),())) fun r17=>
 .ob (Cf r17 a0) fun r18=>
 .br (!r18.1) (
 .leaf (((0:Int),(0:Int),([]:List YB),([]:List YB),(0:Int),([]:List YB),([]:List YB),(0:Int),(0:Int),([]:List YB),([]:List YB),()),(false,()))) (
 .leaf ((r1.1.1,r7.1.1,r8.1.1,r9.1.1,r10.1.1,r11.1.1,([]:List YB),(0:Int),(0:Int),([]:List YB),([]:List YB),()),(true,())))))) (
 .ob (Dt r1.2 ((12:Int),())) fun r19=>
 .ob (Dt r19.2 ((12:Int),())) fun r20=>
 .ob (Gd r20.2 ((4:Int),())) fun r21=>
 .ob (Dt r21.2 ((16:Int),())) fun r22=>
 .br (r1.1.1==(3:Int)) (
 .ob (Dt r22.2 ((16:Int),())) fun r23=>
 .ob (Dh (r1.1.1,(0:Int),r19.1.1,r20.1.1,r21.1.1,r22.1.1,r23.1.1,(0:Int),(0:Int),([]:List YB),([]:List YB),())) fun r24=>
 .br (!r24.1) (
 .leaf (((0:Int),(0:Int),([]:List YB),([]:List YB),(0:Int),([]:List YB),([]:List YB),(0:Int),(0:Int),([]:List YB),([]:List YB),()),(false,()))) (
 .ob (Ek (r1.1.1,(0:Int),r19.1.1,r20.1.1,r21.1.1,r22.1.1,r23.1.1,(0:Int),(0:Int),([]:List YB),([]:List YB),())) fun r25=>
 .ob (Cf r25 a0) fun r26=>
 .br (!r26.1) (
 .leaf (((0:Int),(0:Int),([]:List YB),([]:List YB),(0:Int),([]:List YB),([]:List YB),(0:Int),(0:Int),([]:List YB),([]:List YB),()),(false,()))) (
 .leaf ((r1.1.1,(0:Int),r19.1.1,r20.1.1,r21.1.1,r22.1.1,r23.1.1,(0:Int),(0:Int),([]:List YB),([]:List YB),()),(true,()))))) (
 .ob (Dh (r1.1.1,(0:Int),r19.1.1,r20.1.1,r21.1.1,r22.1.1,([]:List YB),(0:Int),(0:Int),([]:List YB),([]:List YB),())) fun r27=>
 .br (!r27.1) (
 .leaf (((0:Int),(0:Int),([]:List YB),([]:List YB),(0:Int),([]:List YB),([]:List YB),(0:Int),(0:Int),([]:List YB),([]:List YB),()),(false,()))) (
 .ob (Ek (r1.1.1,(0:Int),r19.1.1,r20.1.1,r21.1.1,r22.1.1,([]:List YB),(0:Int),(0:Int),([]:List YB),([]:List YB),())) fun r28=>
 .ob (Cf r28 a0) fun r29=>
 .br (!r29.1) (
 .leaf (((0:Int),(0:Int),([]:List YB),([]:List YB),(0:Int),([]:List YB),([]:List YB),(0:Int),(0:Int),([]:List YB),([]:List YB),()),(false,()))) (
 .leaf ((r1.1.1,(0:Int),r19.1.1,r20.1.1,r21.1.1,r22.1.1,([]:List YB),(0:Int),(0:Int),([]:List YB),([]:List YB),()),(true,()))))))) (
 .br (r1.1.1==(3:Int)) (
 .br (r1.1.1==(3:Int)) (
 .ob (Gd r1.2 ((1:Int),())) fun r30=>
 .ob (Dt r30.2 ((12:Int),())) fun r31=>
 .ob (Dt r31.2 ((12:Int),())) fun r32=>
 .ob (Gd r32.2 ((4:Int),())) fun r33=>
 .ob (Dt r33.2 ((16:Int),())) fun r34=>
 .br (r1.1.1==(3:Int)) (
 .ob (Dt r34.2 ((16:Int),())) fun r35=>
 .ob (Dh (r1.1.1,r30.1.1,r31.1.1,r32.1.1,r33.1.1,r34.1.1,r35.1.1,(0:Int),(0:Int),([]:List YB),([]:List YB),())) fun r36=>
 .br (!r36.1) (
 .leaf (((0:Int),(0:Int),([]:List YB),([]:List YB),(0:Int),([]:List YB),([]:List YB),(0:Int),(0:Int),([]:List YB),([]:List YB),()),(false,()))) (
 .ob (Ek (r1.1.1,r30.1.1,r31.1.1,r32.1.1,r33.1.1,r34.1.1,r35.1.1,(0:Int),(0:Int),([]:List YB),([]:List YB),())) fun r37=>
 .ob (Cf r37 a0) fun r38=>
 .br (!r38.1) (
 .leaf (((0:Int),(0:Int),([]:List YB),([]:List YB),(0:Int),([]:List YB),([]:List YB),(0:Int),(0:Int),([]:List YB),([]:List YB),()),(false,()))) (
 .leaf ((r1.1.1,r30.1.1,r31.1.1,r32.1.1,r33.1.1,r34.1.1,r35.1.1,(0:Int),(0:Int),([]:List YB),([]:List YB),()),(true,()))))) (
 .ob (Dh (r1.1.1,r30.1.1,r31.1.1,r32.1.1,r33.1.1,r34.1.1,([]:List YB),(0:Int),(0:Int),([]:List YB),([]:List YB),())) fun r39=>
 .br (!r39.1) (
 .leaf (((0:Int),(0:Int),([]:List YB),([]:List YB),(0:Int),([]:List YB),([]:List YB),(0:Int),(0:Int),([]:List YB),([]:List YB),()),(false,()))) (
 .ob (Ek (r1.1.1,r30.1.1,r31.1.1,r32.1.1,r33.1.1,r34.1.1,([]:List YB),(0:Int),(0:Int),([]:List YB),([]:List YB),())) fun r40=>
 .ob (Cf r40 a0) fun r41=>
 .br (!r41.1) (
 .leaf (((0:Int),(0:Int),([]:List YB),([]:List YB),(0:Int),([]:List YB),([]:List YB),(0:Int),(0:Int),([]:List YB),([]:List YB),()),(false,()))) (
 .leaf ((r1.1.1,r30.1.1,r31.1.1,r32.1.1,r33.1.1,r34.1.1,([]:List YB),(0:Int),(0:Int),([]:List YB),([]:List YB),()),(true,())))))) (
 .ob (Dt r1.2 ((12:Int),())) fun r42=>
 .ob (Dt r42.2 ((12:Int),())) fun r43=>
 .ob (Gd r43.2 ((4:Int),())) fun r44=>
 .ob (Dt r44.2 ((16:Int),())) fun r45=>
 .br (r1.1.1==(3:Int)) (
 .ob (Dt r45.2 ((16:Int),())) fun r46=>
 .ob (Dh (r1.1.1,(0:Int),r42.1.1,r43.1.1,r44.1.1,r45.1.1,r46.1.1,(0:Int),(0:Int),([]:List YB),([]:List YB),())) fun r47=>
 .br (!r47.1) (
 .leaf (((0:Int),(0:Int),([]:List YB),([]:List YB),(0:Int),([]:List YB),([]:List YB),(0:Int),(0:Int),([]:List YB),([]:List YB),()),(false,()))) (
 .ob (Ek (r1.1.1,(0:Int),r42.1.1,r43.1.1,r44.1.1,r45.1.1,r46.1.1,(0:Int),(0:Int),([]:List YB),([]:List YB),())) fun r48=>
 .ob (Cf r48 a0) fun r49=>
 .br (!r49.1) (
 .leaf (((0:Int),(0:Int),([]:List YB),([]:List YB),(0:Int),([]:List YB),([]:List YB),(0:Int),(0:Int),([]:List YB),([]:List YB),()),(false,()))) (
 .leaf ((r1.1.1,(0:Int),r42.1.1,r43.1.1,r44.1.1,r45.1.1,r46.1.1,(0:Int),(0:Int),([]:List YB),([]:List YB),()),(true,()))))) (
 .ob (Dh (r1.1.1,(0:Int),r42.1.1,r43.1.1,r44.1.1,r45.1.1,([]:List YB),(0:Int),(0:Int),([]:List YB),([]:List YB),())) fun r50=>
 .br (!r50.1) (
 .leaf (((0:Int),(0:Int),([]:List YB),([]:List YB),(0:Int),([]:List YB),([]:List YB),(0:Int),(0:Int),([]:List YB),([]:List YB),()),(false,()))) (
 .ob (Ek (r1.1.1,(0:Int),r42.1.1,r43.1.1,r44.1.1,r45.1.1,([]:List YB),(0:Int),(0:Int),([]:List YB),([]:List YB),())) fun r51=>
 .ob (Cf r51 a0) fun r52=>
 .br (!r52.1) (
 .leaf (((0:Int),(0:Int),([]:List YB),([]:List YB),(0:Int),([]:List YB),([]:List YB),(0:Int),(0:Int),([]:List YB),([]:List YB),()),(false,()))) (
 .leaf ((r1.1.1,(0:Int),r42.1.1,r43.1.1,r44.1.1,r45.1.1,([]:List YB),(0:Int),(0:Int),([]:List YB),([]:List YB),()),(true,()))))))) (
 .ob (Mo r1.1) fun r53=>
 .br r53.1 (
 .ob (Dt r1.2 ((12:Int),())) fun r54=>
 .ob (Gd r54.2 ((4:Int),())) fun r55=>
 .ob (Gd r55.2 ((6:Int),())) fun r56=>
 .ob (Dt r56.2 ((16:Int),())) fun r57=>
 .ob (Dt r57.2 ((41:Int),())) fun r58=>
 .ob (Dh (r1.1.1,(0:Int),([]:List YB),r54.1.1,(0:Int),([]:List YB),([]:List YB),r55.1.1,r56.1.1,r58.1.1,r57.1.1,())) fun r59=>
 .br (!r59.1) (
 .leaf (((0:Int),(0:Int),([]:List YB),([]:List YB),(0:Int),([]:List YB),([]:List YB),(0:Int),(0:Int),([]:List YB),([]:List YB),()),(false,()))) (
 .ob (Ek (r1.1.1,(0:Int),([]:List YB),r54.1.1,(0:Int),([]:List YB),([]:List YB),r55.1.1,r56.1.1,r58.1.1,r57.1.1,())) fun r60=>
 .ob (Cf r60 a0) fun r61=>
 .br (!r61.1) (
 .leaf (((0:Int),(0:Int),([]:List YB),([]:List YB),(0:Int),([]:List YB),([]:List YB),(0:Int),(0:Int),([]:List YB),([]:List YB),()),(false,()))) (
 .leaf ((r1.1.1,(0:Int),([]:List YB),r54.1.1,(0:Int),([]:List YB),([]:List YB),r55.1.1,r56.1.1,r58.1.1,r57.1.1,()),(true,()))))) (
 .ob (Dh (r1.1.1,(0:Int),([]:List YB),([]:List YB),(0:Int),([]:List YB),([]:List YB),(0:Int),(0:Int),([]:List YB),([]:List YB),())) fun r62=>
 .br (!r62.1) (
 .leaf (((0:Int),(0:Int),([]:List YB),([]:List YB),(0:Int),([]:List YB),([]:List YB),(0:Int),(0:Int),([]:List YB),([]:List YB),()),(false,()))) (
 .ob (Ek (r1.1.1,(0:Int),([]:List YB),([]:List YB),(0:Int),([]:List YB),([]:List YB),(0:Int),(0:Int),([]:List YB),([]:List YB),())) fun r63=>
 .ob (Cf r63 a0) fun r64=>
 .br (!r64.1) (
 .leaf (((0:Int),(0:Int),([]:List YB),([]:List YB),(0:Int),([]:List YB),([]:List YB),(0:Int),(0:Int),([]:List YB),([]:List YB),()),(false,()))) (
 .leaf ((r1.1.1,(0:Int),([]:List YB),([]:List YB),(0:Int),([]:List YB),([]:List YB),(0:Int),(0:Int),([]:List YB),([]:List YB),()),(true,()))))))))
def N6 (a0:YBs):Option (Aq×(Bool×Unit)):=(Afu a0).val
def W1 (x1:(List Ak)×Int×Int×Int×Int×Unit):Option (((List Ak)×Int×Int×Int×Int×Unit)⊕((Bool×Unit)⊕(Unit))):=
 letI u1:=x1.2.2;Tree.val <|
 .br (decide (u1.1<x1.2.1)) (
 .ob (idx x1.1 u1.1) fun e2=>letI u2:=e2.2.2.2.2.2.2.2.2.2.2.2.2.2.2.2.2.2.2;
 .br (!u2.2.2.2.2.2.1) (
 .br (and (u2.1==u1.2.1) (and (u2.2.1==u1.2.2.1) true)) (
 .leaf (.inr (.inl (true,())))) (
 .leaf (.inl (x1.1,x1.2.1,(i64.wrap (u1.1+(1:Int))),u1.2.1,u1.2.2.1,())))) (
 .leaf (.inl (x1.1,x1.2.1,(i64.wrap (u1.1+(1:Int))),u1.2.1,u1.2.2.1,())))) (
 .leaf (.inr (.inr ())))
def Az4 (a0:Ch) (a1:A7):Tree ((Bool×Unit)):=
 .ob (Ax W1 (a0.2.1,(a0.2.1.length:Int),(0:Int),a1.1,a1.2.1,())) fun o3=>
 .sm o3 (fun o4=>
 .leaf o4) (fun o5=>
 .leaf (false,()))
def Z2 (a0:Ch) (a1:A7):Option ((Bool×Unit)):=(Az4 a0 a1).val
def Abg (a0:(List Ao)×Unit) (a1:A7):Tree (YI):=
 .ob (N5 a0 a1) fun r1=>
 .ob (Md a0) fun r2=>
 .br (!r2.1) (
 .leaf ((0:Int),())) (
 .br (decide (r1.1<(0:Int))) (
 .leaf ((0:Int),())) (
 .ob (idx a0.1 r1.1) fun e3=>
 .ob (idx a0.1 r1.1) fun e4=>
 .leaf ((i64.wrap ((i64.wrap ((3:Int)*e3.2.2.1))-e4.2.2.2.1)),())))
def Kq (a0:(List Ao)×Unit) (a1:A7):Option (YI):=(Abg a0 a1).val
def Aoz (a0:Bs) (a1:A7) (a2:YI):Tree ((Bool×Unit)):=
 letI u1:=a0.2.2.2.2;.ob (Z2 (u1.1,u1.2.1,()) a1) fun r1=>
 .br r1.1 (
 .leaf (true,())) (
 .ob (Kq (u1.2.2.1,()) a1) fun r2=>
 .leaf ((decide (r2.1≥a2.1)),()))
def Ad2 (a0:Bs) (a1:A7) (a2:YI):Option ((Bool×Unit)):=(Aoz a0 a1 a2).val
def A7u:Tree (((List YI)×Unit)):=
 .leaf ([((1779033703:Int),()),((3144134277:Int),()),((1013904242:Int),()),((2773480762:Int),()),((1359893119:Int),()),((2600822924:Int),()),((528734635:Int),()),((1541459225:Int),())],())
def Blv:Option (((List YI)×Unit)):=(A7u).val
def Ax9:Tree (Qu):=
 .ob Blv fun r1=>
 .leaf (r1.1,([]:List YB),(0:Int),())
def Ayr:Option (Qu):=(Ax9).val
def Ao1 (a0:Qu):Tree ((Bool×Unit)):=
 .ob (Rs (a0.1,()) ((8:Int),())) fun r1=>
 .br r1.1 (
 .ob (Bh (a0.2.2.1,()) ((0:Int),()) ((1048576:Int),())) fun r2=>
 .br r2.1 (
 .chk (decide ((0:Int)<=a0.2.2.1)) <|
 .leaf (((a0.2.2.1%(64:Int))==(a0.2.1.length:Int)),())) (
 .leaf (false,()))) (
 .leaf (false,()))
def Ad3 (a0:Qu):Option ((Bool×Unit)):=(Ao1 a0).val
def A5m (a0:YI) (a1:YI):Tree (YI):=
 .br (decide (a1.1<(0:Int))) (
 .leaf ((i64.wrap ((BitVec.ofInt (i64.bits) (a0.1) &&& BitVec.ofInt (i64.bits) ((4294967295:Int))).toNat:Nat)),())) (
 .br (decide (a1.1>(31:Int))) (
 .leaf ((i64.wrap ((BitVec.ofInt (i64.bits) (a0.1) &&& BitVec.ofInt (i64.bits) ((4294967295:Int))).toNat:Nat)),())) (
 .chk (decide ((0:Int)<=a1.1)) <|
 .chk (decide ((0:Int)<=(i64.wrap ((32:Int)-a1.1)))) <|
 .leaf ((i64.wrap ((BitVec.ofInt (i64.bits) ((i64.wrap ((BitVec.ofInt (i64.bits) ((Int.fdiv (i64.wrap ((BitVec.ofInt (i64.bits) (a0.1) &&& BitVec.ofInt (i64.bits) ((4294967295:Int))).toNat:Nat)) (2^(min (a1.1).toNat i64.bits)))) ||| BitVec.ofInt (i64.bits) ((i64.wrap ((i64.wrap ((BitVec.ofInt (i64.bits) (a0.1) &&& BitVec.ofInt (i64.bits) ((4294967295:Int))).toNat:Nat))*2^(min ((i64.wrap ((32:Int)-a1.1))).toNat i64.bits))))).toNat:Nat))) &&& BitVec.ofInt (i64.bits) ((4294967295:Int))).toNat:Nat)),())))
def Mf (a0:YI) (a1:YI):Option (YI):=(A5m a0 a1).val
def Kz (x1:(List YB)×(List YI)×Int×Unit):Option (((List YB)×(List YI)×Int×Unit)⊕(((List YI)×Unit))):=
 letI u1:=x1.2.2;Tree.val <|
 .br (decide (u1.1<(16:Int))) (
 .ob (Apu (x1.1,()) ((i64.wrap ((4:Int)*u1.1)),()) ((4:Int),())) fun r2=>
 .ob (idx x1.2.1 u1.1) fun e3=>
 let q4:=(x1.2.1.set (u1.1).toNat r2.1)
 .leaf (.inl (x1.1,q4,(i64.wrap (u1.1+(1:Int))),()))) (
 .leaf (.inr (x1.2.1,())))
def K0 (x6:(List YI)×Int×Unit):Option (((List YI)×Int×Unit)⊕(((List YI)×Unit))):=
 Tree.val <|
 .br (decide (x6.2.1<(64:Int))) (
 .ob (idx x6.1 (i64.wrap (x6.2.1-(15:Int)))) fun e7=>
 .ob (idx x6.1 (i64.wrap (x6.2.1-(2:Int)))) fun e8=>
 .ob (Mf e7 ((7:Int),())) fun r9=>
 .ob (Mf e7 ((18:Int),())) fun r10=>
 .ob (Mf e8 ((17:Int),())) fun r11=>
 .ob (Mf e8 ((19:Int),())) fun r12=>
 .ob (idx x6.1 (i64.wrap (x6.2.1-(7:Int)))) fun e13=>
 .ob (idx x6.1 (i64.wrap (x6.2.1-(16:Int)))) fun e14=>
 .ob (idx x6.1 x6.2.1) fun e15=>
 let q16:=(x6.1.set (x6.2.1).toNat ((i64.wrap ((BitVec.ofInt (i64.bits) ((i64.wrap ((i64.wrap ((i64.wrap (e13.1+e14.1))+(i64.wrap ((BitVec.ofInt (i64.bits) ((i64.wrap ((BitVec.ofInt (i64.bits) (r9.1) ^^^ BitVec.ofInt (i64.bits) (r10.1)).toNat:Nat))) ^^^ BitVec.ofInt (i64.bits) ((Int.fdiv e7.1 (2^(min ((3:Int)).toNat i64.bits))))).toNat:Nat))))+(i64.wrap ((BitVec.ofInt (i64.bits) ((i64.wrap ((BitVec.ofInt (i64.bits) (r11.1) ^^^ BitVec.ofInt (i64.bits) (r12.1)).toNat:Nat))) ^^^ BitVec.ofInt (i64.bits) ((Int.fdiv e8.1 (2^(min ((10:Int)).toNat i64.bits))))).toNat:Nat))))) &&& BitVec.ofInt (i64.bits) ((4294967295:Int))).toNat:Nat)),()))
 .leaf (.inl (q16,(i64.wrap (x6.2.1+(1:Int))),()))) (
 .leaf (.inr (x6.1,())))
def W2 (a0:YBs):Tree (((List YI)×Unit)):=
 .br ((a0.1.length:Int) != (64:Int)) (
 .leaf (([]:List YI),())) (
 .ob (Ax Kz (a0.1,(List.replicate ((64:Int)).toNat ((0:Int),())),(0:Int),())) fun o5=>
 .ob (Ax K0 (o5.1,(16:Int),())) fun o17=>
 .leaf o17)
def Agq (a0:YBs):Option (((List YI)×Unit)):=(W2 a0).val
def Ar5 (a0:YI):Tree YI:=.leaf (Ab2 a0.1,())
def Asc (a0:YI):Option YI:=(Ar5 a0).val
def A7w (a0:YI) (a1:YI):Tree (YI):=
 .leaf ((i64.wrap ((BitVec.ofInt (i64.bits) ((i64.wrap (a0.1+a1.1))) &&& BitVec.ofInt (i64.bits) ((4294967295:Int))).toNat:Nat)),())
def Aid (a0:YI) (a1:YI):Option (YI):=(A7w a0 a1).val
def Ip (x11:(List YI)×(List YI)×(List YI)×Int×Int×Int×Int×Int×Int×Int×Int×Int×Unit):Option (((List YI)×(List YI)×(List YI)×Int×Int×Int×Int×Int×Int×Int×Int×Int×Unit)⊕(((List YI)×(List YI)×Int×Int×Int×Int×Int×Int×Int×Int×Unit))):=
 letI u1:=x11.2.2.2;letI u2:=u1.2.2;letI u3:=u2.2.2;letI u4:=u3.2.2;Tree.val <|
 .br (decide (u4.2.2.1<(64:Int))) (
 .ob (Mf (u3.1,()) ((6:Int),())) fun r12=>
 .ob (Mf (u3.1,()) ((11:Int),())) fun r13=>
 .ob (Mf (u3.1,()) ((25:Int),())) fun r14=>
 .ob (Asc (u4.2.2.1,())) fun r15=>
 .ob (idx x11.2.2.1 u4.2.2.1) fun e16=>
 .ob (Mf (u1.1,()) ((2:Int),())) fun r17=>
 .ob (Mf (u1.1,()) ((13:Int),())) fun r18=>
 .ob (Mf (u1.1,()) ((22:Int),())) fun r19=>
 .ob (Aid (u2.2.1,()) ((i64.wrap ((i64.wrap ((i64.wrap ((i64.wrap (u4.2.1+(i64.wrap ((BitVec.ofInt (i64.bits) ((i64.wrap ((BitVec.ofInt (i64.bits) (r12.1) ^^^ BitVec.ofInt (i64.bits) (r13.1)).toNat:Nat))) ^^^ BitVec.ofInt (i64.bits) (r14.1)).toNat:Nat))))+(i64.wrap ((BitVec.ofInt (i64.bits) ((i64.wrap ((BitVec.ofInt (i64.bits) (u3.1) &&& BitVec.ofInt (i64.bits) (u3.2.1)).toNat:Nat))) ^^^ BitVec.ofInt (i64.bits) ((i64.wrap ((BitVec.ofInt (i64.bits) ((i64.wrap ((BitVec.ofInt (i64.bits) ((4294967295:Int)) ^^^ BitVec.ofInt (i64.bits) (u3.1)).toNat:Nat))) &&& BitVec.ofInt (i64.bits) (u4.1)).toNat:Nat)))).toNat:Nat))))+r15.1))+e16.1)),())) fun r20=>
 .ob (Aid ((i64.wrap ((i64.wrap ((i64.wrap ((i64.wrap (u4.2.1+(i64.wrap ((BitVec.ofInt (i64.bits) ((i64.wrap ((BitVec.ofInt (i64.bits) (r12.1) ^^^ BitVec.ofInt (i64.bits) (r13.1)).toNat:Nat))) ^^^ BitVec.ofInt (i64.bits) (r14.1)).toNat:Nat))))+(i64.wrap ((BitVec.ofInt (i64.bits) ((i64.wrap ((BitVec.ofInt (i64.bits) (u3.1) &&& BitVec.ofInt (i64.bits) (u3.2.1)).toNat:Nat))) ^^^ BitVec.ofInt (i64.bits) ((i64.wrap ((BitVec.ofInt (i64.bits) ((i64.wrap ((BitVec.ofInt (i64.bits) ((4294967295:Int)) ^^^ BitVec.ofInt (i64.bits) (u3.1)).toNat:Nat))) &&& BitVec.ofInt (i64.bits) (u4.1)).toNat:Nat)))).toNat:Nat))))+r15.1))+e16.1)),()) ((i64.wrap ((i64.wrap ((BitVec.ofInt (i64.bits) ((i64.wrap ((BitVec.ofInt (i64.bits) (r17.1) ^^^ BitVec.ofInt (i64.bits) (r18.1)).toNat:Nat))) ^^^ BitVec.ofInt (i64.bits) (r19.1)).toNat:Nat))+(i64.wrap ((BitVec.ofInt (i64.bits) ((i64.wrap ((BitVec.ofInt (i64.bits) ((i64.wrap ((BitVec.ofInt (i64.bits) (u1.1) &&& BitVec.ofInt (i64.bits) (u1.2.1)).toNat:Nat))) ^^^ BitVec.ofInt (i64.bits) ((i64.wrap ((BitVec.ofInt (i64.bits) (u1.1) &&& BitVec.ofInt (i64.bits) (u2.1)).toNat:Nat)))).toNat:Nat))) ^^^ BitVec.ofInt (i64.bits) ((i64.wrap ((BitVec.ofInt (i64.bits) (u1.2.1) &&& BitVec.ofInt (i64.bits) (u2.1)).toNat:Nat)))).toNat:Nat)))),())) fun r21=>
 .leaf (.inl (x11.1,x11.2.1,x11.2.2.1,r21.1,u1.1,u1.2.1,u2.1,r20.1,u3.1,u3.2.1,u4.1,(i64.wrap (u4.2.2.1+(1:Int))),()))) (
 .leaf (.inr (x11.1,x11.2.1,u1.1,u1.2.1,u2.1,u2.2.1,u3.1,u3.2.1,u4.1,u4.2.1,())))
def H3 (x23:(List YI)×(List YI)×(List YI)×Int×Int×Unit):Option (((List YI)×(List YI)×(List YI)×Int×Int×Unit)⊕(((List YI)×Unit))):=
 letI u1:=x23.2.2;letI u2:=u1.2.2;Tree.val <|
 .br (decide (u2.1<u1.2.1)) (
 .ob (idx u1.1 u2.1) fun e24=>
 .ob (idx x23.1 u2.1) fun e25=>
 .ob (Aid e25 e24) fun r26=>
 .ob (idx x23.2.1 u2.1) fun e27=>
 let q28:=(x23.2.1.set (u2.1).toNat r26)
 .leaf (.inl (x23.1,q28,u1.1,u1.2.1,(i64.wrap (u2.1+(1:Int))),()))) (
 .leaf (.inr (x23.2.1,())))
def W3 (a0:(List YI)×Unit) (a1:YBs):Tree (((List YI)×Unit)):=
 .chk (decide (([]:List YI).length+a0.1.length<=4294967296)) <|
 .ob (Rs a0 ((8:Int),())) fun r1=>
 .br (!r1.1) (
 .leaf ((([]:List YI)++a0.1),())) (
 .br ((a1.1.length:Int) != (64:Int)) (
 .leaf ((([]:List YI)++a0.1),())) (
 .ob (Agq a1) fun r2=>
 .ob (idx a0.1 (0:Int)) fun e3=>
 .ob (idx a0.1 (1:Int)) fun e4=>
 .ob (idx a0.1 (2:Int)) fun e5=>
 .ob (idx a0.1 (3:Int)) fun e6=>
 .ob (idx a0.1 (4:Int)) fun e7=>
 .ob (idx a0.1 (5:Int)) fun e8=>
 .ob (idx a0.1 (6:Int)) fun e9=>
 .ob (idx a0.1 (7:Int)) fun e10=>
 .ob (Ax Ip (a0.1,(([]:List YI)++a0.1),r2.1,e3.1,e4.1,e5.1,e6.1,e7.1,e8.1,e9.1,e10.1,(0:Int),())) fun o22=>letI u1:=o22.2.2;letI u2:=u1.2.2;letI u3:=u2.2.2.2;
 .ob (Ax H3 (o22.1,o22.2.1,[(u1.1,()),(u1.2.1,()),(u2.1,()),(u2.2.1,()),(u2.2.2.1,()),(u3.1,()),(u3.2.1,()),(u3.2.2.1,())],([(u1.1,()),(u1.2.1,()),(u2.1,()),(u2.2.1,()),(u2.2.2.1,()),(u3.1,()),(u3.2.1,()),(u3.2.2.1,())].length:Int),(0:Int),())) fun o29=>
 .leaf o29))
def Rt (a0:(List YI)×Unit) (a1:YBs):Option (((List YI)×Unit)):=(W3 a0 a1).val
def G3 (x3:(List YI)×(List YB)×Unit):Option (((List YI)×(List YB)×Unit)⊕(((List YI)×(List YB)×Unit))):=
 Tree.val <|
 .br (decide ((x3.2.1.length:Int)≥(64:Int))) (
 .chk (decide ((64:Int)<=(x3.2.1.length:Int))) <|
 .ob (Rt (x3.1,()) (((x3.2.1.take ((64:Int)).toNat).drop ((0:Int)).toNat),())) fun r4=>
 .chk (decide ((64:Int)<=(x3.2.1.length:Int))) <|
 .chk (decide ((x3.2.1.length:Int)<=(x3.2.1.length:Int))) <|
 .leaf (.inl (r4.1,((x3.2.1.take ((x3.2.1.length:Int)).toNat).drop ((64:Int)).toNat),()))) (
 .leaf (.inr x3))
def W5 (a0:(List YI)×Unit) (a1:YBs):Tree (((List YI)×Unit)×YBs):=
 .ob (Ax G3 (a0.1,a1.1,())) fun o5=>
 .leaf ((o5.1,()),(o5.2.1,()))
def Qv (a0:(List YI)×Unit) (a1:YBs):Option (((List YI)×Unit)×YBs):=(W5 a0 a1).val
def Aj1 (a0:Qu) (a1:YBs):Tree (Qu):=
 .ob (Ad3 a0) fun r1=>
 .br (!r1.1) (
 .chk (decide (([]:List YI).length+a0.1.length<=4294967296)) <|
 .ob (Bk (a0.2.1,())) fun r2=>
 .leaf ((([]:List YI)++a0.1),r2.1,a0.2.2.1,())) (
 .br (decide ((a1.1.length:Int)>(i64.wrap ((1048576:Int)-a0.2.2.1)))) (
 .chk (decide (([]:List YI).length+a0.1.length<=4294967296)) <|
 .ob (Bk (a0.2.1,())) fun r3=>
 .leaf ((([]:List YI)++a0.1),r3.1,a0.2.2.1,())) (
 .ob (Er ([(a0.2.1,()),a1],())) fun r4=>
 .ob (Qv (a0.1,()) r4) fun r5=>
 .chk (decide (([]:List YI).length+r5.1.1.length<=4294967296)) <|
 .ob (Bk r5.2) fun r6=>
 .leaf ((([]:List YI)++r5.1.1),r6.1,(i64.wrap (a0.2.2.1+(a1.1.length:Int))),())))
def Akl (a0:Qu) (a1:YBs):Option (Qu):=(Aj1 a0 a1).val
def Rn (x2:Int×(List YB)×Unit):Option ((Int×(List YB)×Unit)⊕((Int×(List YB)×Unit))):=
 Tree.val <|
 .chk (decide ((0:Int)<=(i64.wrap ((i64.wrap (x2.1+(x2.2.1.length:Int)))+(8:Int))))) <|
 .br (((i64.wrap ((i64.wrap (x2.1+(x2.2.1.length:Int)))+(8:Int)))%(64:Int)) != (0:Int)) (
 .chk (decide (x2.2.1.length+[((0:Int),())].length<=4294967296)) <|
 .leaf (.inl (x2.1,(x2.2.1++[((0:Int),())]),()))) (
 .leaf (.inr x2))
def A5o (a0:YI):Tree (YBs):=
 .ob (Bh a0 ((0:Int),()) ((1048576:Int),())) fun r1=>
 .br (!r1.1) (
 .leaf (([]:List YB),())) (
 .ob (Ax Rn (a0.1,[((128:Int),())],())) fun o3=>
 .chk (decide (o3.2.1.length+[((0:Int),()),((0:Int),())].length<=4294967296)) <|
 .ob (Fc ((o3.2.1++[((0:Int),()),((0:Int),())]),()) ((i64.wrap ((8:Int)*o3.1)),()) ((6:Int),())) fun r4=>
 .leaf r4)
def A52 (a0:YI):Option (YBs):=(A5o a0).val
def Js (x1:(List YB)×(List YI)×Int×Int×Unit):Option (((List YB)×(List YI)×Int×Int×Unit)⊕(YBs)):=
 letI u1:=x1.2.2;Tree.val <|
 .br (decide (u1.2.1<u1.1)) (
 .ob (idx x1.2.1 u1.2.1) fun e2=>
 .ob (Fc (x1.1,()) e2 ((4:Int),())) fun r3=>
 .leaf (.inl (r3.1,x1.2.1,u1.1,(i64.wrap (u1.2.1+(1:Int))),()))) (
 .leaf (.inr (x1.1,())))
def Acy (a0:(List YI)×Unit):Tree (YBs):=
 .ob (Ax Js (([]:List YB),a0.1,(a0.1.length:Int),(0:Int),())) fun o4=>
 .leaf o4
def Adb (a0:(List YI)×Unit):Option (YBs):=(Acy a0).val
def Aj2 (a0:Qu):Tree (YBs):=
 .ob (Ad3 a0) fun r1=>
 .br (!r1.1) (
 .leaf (([]:List YB),())) (
 .ob (A52 (a0.2.2.1,())) fun r2=>
 .ob (Er ([(a0.2.1,()),r2],())) fun r3=>
 .ob (Qv (a0.1,()) r3) fun r4=>
 .ob (Adb r4.1) fun r5=>
 .leaf r5)
def Akm (a0:Qu):Option (YBs):=(Aj2 a0).val
def A5r (a0:YBs):Tree (YBs):=
 .br (decide ((a0.1.length:Int)>(1048576:Int))) (
 .leaf (([]:List YB),())) (
 .ob Ayr fun r1=>
 .ob (Akl r1 a0) fun r2=>
 .ob (Akm r2) fun r3=>
 .leaf r3)
def Al7 (a0:YBs):Option (YBs):=(A5r a0).val
def Hq (x3:YBs):Option (YBs⊕(YBs)):=
 Tree.val <|
 .br (decide ((x3.1.length:Int)<(64:Int))) (
 .chk (decide (x3.1.length+[((0:Int),())].length<=4294967296)) <|
 .leaf (.inl ((x3.1++[((0:Int),())]),()))) (
 .leaf (.inr x3))
def Afy (a0:YBs):Tree (YBs):=
 .br (decide ((a0.1.length:Int)>(1048576:Int))) (
 .leaf (([]:List YB),())) (
 .ob (Bk a0) fun r1=>
 .br (decide ((a0.1.length:Int)>(64:Int))) (
 .ob (Al7 a0) fun r2=>
 .ob (Ax Hq r2) fun o4=>
 .leaf o4) (
 .ob (Ax Hq r1) fun o5=>
 .leaf o5))
def Agr (a0:YBs):Option (YBs):=(Afy a0).val
def Nx (x1:Int×(List YB)×(List YB)×Int×Int×Unit):Option ((Int×(List YB)×(List YB)×Int×Int×Unit)⊕(YBs)):=
 letI u1:=x1.2.2;Tree.val <|
 .br (decide (u1.2.2.1<u1.2.1)) (
 .ob (idx u1.1 u1.2.2.1) fun e2=>
 .chk (decide (x1.2.1.length+[((u8.wrap ((BitVec.ofInt (u8.bits) (e2.1) ^^^ BitVec.ofInt (u8.bits) (x1.1)).toNat:Nat)),())].length<=4294967296)) <|
 .leaf (.inl (x1.1,(x1.2.1++[((u8.wrap ((BitVec.ofInt (u8.bits) (e2.1) ^^^ BitVec.ofInt (u8.bits) (x1.1)).toNat:Nat)),())]),u1.1,u1.2.1,(i64.wrap (u1.2.2.1+(1:Int))),()))) (
 .leaf (.inr (x1.2.1,())))
def Ao2 (a0:YBs) (a1:YB):Tree (YBs):=
 .ob (Ax Nx (a1.1,([]:List YB),a0.1,(a0.1.length:Int),(0:Int),())) fun o3=>
 .leaf o3
def Ad4 (a0:YBs) (a1:YB):Option (YBs):=(Ao2 a0 a1).val
def Az6 (a0:YBs) (a1:YBs):Tree (YBs):=
 .br (decide ((a0.1.length:Int)>(1048576:Int))) (
 .leaf (([]:List YB),())) (
 .br (decide ((a1.1.length:Int)>(1048512:Int))) (
 .leaf (([]:List YB),())) (
 .ob (Agr a0) fun r1=>
 .ob (Ad4 r1 ((92:Int),())) fun r2=>
 .ob (Ad4 r1 ((54:Int),())) fun r3=>
 .ob (Er ([r3,a1],())) fun r4=>
 .ob (Al7 r4) fun r5=>
 .ob (Er ([r2,r5],())) fun r6=>
 .ob (Al7 r6) fun r7=>
 .leaf r7))
def Vp (a0:YBs) (a1:YBs):Option (YBs):=(Az6 a0 a1).val
def Ao3 (a0:YBs) (a1:YI):Tree (YBs):=
 .ob (Bh ((a0.1.length:Int),()) ((1:Int),()) ((32:Int),())) fun r1=>
 .br (!r1.1) (
 .leaf (([]:List YB),())) (
 .ob (Bh a1 ((0:Int),()) ((10000:Int),())) fun r2=>
 .br (!r2.1) (
 .leaf (([]:List YB),())) (
 .ob (Fc ([((114:Int),()),((111:Int),()),((108:Int),()),((108:Int),())],()) a1 ((4:Int),())) fun r3=>
 .ob (Vp a0 r3) fun r4=>
 .chk (decide ((12:Int)<=(r4.1.length:Int))) <|
 .ob (Bk (((r4.1.take ((12:Int)).toNat).drop ((0:Int)).toNat),())) fun r5=>
 .leaf r5))
def Apw (a0:YBs) (a1:YI):Option (YBs):=(Ao3 a0 a1).val
def Az8 (a0:Gc):Tree (Gc×YBs):=
 .ob (Bk (a0.1,())) fun r1=>
 .ob (Ad1 a0) fun r2=>
 .br (!r2.1) (
 .leaf ((r1.1,a0.2.1,()),(([]:List YB),()))) (
 .br (a0.2.1==(10000:Int)) (
 .leaf ((r1.1,a0.2.1,()),(([]:List YB),()))) (
 .ob (Apw (a0.1,()) (a0.2.1,())) fun r3=>
 .leaf ((r1.1,(i64.wrap (a0.2.1+(1:Int))),()),r3)))
def Apx (a0:Gc):Option (Gc×YBs):=(Az8 a0).val
def Aj3 (a0:YBs) (a1:A7):Tree (YBs):=
 .ob (Gr a1) fun r1=>
 .br (!r1.1) (
 .ob (Bk a0) fun r2=>
 .leaf r2) (
 .ob (Fc a0 (a1.1,()) ((4:Int),())) fun r3=>
 .ob (Fc r3 (a1.2.1,()) ((2:Int),())) fun r4=>
 .leaf r4)
def Ays (a0:YBs) (a1:A7):Option (YBs):=(Aj3 a0 a1).val
def Afz (a0:A7) (a1:YI) (a2:YBs) (a3:YBs) (a4:YI):Tree (YBs):=
 .ob (Gr a0) fun r1=>
 .br (!r1.1) (
 .leaf (([]:List YB),())) (
 .ob (Bh a1 ((1:Int),()) ((9:Int),())) fun r2=>
 .br (!r2.1) (
 .leaf (([]:List YB),())) (
 .ob (Dw a2) fun r3=>
 .br (!r3.1) (
 .leaf (([]:List YB),())) (
 .ob (Dw a3) fun r4=>
 .br (!r4.1) (
 .leaf (([]:List YB),())) (
 .ob (Bh a4 ((0:Int),()) ((1000000:Int),())) fun r5=>
 .br (!r5.1) (
 .leaf (([]:List YB),())) (
 .ob (Ays ([((99:Int),())],()) a0) fun r6=>
 .ob (Fc (([]:List YB),()) a4 ((4:Int),())) fun r7=>
 .ob (Er ([r6,([((u8.wrap (a1.1)),())],()),a2,a3,r7],())) fun r8=>
 .leaf r8)))))
def Ru (a0:A7) (a1:YI) (a2:YBs) (a3:YBs) (a4:YI):Option (YBs):=(Afz a0 a1 a2 a3 a4).val
def A5s (a0:YBs) (a1:YBs):Tree (YBs):=
 .ob (Vp a0 a1) fun r1=>
 .br ((r1.1.length:Int)==(0:Int)) (
 .leaf (([]:List YB),())) (
 .chk (decide ((16:Int)<=(r1.1.length:Int))) <|
 .ob (Bk (((r1.1.take ((16:Int)).toNat).drop ((0:Int)).toNat),())) fun r2=>
 .leaf r2)
def Aek (a0:YBs) (a1:YBs):Option (YBs):=(A5s a0 a1).val
def A0a (a0:YBs) (a1:A7) (a2:YI) (a3:YBs) (a4:YBs) (a5:YI):Tree (YBs):=
 .ob (Ru a1 a2 a3 a4 a5) fun r1=>
 .ob (Aib a0) fun r2=>
 .br (!r2.1) (
 .leaf (([]:List YB),())) (
 .br ((r1.1.length:Int)==(0:Int)) (
 .leaf (([]:List YB),())) (
 .ob (Aek a0 r1) fun r3=>
 .leaf r3))
def Apy (a0:YBs) (a1:A7) (a2:YI) (a3:YBs) (a4:YBs) (a5:YI):Option (YBs):=(A0a a0 a1 a2 a3 a4 a5).val
def A0c (a0:YBs) (a1:YBs):Tree (Ay):=
 .ob (Bk a0) fun r1=>
 .ob (Bk a1) fun r2=>
 .leaf ((15:Int),(0:Int),(0:Int),([]:List YB),([]:List YB),(0:Int),(0:Int),r2.1,r1.1,(0:Int),(0:Int),(0:Int),())
def Apz (a0:YBs) (a1:YBs):Option (Ay):=(A0c a0 a1).val
def Af1 (a0:YBs):Tree (Ay):=
 .ob (Bk a0) fun r1=>
 .leaf ((14:Int),(0:Int),(0:Int),([]:List YB),([]:List YB),(0:Int),(0:Int),r1.1,([]:List YB),(0:Int),(0:Int),(0:Int),())
def N7 (a0:YBs):Option (Ay):=(Af1 a0).val
def Af2 (a0:Bs) (a1:YI) (a2:A7) (a3:Aq):Tree (Bs×((List Bc)×Unit)×((List Ay)×Unit)):=
 letI u1:=a0.2.2.2;.br (decide (a3.2.1>(a0.1.length:Int))) (
 .leaf (a0,(([]:List Bc),()),(([]:List Ay),()))) (
 .ob (Ad2 a0 a2 ((45:Int),())) fun r1=>
 .br (!r1.1) (
 .leaf (a0,(([]:List Bc),()),(([]:List Ay),()))) (
 .br (decide (u1.1≥(10000:Int))) (
 .leaf (a0,(([]:List Bc),()),(([]:List Ay),()))) (
 .ob (Apx (a0.2.2.1,u1.1,())) fun r2=>
 .ob (Apy (a0.2.1,()) a2 (a3.2.1,()) (a3.2.2.1,()) r2.2 a1) fun r3=>
 .ob (Bk (a3.2.2.1,())) fun r4=>
 .ob (Bk r2.2) fun r5=>
 .ob (Ru a2 (a3.2.1,()) (a3.2.2.1,()) r2.2 a1) fun r6=>
 .ob (Apz (a0.2.1,()) r6) fun r7=>
 .ob (N7 r2.2) fun r8=>
 .leaf ((a0.1,a0.2.1,r2.1.1,r2.1.2.1,u1.2.1,u1.2.2.1,u1.2.2.2.1,()),([(a2.1,a2.2.1,(2:Int),(0:Int),r4.1,r5.1,a1.1,r3.1,([]:List YB),(0:Int),(0:Int),([]:List YB),([]:List YB),())],()),([r8,r7],())))))
def Ags (a0:Bs) (a1:YI) (a2:A7) (a3:Aq):Option (Bs×((List Bc)×Unit)×((List Ay)×Unit)):=(Af2 a0 a1 a2 a3).val
def At8 (a0:YI) (a1:YI):Tree ((Bool×Unit)):=
 .ob (Bh a0 ((0:Int),()) ((1000000:Int),())) fun r1=>
 .br r1.1 (
 .ob (Bh a1 ((0:Int),()) ((1000000:Int),())) fun r2=>
 .br r2.1 (
 .ob (Bh ((i64.wrap (a0.1-a1.1)),()) ((0:Int),()) ((10:Int),())) fun r3=>
 .leaf r3) (
 .leaf (false,()))) (
 .leaf (false,()))
def Auw (a0:YI) (a1:YI):Option ((Bool×Unit)):=(At8 a0 a1).val
def W7 (x1:(List YB)×(List YB)×Int×Int×Int×Unit):Option (((List YB)×(List YB)×Int×Int×Int×Unit)⊕(YI)):=
 letI u1:=x1.2.2.2;Tree.val <|
 .br (decide (u1.2.1<u1.1)) (
 .ob (idx x1.1 u1.2.1) fun e2=>
 .ob (idx x1.2.1 u1.2.1) fun e3=>
 .leaf (.inl (x1.1,x1.2.1,(i64.wrap ((BitVec.ofInt (i64.bits) (x1.2.2.1) ||| BitVec.ofInt (i64.bits) ((i64.wrap ((u8.wrap ((BitVec.ofInt (u8.bits) (e2.1) ^^^ BitVec.ofInt (u8.bits) (e3.1)).toNat:Nat)))))).toNat:Nat)),u1.1,(i64.wrap (u1.2.1+(1:Int))),()))) (
 .leaf (.inr (x1.2.2.1,())))
def A0e (a0:YBs) (a1:YBs):Tree (YI):=
 .br ((a0.1.length:Int) != (a1.1.length:Int)) (
 .leaf ((-1:Int),())) (
 .ob (Ax W7 (a0.1,a1.1,(0:Int),(a0.1.length:Int),(0:Int),())) fun o4=>
 .leaf o4)
def Vq (a0:YBs) (a1:YBs):Option (YI):=(A0e a0 a1).val
def Aj4 (a0:YBs) (a1:YBs):Tree ((Bool×Unit)):=
 .br ((a0.1.length:Int)==(16:Int)) (
 .ob (Vq a0 a1) fun r1=>
 .leaf ((r1.1==(0:Int)),())) (
 .leaf (false,()))
def Qo (a0:YBs) (a1:YBs):Option ((Bool×Unit)):=(Aj4 a0 a1).val
def At9 (a0:YBs) (a1:YI) (a2:A7) (a3:Aq):Tree (YI):=
 letI u1:=a3.2.2.2;.ob (Aib a0) fun r1=>
 .br (!r1.1) (
 .leaf ((1:Int),())) (
 .ob (Bh a1 ((0:Int),()) ((1000000:Int),())) fun r2=>
 .br (!r2.1) (
 .leaf ((1:Int),())) (
 .ob (Gr a2) fun r3=>
 .br (!r3.1) (
 .leaf ((1:Int),())) (
 .br (a3.1 != (3:Int)) (
 .leaf ((1:Int),())) (
 .ob (Dh a3) fun r4=>
 .br (!r4.1) (
 .leaf ((1:Int),())) (
 .ob (Auw a1 (u1.2.1,())) fun r5=>
 .br (!r5.1) (
 .leaf ((9:Int),())) (
 .ob (Apy a0 a2 (a3.2.1,()) (a3.2.2.1,()) (u1.1,()) (u1.2.1,())) fun r6=>
 .ob (Qo (u1.2.2.1,()) r6) fun r7=>
 .br (!r7.1) (
 .leaf ((2:Int),())) (
 .leaf ((0:Int),()))))))))
def Aux (a0:YBs) (a1:YI) (a2:A7) (a3:Aq):Option (YI):=(At9 a0 a1 a2 a3).val
def Abi (a0:YBs) (a1:YBs):Tree (YBs):=
 .ob (Vp a0 a1) fun r1=>
 .leaf r1
def Abp (a0:YBs) (a1:YBs):Option (YBs):=(Abi a0 a1).val
end
end Go.Proofs.YtnbbbaplphcebaaGreat

/-
  What the functions of the seat answer, as plain terms (printed by a program, proved in the texts P); nothing is assumed.
-/
import Derived.Test.YtfljmgnghlpapaaGreatEv2
namespace Go.Proofs.YtfljmgnghlpapaaGreat
open Go.RowKit IntKind
set_option linter.unusedVariables false
set_option maxRecDepth 100000
set_option maxHeartbeats 4000000
noncomputable section
abbrev YB:Type:=Int×Unit
abbrev YI:Type:=Int×Unit
abbrev YBs:Type:=List YB×Unit
abbrev A97:Type:=ByteArray×Int×Unit
abbrev Bi:Type:=Int×Int×Unit
abbrev Eh:Type:=(List YB)×Int×Unit
abbrev Cj:Type:=Int×(List YI)×Unit
abbrev Bgm:Type:=Int×Int×Bool×Int×Unit
abbrev Aq:Type:=(List YB)×Int×Int×Unit
abbrev Ak:Type:=Int×Int×Int×Int×Unit
abbrev J4:Type:=(List YI)×(List YB)×Int×Unit
abbrev Ap:Type:=Int×Int×(List YB)×Int×Unit
abbrev YEp:Type:=Int×(List YB)×Int×Int×(List YI)×Unit
abbrev Bb:Type:=Int×Int×(List Ap)×Unit
abbrev A6:Type:=Int×Int×Int×(List YB)×(List YB)×Int×Int×(List YB)×(List YB)×Int×Int×Int×Unit
abbrev Ch:Type:=Int×Int×(List YB)×(List YB)×Int×(List YB)×(List YB)×Int×Int×(List YB)×(List YB)×Unit
abbrev Ou:Type:=Int×Int×Int×Int×(List YB)×(List YB)×Int×(List YB)×(List YB)×Int×Int×(List YB)×(List YB)×Unit
abbrev Bt:Type:=Int×(List YB)×Int×(List YB)×Int×Int×(List YI)×Int×(List YB)×Int×Int×(List YI)×Bool×Int×(List YB)×Unit
abbrev Ad:Type:=Int×(List YB)×(List YB)×Int×(List YB)×Int×(List YB)×Int×Int×(List YI)×Int×(List YB)×Int×Int×(List YI)×Bool×Int×(List YB)×Int×Int×(List Ap)×Int×Int×Bool×Unit
abbrev Bp:Type:=Int×(List Ad)×Unit
abbrev Az:Type:=(List YBs)×(List YB)×(List YB)×Int×Int×(List Ad)×(List Ak)×Unit
def A59 (a0:YBs):Tree ((Bool×Unit)):=
 .leaf ((decide ((a0.1.length:Int)>(1048576:Int))),())
def Ant (a0:YBs):Option ((Bool×Unit)):=(A59 a0).val
def Sc (x1:Aq):Option (Aq⊕(Eh)):=
 Tree.val (α:=Aq⊕(Eh)) <|
 .br (decide (x1.2.2.1<(x1.1.length:Int))) (
 .br (decide (x1.2.2.1<(4000:Int))) (
 .ob (idx x1.1 x1.2.2.1) fun e2=>
 .leaf (.inl (x1.1,(i64.wrap ((BitVec.ofInt (i64.bits) ((i64.wrap ((i64.wrap ((i64.wrap (x1.2.1*(137:Int)))+(i64.wrap (e2.1))))+(11:Int)))) &&& BitVec.ofInt (i64.bits) ((1073741823:Int))).toNat:Nat)),(i64.wrap (x1.2.2.1+(1:Int))),()))) (
 .leaf (.inr (x1.1,x1.2.1,())))) (
 .leaf (.inr (x1.1,x1.2.1,())))
def Aj0 (a0:YBs):Tree (Aq):=
 .ob (As Sc (a0.1,(i64.wrap ((127812:Int)+(a0.1.length:Int))),(0:Int),())) fun o3=>
 .leaf (o3.1,(0:Int),o3.2.1,())
def Tq (a0:YBs):Option (Aq):=(Aj0 a0).val
def Ae1 (a0:Aq):Tree (YI×Aq):=
 letI u1:=a0.2.2;.br (decide (a0.2.1<(a0.1.length:Int))) (
 .ob (idx a0.1 a0.2.1) fun e1=>
 .leaf (((i64.wrap ((BitVec.ofInt (i64.bits) ((i64.wrap ((i64.wrap ((BitVec.ofInt (i64.bits) ((i64.wrap ((BitVec.ofInt (i64.bits) ((Int.fdiv (i64.wrap ((i64.wrap (u1.1*(6364136223846793005:Int)))+(1442695040888963407:Int))) (2^(min ((33:Int)).toNat i64.bits)))) ^^^ BitVec.ofInt (i64.bits) ((Int.fdiv (i64.wrap ((i64.wrap (u1.1*(6364136223846793005:Int)))+(1442695040888963407:Int))) (2^(min ((47:Int)).toNat i64.bits))))).toNat:Nat))) &&& BitVec.ofInt (i64.bits) ((255:Int))).toNat:Nat))+(i64.wrap (e1.1))))) &&& BitVec.ofInt (i64.bits) ((255:Int))).toNat:Nat)),()),(a0.1,(i64.wrap (a0.2.1+(1:Int))),(i64.wrap ((i64.wrap (u1.1*(6364136223846793005:Int)))+(1442695040888963407:Int))),()))) (
 .leaf (((i64.wrap ((BitVec.ofInt (i64.bits) ((i64.wrap ((BitVec.ofInt (i64.bits) ((Int.fdiv (i64.wrap ((i64.wrap (u1.1*(6364136223846793005:Int)))+(1442695040888963407:Int))) (2^(min ((33:Int)).toNat i64.bits)))) ^^^ BitVec.ofInt (i64.bits) ((Int.fdiv (i64.wrap ((i64.wrap (u1.1*(6364136223846793005:Int)))+(1442695040888963407:Int))) (2^(min ((47:Int)).toNat i64.bits))))).toNat:Nat))) &&& BitVec.ofInt (i64.bits) ((255:Int))).toNat:Nat)),()),(a0.1,a0.2.1,(i64.wrap ((i64.wrap (u1.1*(6364136223846793005:Int)))+(1442695040888963407:Int))),())))
def Is (a0:Aq):Option (YI×Aq):=(Ae1 a0).val
def Aa3 (a0:Aq) (a1:YI):Tree (YI×Aq):=
 .br (decide (a1.1≤(0:Int))) (
 .leaf (((0:Int),()),a0)) (
 .br (decide (a1.1≤(256:Int))) (
 .ob (Is a0) fun r1=>
 .chk (decide ((0:Int)<a1.1)) <|
 .chk (decide ((0:Int)≤r1.1.1)) <|
 .leaf (((r1.1.1%a1.1),()),(a0.1,r1.2.2.1,r1.2.2.2.1,()))) (
 .ob (Is a0) fun r2=>
 .ob (Is (a0.1,r2.2.2.1,r2.2.2.2.1,())) fun r3=>
 .ob (Is (a0.1,r3.2.2.1,r3.2.2.2.1,())) fun r4=>
 .chk (decide ((0:Int)<a1.1)) <|
 .chk (decide ((0:Int)≤(i64.wrap ((i64.wrap ((i64.wrap (r2.1.1*(65536:Int)))+(i64.wrap (r3.1.1*(256:Int)))))+r4.1.1)))) <|
 .leaf ((((i64.wrap ((i64.wrap ((i64.wrap (r2.1.1*(65536:Int)))+(i64.wrap (r3.1.1*(256:Int)))))+r4.1.1))%a1.1),()),(a0.1,r4.2.2.1,r4.2.2.2.1,()))))
def A7 (a0:Aq) (a1:YI):Option (YI×Aq):=(Aa3 a0 a1).val
def Kg (x1:Int×(List YB)×Int×(List YB)×Int×Int×Unit):Option ((Int×(List YB)×Int×(List YB)×Int×Int×Unit)⊕(((List YB)×(List YB)×Int×Int×Unit))):=
 letI u1:=x1.2.2.2;Tree.val (α:=(Int×(List YB)×Int×(List YB)×Int×Int×Unit)⊕(((List YB)×(List YB)×Int×Int×Unit))) <|
 .br (decide (x1.2.2.1<x1.1)) (
 .ob (Is (u1.1,u1.2.1,u1.2.2.1,())) fun r2=>
 .chk (decide (x1.2.1.length+[((u8.wrap (r2.1.1)),())].length≤4294967296)) <|
 .leaf (.inl (x1.1,(x1.2.1++[((u8.wrap (r2.1.1)),())]),(i64.wrap (x1.2.2.1+(1:Int))),u1.1,r2.2.2.1,r2.2.2.2.1,()))) (
 .leaf (.inr (x1.2.1,u1.1,u1.2.1,u1.2.2.1,())))
def Aa4 (a0:Aq) (a1:YI):Tree (YBs×Aq):=
 .ob (As Kg (a1.1,([]:List YB),(0:Int),a0.1,a0.2.1,a0.2.2.1,())) fun o3=>
 .leaf ((o3.1,()),(o3.2.1,o3.2.2.1,o3.2.2.2.1,()))
def Cd (a0:Aq) (a1:YI):Option (YBs×Aq):=(Aa4 a0 a1).val
def Oc (x2:(List YBs)×Int×(List YB)×Int×Int×Unit):Option (((List YBs)×Int×(List YB)×Int×Int×Unit)⊕(((List YBs)×(List YB)×Int×Int×Unit))):=
 letI u1:=x2.2.2;Tree.val (α:=((List YBs)×Int×(List YB)×Int×Int×Unit)⊕(((List YBs)×(List YB)×Int×Int×Unit))) <|
 .br (decide (x2.2.1>(0:Int))) (
 .ob (A7 (u1.1,u1.2.1,u1.2.2.1,()) ((32:Int),())) fun r3=>
 .ob (Cd (u1.1,r3.2.2.1,r3.2.2.2.1,()) ((i64.wrap ((1:Int)+r3.1.1)),())) fun r4=>
 .chk (decide (x2.1.length+[r4.1].length≤4294967296)) <|
 .leaf (.inl ((x2.1++[r4.1]),(i64.wrap (x2.2.1-(1:Int))),u1.1,r4.2.2.1,r4.2.2.2.1,()))) (
 .leaf (.inr (x2.1,u1.1,u1.2.1,u1.2.2.1,())))
def Aa5 (a0:Aq):Tree (((List YBs)×Unit)×Aq):=
 .ob (A7 a0 ((3:Int),())) fun r1=>
 .ob (As Oc (([]:List YBs),(i64.wrap ((1:Int)+r1.1.1)),a0.1,r1.2.2.1,r1.2.2.2.1,())) fun o5=>
 .leaf ((o5.1,()),(o5.2.1,o5.2.2.1,o5.2.2.2.1,()))
def Acv (a0:Aq):Option (((List YBs)×Unit)×Aq):=(Aa5 a0).val
def Aa7 (a0:Eh):Tree (Eh):=
 .chk (decide (([]:List YB).length+a0.1.length≤4294967296)) <|
 .leaf ((([]:List YB)++a0.1),a0.2.1,())
def Su (a0:Eh):Option (Eh):=(Aa7 a0).val
def Ap6 (a0:YI) (a1:YI) (a2:YI):Tree ((Bool×Unit)):=
 .br (decide (a0.1≥a1.1)) (
 .leaf ((decide (a0.1≤a2.1)),())) (
 .leaf (false,()))
def Bc (a0:YI) (a1:YI) (a2:YI):Option ((Bool×Unit)):=(Ap6 a0 a1 a2).val
def Ae3 (a0:Eh):Tree ((Bool×Unit)):=
 .ob (Bc ((a0.1.length:Int),()) ((1:Int),()) ((32:Int),())) fun r1=>
 .br r1.1 (
 .ob (Bc (a0.2.1,()) ((0:Int),()) ((10000:Int),())) fun r2=>
 .leaf r2) (
 .leaf (false,()))
def Vh (a0:Eh):Option ((Bool×Unit)):=(Ae3 a0).val
def Pm (x1:Int×(List YB)×Int×Unit):Option ((Int×(List YB)×Int×Unit)⊕(YBs)):=
 letI u1:=x1.2.2;Tree.val (α:=(Int×(List YB)×Int×Unit)⊕(YBs)) <|
 .br (decide (u1.1≥(0:Int))) (
 .chk (decide ((0:Int)≤(i64.wrap ((8:Int)*u1.1)))) <|
 .chk (decide (x1.2.1.length+[((u8.wrap ((i64.wrap ((BitVec.ofInt (i64.bits) ((Int.fdiv x1.1 (2^(min ((i64.wrap ((8:Int)*u1.1))).toNat i64.bits)))) &&& BitVec.ofInt (i64.bits) ((255:Int))).toNat:Nat)))),())].length≤4294967296)) <|
 .leaf (.inl (x1.1,(x1.2.1++[((u8.wrap ((i64.wrap ((BitVec.ofInt (i64.bits) ((Int.fdiv x1.1 (2^(min ((i64.wrap ((8:Int)*u1.1))).toNat i64.bits)))) &&& BitVec.ofInt (i64.bits) ((255:Int))).toNat:Nat)))),())]),(i64.wrap (u1.1-(1:Int))),()))) (
 .leaf (.inr (x1.2.1,())))
def Ap7 (a0:YBs) (a1:YI) (a2:YI):Tree (YBs):=
 .chk (decide (([]:List YB).length+a0.1.length≤4294967296)) <|
 .br (decide (a2.1<(1:Int))) (
 .leaf ((([]:List YB)++a0.1),())) (
 .br (decide (a2.1>(6:Int))) (
 .leaf ((([]:List YB)++a0.1),())) (
 .ob (As Pm (a1.1,(([]:List YB)++a0.1),(i64.wrap (a2.1-(1:Int))),())) fun o2=>
 .leaf o2))
def F4 (a0:YBs) (a1:YI) (a2:YI):Option (YBs):=(Ap7 a0 a1 a2).val
def Aj2 (x1:Int×(List YB)×Unit):Option ((Int×(List YB)×Unit)⊕((Int×(List YB)×Unit))):=
 Tree.val (α:=(Int×(List YB)×Unit)⊕((Int×(List YB)×Unit))) <|
 .chk (decide ((0:Int)≤(i64.wrap ((i64.wrap (x1.1+(x1.2.1.length:Int)))+(8:Int))))) <|
 .br (((i64.wrap ((i64.wrap (x1.1+(x1.2.1.length:Int)))+(8:Int)))%(64:Int)) != (0:Int)) (
 .chk (decide (x1.2.1.length+[((0:Int),())].length≤4294967296)) <|
 .leaf (.inl (x1.1,(x1.2.1++[((0:Int),())]),()))) (
 .leaf (.inr x1))
def Au5 (a0:YI):Tree (YBs):=
 .br (decide (a0.1<(0:Int))) (
 .leaf (([]:List YB),())) (
 .br (decide (a0.1>(1048576:Int))) (
 .leaf (([]:List YB),())) (
 .ob (As Aj2 (a0.1,[((128:Int),())],())) fun o2=>
 .ob (F4 (o2.2.1,()) ((0:Int),()) ((4:Int),())) fun r3=>
 .ob (F4 r3 ((i64.wrap ((8:Int)*o2.1)),()) ((4:Int),())) fun r4=>
 .leaf r4))
def Avz (a0:YI):Option (YBs):=(Au5 a0).val
def Aw9:Tree (((List YI)×Unit)):=
 .leaf ([((1779033703:Int),()),((3144134277:Int),()),((1013904242:Int),()),((2773480762:Int),()),((1359893119:Int),()),((2600822924:Int),()),((528734635:Int),()),((1541459225:Int),())],())
def Ax1:Option (((List YI)×Unit)):=(Aw9).val
def Kh (x1:(List YI)×Int×Unit):Option (((List YI)×Int×Unit)⊕((Bool×Unit)⊕((List YI)×Unit))):=
 Tree.val (α:=((List YI)×Int×Unit)⊕((Bool×Unit)⊕((List YI)×Unit))) <|
 .br (decide (x1.2.1<(x1.1.length:Int))) (
 .ob (idx x1.1 x1.2.1) fun e2=>
 .ob (Bc e2 ((0:Int),()) ((4294967295:Int),())) fun r3=>
 .br (!r3.1) (
 .leaf (.inr (.inl (false,())))) (
 .leaf (.inl (x1.1,(i64.wrap (x1.2.1+(1:Int))),())))) (
 .leaf (.inr (.inr (x1.1,()))))
def Aa8 (a0:(List YI)×Unit):Tree ((Bool×Unit)):=
 .ob (As Kh (a0.1,(0:Int),())) fun o4=>
 .sm o4 (fun o5=>
 .leaf o5) (fun o6=>
 .leaf (((o6.1.length:Int)==(8:Int)),()))
def Acw (a0:(List YI)×Unit):Option ((Bool×Unit)):=(Aa8 a0).val
def A6c:Tree (((List YI)×Unit)):=
 .leaf ([((1116352408:Int),()),((1899447441:Int),()),((3049323471:Int),()),((3921009573:Int),()),((961987163:Int),()),((1508970993:Int),()),((2453635748:Int),()),((2870763221:Int),()),((3624381080:Int),()),((310598401:Int),()),((607225278:Int),()),((1426881987:Int),()),((1925078388:Int),()),((2162078206:Int),()),((2614888103:Int),()),((3248222580:Int),()),((3835390401:Int),()),((4022224774:Int),()),((264347078:Int),()),((604807628:Int),()),((770255983:Int),()),((1249150122:Int),()),((1555081692:Int),()),((1996064986:Int),()),((2554220882:Int),()),((2821834349:Int),()),((2952996808:Int),()),((3210313671:Int),()),((3336571891:Int),()),((3584528711:Int),()),((113926993:Int),()),((338241895:Int),()),((666307205:Int),()),((773529912:Int),()),((1294757372:Int),()),((1396182291:Int),()),((1695183700:Int),()),((1986661051:Int),()),((2177026350:Int),()),((2456956037:Int),()),((2730485921:Int),()),((2820302411:Int),()),((3259730800:Int),()),((3345764771:Int),()),((3516065817:Int),()),((3600352804:Int),()),((4094571909:Int),()),((275423344:Int),()),((430227734:Int),()),((506948616:Int),()),((659060556:Int),()),((883997877:Int),()),((958139571:Int),()),((1322822218:Int),()),((1537002063:Int),()),((1747873779:Int),()),((1955562222:Int),()),((2024104815:Int),()),((2227730452:Int),()),((2361852424:Int),()),((2428436474:Int),()),((2756734187:Int),()),((3204031479:Int),()),((3329325298:Int),())],())
def A6h:Option (((List YI)×Unit)):=(A6c).val
def Mq (x1:(List YB)×Int×Int×Int×Int×Unit):Option (((List YB)×Int×Int×Int×Int×Unit)⊕((Int×Int×Int×Unit))):=
 letI u1:=x1.2.2;Tree.val (α:=((List YB)×Int×Int×Int×Int×Unit)⊕((Int×Int×Int×Unit))) <|
 .br (decide (u1.2.2.1<u1.1)) (
 .ob (idx x1.1 (i64.wrap (x1.2.1+u1.2.2.1))) fun e2=>
 .leaf (.inl (x1.1,x1.2.1,u1.1,(i64.wrap ((i64.wrap (u1.2.1*(256:Int)))+(i64.wrap (e2.1)))),(i64.wrap (u1.2.2.1+(1:Int))),()))) (
 .leaf (.inr (x1.2.1,u1.1,u1.2.1,())))
def Ap8 (a0:YBs) (a1:YI) (a2:YI):Tree (YI×YI×(Bool×Unit)):=
 .br (decide (a2.1<(1:Int))) (
 .leaf (((0:Int),()),((0:Int),()),(false,()))) (
 .br (decide (a2.1>(6:Int))) (
 .leaf (((0:Int),()),((0:Int),()),(false,()))) (
 .br (decide (a1.1<(0:Int))) (
 .leaf (((0:Int),()),((0:Int),()),(false,()))) (
 .br (decide (a1.1>(i64.wrap ((a0.1.length:Int)-a2.1)))) (
 .leaf (((0:Int),()),((0:Int),()),(false,()))) (
 .ob (As Mq (a0.1,a1.1,a2.1,(0:Int),(0:Int),())) fun o3=>
 .leaf ((o3.2.2.1,()),((i64.wrap (o3.1+o3.2.1)),()),(true,()))))))
def Aq4 (a0:YBs) (a1:YI) (a2:YI):Option (YI×YI×(Bool×Unit)):=(Ap8 a0 a1 a2).val
def Au7 (a0:YI) (a1:YI):Tree (YI):=
 .br (decide (a1.1<(1:Int))) (
 .leaf ((i64.wrap ((BitVec.ofInt (i64.bits) (a0.1) &&& BitVec.ofInt (i64.bits) ((4294967295:Int))).toNat:Nat)),())) (
 .br (decide (a1.1>(31:Int))) (
 .leaf ((i64.wrap ((BitVec.ofInt (i64.bits) (a0.1) &&& BitVec.ofInt (i64.bits) ((4294967295:Int))).toNat:Nat)),())) (
 .chk (decide ((0:Int)≤a1.1)) <|
 .chk (decide ((0:Int)≤(i64.wrap ((32:Int)-a1.1)))) <|
 .leaf ((i64.wrap ((BitVec.ofInt (i64.bits) ((i64.wrap ((BitVec.ofInt (i64.bits) ((Int.fdiv (i64.wrap ((BitVec.ofInt (i64.bits) (a0.1) &&& BitVec.ofInt (i64.bits) ((4294967295:Int))).toNat:Nat)) (2^(min (a1.1).toNat i64.bits)))) ||| BitVec.ofInt (i64.bits) ((i64.wrap ((i64.wrap ((BitVec.ofInt (i64.bits) (a0.1) &&& BitVec.ofInt (i64.bits) ((4294967295:Int))).toNat:Nat))*2^(min ((i64.wrap ((32:Int)-a1.1))).toNat i64.bits))))).toNat:Nat))) &&& BitVec.ofInt (i64.bits) ((4294967295:Int))).toNat:Nat)),())))
def Ig (a0:YI) (a1:YI):Option (YI):=(Au7 a0 a1).val
def Hf (x1:(List YB)×(List YI)×Int×Unit):Option (((List YB)×(List YI)×Int×Unit)⊕(((List YI)×Unit))):=
 Tree.val (α:=((List YB)×(List YI)×Int×Unit)⊕(((List YI)×Unit))) <|
 .br (decide (x1.2.2.1<(16:Int))) (
 .ob (Aq4 (x1.1,()) ((i64.wrap ((4:Int)*x1.2.2.1)),()) ((4:Int),())) fun r2=>
 .chk (decide (x1.2.1.length+[r2.1].length≤4294967296)) <|
 .leaf (.inl (x1.1,(x1.2.1++[r2.1]),(i64.wrap (x1.2.2.1+(1:Int))),()))) (
 .leaf (.inr (x1.2.1,())))
def Gj (x4:(List YI)×Int×Unit):Option (((List YI)×Int×Unit)⊕(((List YI)×Unit))):=
 Tree.val (α:=((List YI)×Int×Unit)⊕(((List YI)×Unit))) <|
 .br (decide (x4.2.1<(64:Int))) (
 .ob (idx x4.1 (i64.wrap (x4.2.1-(15:Int)))) fun e5=>
 .ob (idx x4.1 (i64.wrap (x4.2.1-(2:Int)))) fun e6=>
 .ob (Ig e5 ((7:Int),())) fun r7=>
 .ob (Ig e5 ((18:Int),())) fun r8=>
 .ob (Ig e6 ((17:Int),())) fun r9=>
 .ob (Ig e6 ((19:Int),())) fun r10=>
 .ob (idx x4.1 (i64.wrap (x4.2.1-(7:Int)))) fun e11=>
 .ob (idx x4.1 (i64.wrap (x4.2.1-(16:Int)))) fun e12=>
 .chk (decide (x4.1.length+[((i64.wrap ((BitVec.ofInt (i64.bits) ((i64.wrap ((i64.wrap ((i64.wrap (e11.1+e12.1))+(i64.wrap ((BitVec.ofInt (i64.bits) ((i64.wrap ((BitVec.ofInt (i64.bits) (r7.1) ^^^ BitVec.ofInt (i64.bits) (r8.1)).toNat:Nat))) ^^^ BitVec.ofInt (i64.bits) ((Int.fdiv e5.1 (2^(min ((3:Int)).toNat i64.bits))))).toNat:Nat))))+(i64.wrap ((BitVec.ofInt (i64.bits) ((i64.wrap ((BitVec.ofInt (i64.bits) (r9.1) ^^^ BitVec.ofInt (i64.bits) (r10.1)).toNat:Nat))) ^^^ BitVec.ofInt (i64.bits) ((Int.fdiv e6.1 (2^(min ((10:Int)).toNat i64.bits))))).toNat:Nat))))) &&& BitVec.ofInt (i64.bits) ((4294967295:Int))).toNat:Nat)),())].length≤4294967296)) <|
 .leaf (.inl ((x4.1++[((i64.wrap ((BitVec.ofInt (i64.bits) ((i64.wrap ((i64.wrap ((i64.wrap (e11.1+e12.1))+(i64.wrap ((BitVec.ofInt (i64.bits) ((i64.wrap ((BitVec.ofInt (i64.bits) (r7.1) ^^^ BitVec.ofInt (i64.bits) (r8.1)).toNat:Nat))) ^^^ BitVec.ofInt (i64.bits) ((Int.fdiv e5.1 (2^(min ((3:Int)).toNat i64.bits))))).toNat:Nat))))+(i64.wrap ((BitVec.ofInt (i64.bits) ((i64.wrap ((BitVec.ofInt (i64.bits) (r9.1) ^^^ BitVec.ofInt (i64.bits) (r10.1)).toNat:Nat))) ^^^ BitVec.ofInt (i64.bits) ((Int.fdiv e6.1 (2^(min ((10:Int)).toNat i64.bits))))).toNat:Nat))))) &&& BitVec.ofInt (i64.bits) ((4294967295:Int))).toNat:Nat)),())]),(i64.wrap (x4.2.1+(1:Int))),()))) (
 .leaf (.inr (x4.1,())))
def Pn (a0:YBs):Tree (((List YI)×Unit)):=
 .br ((a0.1.length:Int) != (64:Int)) (
 .leaf (([]:List YI),())) (
 .ob (As Hf (a0.1,([]:List YI),(0:Int),())) fun o3=>
 .ob (As Gj (o3.1,(16:Int),())) fun o13=>
 .leaf o13)
def Xd (a0:YBs):Option (((List YI)×Unit)):=(Pn a0).val
def Fy (x12:(List YI)×(List YI)×(List YI)×(List YI)×Int×Int×Int×Int×Int×Int×Int×Int×Int×Unit):Option (((List YI)×(List YI)×(List YI)×(List YI)×Int×Int×Int×Int×Int×Int×Int×Int×Int×Unit)⊕(((List YI)×(List YI)×Int×Int×Int×Int×Int×Int×Int×Int×Unit))):=
 letI u1:=x12.2.2;letI u2:=u1.2.2;letI u3:=u2.2.2;letI u4:=u3.2.2;letI u5:=u4.2.2;Tree.val (α:=((List YI)×(List YI)×(List YI)×(List YI)×Int×Int×Int×Int×Int×Int×Int×Int×Int×Unit)⊕(((List YI)×(List YI)×Int×Int×Int×Int×Int×Int×Int×Int×Unit))) <|
 .br (decide (u5.2.2.1<(64:Int))) (
 .ob (Ig (u4.1,()) ((6:Int),())) fun r13=>
 .ob (Ig (u4.1,()) ((11:Int),())) fun r14=>
 .ob (Ig (u4.1,()) ((25:Int),())) fun r15=>
 .ob (idx u1.1 u5.2.2.1) fun e16=>
 .ob (idx u1.2.1 u5.2.2.1) fun e17=>
 .ob (Ig (u2.1,()) ((2:Int),())) fun r18=>
 .ob (Ig (u2.1,()) ((13:Int),())) fun r19=>
 .ob (Ig (u2.1,()) ((22:Int),())) fun r20=>
 .leaf (.inl (x12.1,x12.2.1,u1.1,u1.2.1,(i64.wrap ((BitVec.ofInt (i64.bits) ((i64.wrap ((i64.wrap ((BitVec.ofInt (i64.bits) ((i64.wrap ((i64.wrap ((i64.wrap ((i64.wrap (u5.2.1+(i64.wrap ((BitVec.ofInt (i64.bits) ((i64.wrap ((BitVec.ofInt (i64.bits) (r13.1) ^^^ BitVec.ofInt (i64.bits) (r14.1)).toNat:Nat))) ^^^ BitVec.ofInt (i64.bits) (r15.1)).toNat:Nat))))+(i64.wrap ((BitVec.ofInt (i64.bits) ((i64.wrap ((BitVec.ofInt (i64.bits) (u4.1) &&& BitVec.ofInt (i64.bits) (u4.2.1)).toNat:Nat))) ^^^ BitVec.ofInt (i64.bits) ((i64.wrap ((BitVec.ofInt (i64.bits) ((i64.wrap ((BitVec.ofInt (i64.bits) (u4.1) ^^^ BitVec.ofInt (i64.bits) ((4294967295:Int))).toNat:Nat))) &&& BitVec.ofInt (i64.bits) (u5.1)).toNat:Nat)))).toNat:Nat))))+e16.1))+e17.1))) &&& BitVec.ofInt (i64.bits) ((4294967295:Int))).toNat:Nat))+(i64.wrap ((BitVec.ofInt (i64.bits) ((i64.wrap ((i64.wrap ((BitVec.ofInt (i64.bits) ((i64.wrap ((BitVec.ofInt (i64.bits) (r18.1) ^^^ BitVec.ofInt (i64.bits) (r19.1)).toNat:Nat))) ^^^ BitVec.ofInt (i64.bits) (r20.1)).toNat:Nat))+(i64.wrap ((BitVec.ofInt (i64.bits) ((i64.wrap ((BitVec.ofInt (i64.bits) ((i64.wrap ((BitVec.ofInt (i64.bits) (u2.1) &&& BitVec.ofInt (i64.bits) (u2.2.1)).toNat:Nat))) ^^^ BitVec.ofInt (i64.bits) ((i64.wrap ((BitVec.ofInt (i64.bits) (u2.1) &&& BitVec.ofInt (i64.bits) (u3.1)).toNat:Nat)))).toNat:Nat))) ^^^ BitVec.ofInt (i64.bits) ((i64.wrap ((BitVec.ofInt (i64.bits) (u2.2.1) &&& BitVec.ofInt (i64.bits) (u3.1)).toNat:Nat)))).toNat:Nat))))) &&& BitVec.ofInt (i64.bits) ((4294967295:Int))).toNat:Nat))))) &&& BitVec.ofInt (i64.bits) ((4294967295:Int))).toNat:Nat)),u2.1,u2.2.1,u3.1,(i64.wrap ((BitVec.ofInt (i64.bits) ((i64.wrap (u3.2.1+(i64.wrap ((BitVec.ofInt (i64.bits) ((i64.wrap ((i64.wrap ((i64.wrap ((i64.wrap (u5.2.1+(i64.wrap ((BitVec.ofInt (i64.bits) ((i64.wrap ((BitVec.ofInt (i64.bits) (r13.1) ^^^ BitVec.ofInt (i64.bits) (r14.1)).toNat:Nat))) ^^^ BitVec.ofInt (i64.bits) (r15.1)).toNat:Nat))))+(i64.wrap ((BitVec.ofInt (i64.bits) ((i64.wrap ((BitVec.ofInt (i64.bits) (u4.1) &&& BitVec.ofInt (i64.bits) (u4.2.1)).toNat:Nat))) ^^^ BitVec.ofInt (i64.bits) ((i64.wrap ((BitVec.ofInt (i64.bits) ((i64.wrap ((BitVec.ofInt (i64.bits) (u4.1) ^^^ BitVec.ofInt (i64.bits) ((4294967295:Int))).toNat:Nat))) &&& BitVec.ofInt (i64.bits) (u5.1)).toNat:Nat)))).toNat:Nat))))+e16.1))+e17.1))) &&& BitVec.ofInt (i64.bits) ((4294967295:Int))).toNat:Nat))))) &&& BitVec.ofInt (i64.bits) ((4294967295:Int))).toNat:Nat)),u4.1,u4.2.1,u5.1,(i64.wrap (u5.2.2.1+(1:Int))),()))) (
 .leaf (.inr (x12.1,x12.2.1,u2.1,u2.2.1,u3.1,u3.2.1,u4.1,u4.2.1,u5.1,u5.2.1,())))
def Ff (x22:(List YI)×(List YI)×(List YI)×Int×Unit):Option (((List YI)×(List YI)×(List YI)×Int×Unit)⊕(((List YI)×Unit))):=
 letI u1:=x22.2.2.2;Tree.val (α:=((List YI)×(List YI)×(List YI)×Int×Unit)⊕(((List YI)×Unit))) <|
 .br (decide (u1.1<(8:Int))) (
 .ob (idx x22.1 u1.1) fun e23=>
 .ob (idx x22.2.2.1 u1.1) fun e24=>
 .ob (idx x22.2.1 u1.1) fun e25=>
 let q26:=(x22.2.1.set (u1.1).toNat ((i64.wrap ((BitVec.ofInt (i64.bits) ((i64.wrap (e23.1+e24.1))) &&& BitVec.ofInt (i64.bits) ((4294967295:Int))).toNat:Nat)),()))
 .leaf (.inl (x22.1,q26,x22.2.2.1,(i64.wrap (u1.1+(1:Int))),()))) (
 .leaf (.inr (x22.2.1,())))
def Po (a0:(List YI)×Unit) (a1:YBs):Tree (((List YI)×Unit)):=
 .chk (decide (([]:List YI).length+a0.1.length≤4294967296)) <|
 .ob (Acw a0) fun r1=>
 .br (!r1.1) (
 .leaf ((([]:List YI)++a0.1),())) (
 .br ((a1.1.length:Int) != (64:Int)) (
 .leaf ((([]:List YI)++a0.1),())) (
 .ob A6h fun r2=>
 .ob (Xd a1) fun r3=>
 .ob (idx a0.1 (0:Int)) fun e4=>
 .ob (idx a0.1 (1:Int)) fun e5=>
 .ob (idx a0.1 (2:Int)) fun e6=>
 .ob (idx a0.1 (3:Int)) fun e7=>
 .ob (idx a0.1 (4:Int)) fun e8=>
 .ob (idx a0.1 (5:Int)) fun e9=>
 .ob (idx a0.1 (6:Int)) fun e10=>
 .ob (idx a0.1 (7:Int)) fun e11=>
 .ob (As Fy (a0.1,(([]:List YI)++a0.1),r2.1,r3.1,e4.1,e5.1,e6.1,e7.1,e8.1,e9.1,e10.1,e11.1,(0:Int),())) fun o21=>letI u1:=o21.2.2.2;letI u2:=u1.2.2.2;
 .ob (As Ff (o21.1,o21.2.1,[(o21.2.2.1,()),(u1.1,()),(u1.2.1,()),(u1.2.2.1,()),(u2.1,()),(u2.2.1,()),(u2.2.2.1,()),(u2.2.2.2.1,())],(0:Int),())) fun o27=>
 .leaf o27))
def Qb (a0:(List YI)×Unit) (a1:YBs):Option (((List YI)×Unit)):=(Po a0 a1).val
def Kp (x1:J4):Option (J4⊕(YBs)):=
 Tree.val (α:=J4⊕(YBs)) <|
 .br (decide (x1.2.2.1<(8:Int))) (
 .ob (idx x1.1 x1.2.2.1) fun e2=>
 .ob (F4 (x1.2.1,()) e2 ((4:Int),())) fun r3=>
 .leaf (.inl (x1.1,r3.1,(i64.wrap (x1.2.2.1+(1:Int))),()))) (
 .leaf (.inr (x1.2.1,())))
def Aj5 (a0:(List YI)×Unit):Tree (YBs):=
 .ob (As Kp (a0.1,([]:List YB),(0:Int),())) fun o4=>
 .leaf o4
def Ama (a0:(List YI)×Unit):Option (YBs):=(Aj5 a0).val
def O8 (x3:(List YB)×(List YI)×Int×Unit):Option (((List YB)×(List YI)×Int×Unit)⊕(((List YI)×Unit))):=
 letI u1:=x3.2.2;Tree.val (α:=((List YB)×(List YI)×Int×Unit)⊕(((List YI)×Unit))) <|
 .br (decide (u1.1<(x3.1.length:Int))) (
 .chk (decide ((0:Int)≤u1.1)) <|
 .chk (decide (u1.1≤(i64.wrap (u1.1+(64:Int))))) <|
 .chk (decide ((i64.wrap (u1.1+(64:Int)))≤(x3.1.length:Int))) <|
 .ob (Qb (x3.2.1,()) (((x3.1.take ((i64.wrap (u1.1+(64:Int)))).toNat).drop (u1.1).toNat),())) fun r4=>
 .leaf (.inl (x3.1,r4.1,(i64.wrap (u1.1+(64:Int))),()))) (
 .leaf (.inr (x3.2.1,())))
def Au9 (a0:YBs):Tree (YBs):=
 .br (decide ((a0.1.length:Int)>(1048576:Int))) (
 .leaf (([]:List YB),())) (
 .chk (decide (([]:List YB).length+a0.1.length≤4294967296)) <|
 .ob (Avz ((a0.1.length:Int),())) fun r1=>
 .chk (decide ((([]:List YB)++a0.1).length+r1.1.length≤4294967296)) <|
 .ob Ax1 fun r2=>
 .ob (As O8 (((([]:List YB)++a0.1)++r1.1),r2.1,(0:Int),())) fun o5=>
 .ob (Ama o5) fun r6=>
 .leaf r6)
def Aee (a0:YBs):Option (YBs):=(Au9 a0).val
def Mr (x2:YBs):Option (YBs⊕(YBs)):=
 Tree.val (α:=YBs⊕(YBs)) <|
 .br (decide ((x2.1.length:Int)<(64:Int))) (
 .chk (decide (x2.1.length+[((0:Int),())].length≤4294967296)) <|
 .leaf (.inl ((x2.1++[((0:Int),())]),()))) (
 .leaf (.inr x2))
def Wb (a0:YBs):Tree (YBs):=
 .br (decide ((a0.1.length:Int)>(1048576:Int))) (
 .leaf (([]:List YB),())) (
 .chk (decide (([]:List YB).length+a0.1.length≤4294967296)) <|
 .br (decide ((a0.1.length:Int)>(64:Int))) (
 .ob (Aee a0) fun r1=>
 .ob (As Mr r1) fun o3=>
 .leaf o3) (
 .ob (As Mr ((([]:List YB)++a0.1),())) fun o4=>
 .leaf o4))
def Xe (a0:YBs):Option (YBs):=(Wb a0).val
def Ms (x2:(List YB)×(List YB)×(List YB)×(List YB)×Int×Unit):Option (((List YB)×(List YB)×(List YB)×(List YB)×Int×Unit)⊕(((List YB)×(List YB)×(List YB)×Unit))):=
 letI u1:=x2.2.2.2;Tree.val (α:=((List YB)×(List YB)×(List YB)×(List YB)×Int×Unit)⊕(((List YB)×(List YB)×(List YB)×Unit))) <|
 .br (decide (u1.2.1<(64:Int))) (
 .ob (idx x2.2.1 u1.2.1) fun e3=>
 .chk (decide (x2.2.2.1.length+[((u8.wrap ((BitVec.ofInt (u8.bits) (e3.1) ^^^ BitVec.ofInt (u8.bits) ((54:Int))).toNat:Nat)),())].length≤4294967296)) <|
 .ob (idx x2.2.1 u1.2.1) fun e4=>
 .chk (decide (x2.2.2.2.1.length+[((u8.wrap ((BitVec.ofInt (u8.bits) (e4.1) ^^^ BitVec.ofInt (u8.bits) ((92:Int))).toNat:Nat)),())].length≤4294967296)) <|
 .leaf (.inl (x2.1,x2.2.1,(x2.2.2.1++[((u8.wrap ((BitVec.ofInt (u8.bits) (e3.1) ^^^ BitVec.ofInt (u8.bits) ((54:Int))).toNat:Nat)),())]),(u1.1++[((u8.wrap ((BitVec.ofInt (u8.bits) (e4.1) ^^^ BitVec.ofInt (u8.bits) ((92:Int))).toNat:Nat)),())]),(i64.wrap (u1.2.1+(1:Int))),()))) (
 .leaf (.inr (x2.1,x2.2.2.1,u1.1,())))
def Aqb (a0:YBs) (a1:YBs):Tree (YBs):=
 .br (decide ((a0.1.length:Int)>(1048576:Int))) (
 .leaf (([]:List YB),())) (
 .br (decide ((a1.1.length:Int)>(1048512:Int))) (
 .leaf (([]:List YB),())) (
 .ob (Xe a0) fun r1=>
 .ob (As Ms (a1.1,r1.1,([]:List YB),([]:List YB),(0:Int),())) fun o5=>
 .chk (decide (o5.2.1.length+o5.1.length≤4294967296)) <|
 .ob (Aee ((o5.2.1++o5.1),())) fun r6=>
 .chk (decide (o5.2.2.1.length+r6.1.length≤4294967296)) <|
 .ob (Aee ((o5.2.2.1++r6.1),())) fun r7=>
 .leaf r7))
def Rp (a0:YBs) (a1:YBs):Option (YBs):=(Aqb a0 a1).val
def Ae4 (a0:YBs) (a1:YI):Tree (YBs):=
 .ob (Bc ((a0.1.length:Int),()) ((1:Int),()) ((32:Int),())) fun r1=>
 .br (!r1.1) (
 .leaf (([]:List YB),())) (
 .ob (Bc a1 ((0:Int),()) ((10000:Int),())) fun r2=>
 .br (!r2.1) (
 .leaf (([]:List YB),())) (
 .ob (F4 ([((114:Int),()),((111:Int),()),((108:Int),()),((108:Int),())],()) a1 ((4:Int),())) fun r3=>
 .ob (Rp a0 r3) fun r4=>
 .chk (decide ((12:Int)≤(r4.1.length:Int))) <|
 .chk (decide (([]:List YB).length+((r4.1.take ((12:Int)).toNat).drop ((0:Int)).toNat).length≤4294967296)) <|
 .leaf ((([]:List YB)++((r4.1.take ((12:Int)).toNat).drop ((0:Int)).toNat)),())))
def Ag4 (a0:YBs) (a1:YI):Option (YBs):=(Ae4 a0 a1).val
def Aqd (a0:Eh):Tree (Eh×YBs):=
 .ob (Su a0) fun r1=>
 .ob (Vh a0) fun r2=>
 .br (!r2.1) (
 .leaf (r1,(([]:List YB),()))) (
 .br (a0.2.1==(10000:Int)) (
 .leaf (r1,(([]:List YB),()))) (
 .ob (Ag4 (a0.1,()) (a0.2.1,())) fun r3=>
 .leaf ((r1.1,(i64.wrap (a0.2.1+(1:Int))),()),r3)))
def Ag5 (a0:Eh):Option (Eh×YBs):=(Aqd a0).val
def I9 (x2:(List YB)×(List YB)×Int×(List YB)×(List YB)×Int×Unit):Option (((List YB)×(List YB)×Int×(List YB)×(List YB)×Int×Unit)⊕((Int×(List YB)×Unit))):=
 letI u1:=x2.2.2;letI u2:=u1.2.2;Tree.val (α:=((List YB)×(List YB)×Int×(List YB)×(List YB)×Int×Unit)⊕((Int×(List YB)×Unit))) <|
 .br (decide ((x2.2.2.2.1.length:Int)<u1.1)) (
 .chk (decide (([]:List YB).length+x2.2.2.2.2.1.length≤4294967296)) <|
 .chk (decide ((([]:List YB)++u2.1).length+x2.2.1.length≤4294967296)) <|
 .chk (decide (((([]:List YB)++u2.1)++x2.2.1).length+[((u8.wrap (u2.2.1)),())].length≤4294967296)) <|
 .ob (Rp (x2.1,()) ((((([]:List YB)++u2.1)++x2.2.1)++[((u8.wrap (u2.2.1)),())]),())) fun r3=>
 .chk (decide (x2.2.2.2.1.length+r3.1.length≤4294967296)) <|
 .leaf (.inl (x2.1,x2.2.1,u1.1,(u1.2.1++r3.1),r3.1,(i64.wrap (u2.2.1+(1:Int))),()))) (
 .leaf (.inr (u1.1,u1.2.1,())))
def Ae5 (a0:YBs) (a1:YBs) (a2:YI):Tree (YBs×(Bool×Unit)):=
 .ob (Bc a2 ((0:Int),()) ((8160:Int),())) fun r1=>
 .br (!r1.1) (
 .leaf ((([]:List YB),()),(false,()))) (
 .br (decide ((a1.1.length:Int)>(100:Int))) (
 .leaf ((([]:List YB),()),(false,()))) (
 .br (decide ((a0.1.length:Int)>(1048576:Int))) (
 .leaf ((([]:List YB),()),(false,()))) (
 .ob (As I9 (a0.1,a1.1,a2.1,([]:List YB),([]:List YB),(1:Int),())) fun o4=>
 .chk (decide ((0:Int)≤o4.1)) <|
 .chk (decide (o4.1≤(o4.2.1.length:Int))) <|
 .chk (decide (([]:List YB).length+((o4.2.1.take (o4.1).toNat).drop ((0:Int)).toNat).length≤4294967296)) <|
 .leaf (((([]:List YB)++((o4.2.1.take (o4.1).toNat).drop ((0:Int)).toNat)),()),(true,())))))
def Ag6 (a0:YBs) (a1:YBs) (a2:YI):Option (YBs×(Bool×Unit)):=(Ae5 a0 a1 a2).val
def Ae6 (a0:YBs) (a1:ByteArray×Unit):Tree (YBs):=
 .chk (decide (a1.1.size≤4294967296)) <|
 .ob (Ag6 a0 ((Eg a1.1),()) ((32:Int),())) fun r1=>
 .leaf r1.1
def C0 (a0:YBs) (a1:ByteArray×Unit):Option (YBs):=(Ae6 a0 a1).val
def Ae7 (a0:YBs):Tree (YBs):=
 .br ((a0.1.length:Int) != (12:Int)) (
 .leaf (([]:List YB),())) (
 .ob (C0 a0 ((Bq [106,97,114]),())) fun r1=>
 .leaf r1)
def Mx (a0:YBs):Option (YBs):=(Ae7 a0).val
def Ae8 (a0:YI):Tree (Bp):=
 .ob (Bc a0 ((1:Int),()) ((6:Int),())) fun r1=>
 .br (!r1.1) (
 .leaf ((0:Int),([]:List Ad),())) (
 .leaf (a0.1,([]:List Ad),()))
def My (a0:YI):Option (Bp):=(Ae8 a0).val
def Axc (a0:YBs):Tree ((Bool×Unit)):=
 .leaf (((a0.1.length:Int)==(32:Int)),())
def Amb (a0:YBs):Option ((Bool×Unit)):=(Axc a0).val
def Pp (x1:Int×Int×Int×(List Ad)×Unit):Option ((Int×Int×Int×(List Ad)×Unit)⊕(YI)):=
 letI u1:=x1.2.2;Tree.val (α:=(Int×Int×Int×(List Ad)×Unit)⊕(YI)) <|
 .br (decide (x1.2.1<(x1.2.2.2.1.length:Int))) (
 .ob (idx u1.2.1 x1.2.1) fun e2=>
 .br (!e2.2.2.2.2.2.2.2.2.2.2.2.2.2.2.2.2.2.2.2.2.2.2.2.1) (
 .leaf (.inl ((i64.wrap (x1.1+(1:Int))),(i64.wrap (x1.2.1+(1:Int))),u1.1,u1.2.1,()))) (
 .leaf (.inl (x1.1,(i64.wrap (x1.2.1+(1:Int))),u1.1,u1.2.1,())))) (
 .leaf (.inr (x1.1,())))
def Aqf (a0:Bp):Tree (YI):=
 .ob (As Pp ((0:Int),(0:Int),a0.1,a0.2.1,())) fun o3=>
 .leaf o3
def Xf (a0:Bp):Option (YI):=(Aqf a0).val
def Abc (a0:YEp):Tree ((Bool×Unit)):=
 .br (a0.1==(0:Int)) (
 .br ((a0.2.1.length:Int)==(0:Int)) (
 .br (a0.2.2.1==(0:Int)) (
 .br (a0.2.2.2.1==(0:Int)) (
 .leaf (((a0.2.2.2.2.1.length:Int)==(0:Int)),())) (
 .leaf (false,()))) (
 .leaf (false,()))) (
 .leaf (false,()))) (
 .leaf (false,()))
def Nu (a0:YEp):Option ((Bool×Unit)):=(Abc a0).val
def Ua (a0:Bt):Tree ((Bool×Unit)):=
 letI u1:=a0.2.2.2;letI u2:=u1.2.2.2;letI u3:=u2.2.2.2;.br (a0.1==(0:Int)) (
 .br ((a0.2.1.length:Int)==(0:Int)) (
 .ob (Nu (a0.2.2.1,u1.1,u1.2.1,u1.2.2.1,u2.1,())) fun r1=>
 .br r1.1 (
 .ob (Nu (u2.2.1,u2.2.2.1,u3.1,u3.2.1,u3.2.2.1,())) fun r2=>
 .br r2.1 (
 .br (!u3.2.2.2.1) (
 .br (u3.2.2.2.2.1==(0:Int)) (
 .leaf (((a0.2.2.2.2.2.2.2.2.2.2.2.2.2.2.1.length:Int)==(0:Int)),())) (
 .leaf (false,()))) (
 .leaf (false,()))) (
 .leaf (false,()))) (
 .leaf (false,()))) (
 .leaf (false,()))) (
 .leaf (false,()))
def Us (a0:Bt):Option ((Bool×Unit)):=(Ua a0).val
def Ae9 (a0:YI):Tree (Bi):=
 .ob (Bc a0 ((0:Int),()) ((255:Int),())) fun r1=>
 .br (!r1.1) (
 .leaf ((0:Int),(0:Int),())) (
 .leaf ((i64.wrap ((167772160:Int)+a0.1)),(i64.wrap ((7000:Int)+a0.1)),()))
def I6 (a0:YI):Option (Bi):=(Ae9 a0).val
def Aka (a0:Cj) (a1:YI):Tree ((Bool×Unit)):=
 .chk (decide ((0:Int)≤a1.1)) <|
 .chk (decide ((0:Int)≤(a1.1%(1024:Int)))) <|
 .ob (idx a0.2.1 ((a1.1%(1024:Int))/(32:Int))) fun e1=>
 .chk (decide ((0:Int)≤(a1.1%(1024:Int)))) <|
 .chk (decide ((0:Int)≤((a1.1%(1024:Int))%(32:Int)))) <|
 .leaf (((i64.wrap ((BitVec.ofInt (i64.bits) ((Int.fdiv e1.1 (2^(min (((a1.1%(1024:Int))%(32:Int))).toNat i64.bits)))) &&& BitVec.ofInt (i64.bits) ((1:Int))).toNat:Nat))==(1:Int)),())
def Tr (a0:Cj) (a1:YI):Option ((Bool×Unit)):=(Aka a0 a1).val
def I4 (x2:Int×Int×(List YI)×Unit):Option ((Int×Int×(List YI)×Unit)⊕((Bool×Unit)⊕Cj)):=
 Tree.val (α:=(Int×Int×(List YI)×Unit)⊕((Bool×Unit)⊕Cj)) <|
 .br (decide (x2.1<(32:Int))) (
 .ob (idx x2.2.2.1 x2.1) fun e3=>
 .ob (Bc e3 ((0:Int),()) ((4294967295:Int),())) fun r4=>
 .br (!r4.1) (
 .leaf (.inr (.inl (false,())))) (
 .leaf (.inl ((i64.wrap (x2.1+(1:Int))),x2.2.1,x2.2.2.1,())))) (
 .leaf (.inr (.inr (x2.2.1,x2.2.2.1,()))))
def Gc (x9:Int×Int×(List YI)×Unit):Option ((Int×Int×(List YI)×Unit)⊕((Bool×Unit)⊕(Unit))):=
 Tree.val (α:=(Int×Int×(List YI)×Unit)⊕((Bool×Unit)⊕(Unit))) <|
 .br (decide (x9.1<(1024:Int))) (
 .ob (Tr (x9.2.1,x9.2.2.1,()) (x9.1,())) fun r10=>
 .br r10.1 (
 .leaf (.inr (.inl (false,())))) (
 .leaf (.inl ((i64.wrap (x9.1+(1:Int))),x9.2.1,x9.2.2.1,())))) (
 .leaf (.inr (.inr ())))
def Zs (a0:Cj):Tree ((Bool×Unit)):=
 .br ((a0.2.1.length:Int) != (32:Int)) (
 .leaf (false,())) (
 .ob (Bc (a0.1,()) ((-1:Int),()) ((281474976710655:Int),())) fun r1=>
 .br (!r1.1) (
 .leaf (false,())) (
 .ob (As I4 ((0:Int),a0.1,a0.2.1,())) fun o5=>
 .sm o5 (fun o6=>
 .leaf o6) (fun o7=>
 .br (decide (o7.1≥(0:Int))) (
 .ob (Tr o7 (o7.1,())) fun r8=>
 .br (!r8.1) (
 .leaf (false,())) (
 .ob (As Gc ((i64.wrap (o7.1+(1:Int))),o7.1,o7.2.1,())) fun o11=>
 .sm o11 (fun o12=>
 .leaf o12) (fun o13=>
 .leaf (true,())))) (
 .ob (As Gc ((i64.wrap (o7.1+(1:Int))),o7.1,o7.2.1,())) fun o14=>
 .sm o14 (fun o15=>
 .leaf o15) (fun o16=>
 .leaf (true,()))))))
def Aad (a0:Cj):Option ((Bool×Unit)):=(Zs a0).val
def Aqg (a0:YEp):Tree ((Bool×Unit)):=
 .ob (Bc (a0.1,()) ((0:Int),()) ((4294967295:Int),())) fun r1=>
 .br r1.1 (
 .br ((a0.2.1.length:Int)==(32:Int)) (
 .ob (Bc (a0.2.2.1,()) ((0:Int),()) ((281474976710656:Int),())) fun r2=>
 .br r2.1 (
 .ob (Aad (a0.2.2.2.1,a0.2.2.2.2.1,())) fun r3=>
 .leaf r3) (
 .leaf (false,()))) (
 .leaf (false,()))) (
 .leaf (false,()))
def Xg (a0:YEp):Option ((Bool×Unit)):=(Aqg a0).val
def Afa (a0:Bt):Tree ((Bool×Unit)):=
 letI u1:=a0.2.2;letI u2:=u1.2.2;letI u3:=u2.2.2.2;letI u4:=u3.2.2;letI u5:=u4.2.2;.ob (Bc (a0.1,()) ((0:Int),()) ((1:Int),())) fun r1=>
 .br (!r1.1) (
 .leaf (false,())) (
 .br ((a0.2.1.length:Int) != (12:Int)) (
 .leaf (false,())) (
 .ob (Xg (u1.1,u1.2.1,u2.1,u2.2.1,u2.2.2.1,())) fun r2=>
 .br (!r2.1) (
 .leaf (false,())) (
 .br u5.2.1 (
 .br (a0.1==(0:Int)) (
 .ob (Xg (u3.1,u3.2.1,u4.1,u4.2.1,u5.1,())) fun r3=>
 .br (!r3.1) (
 .leaf (false,())) (
 .br (u3.1 != (i64.wrap (u1.1-(1:Int)))) (
 .leaf (false,())) (
 .ob (Bc (u5.2.2.1,()) ((0:Int),()) ((1000005:Int),())) fun r4=>
 .br (!r4.1) (
 .leaf (false,())) (
 .br ((a0.2.2.2.2.2.2.2.2.2.2.2.2.2.2.1.length:Int)==(0:Int)) (
 .leaf (true,())) (
 .br (a0.1==(0:Int)) (
 .br ((a0.2.2.2.2.2.2.2.2.2.2.2.2.2.2.1.length:Int)==(32:Int)) (
 .leaf ((decide (u1.1<(4294967295:Int))),())) (
 .leaf (false,()))) (
 .leaf (false,()))))))) (
 .ob (Xg (u3.1,u3.2.1,u4.1,u4.2.1,u5.1,())) fun r5=>
 .br (!r5.1) (
 .leaf (false,())) (
 .br (u3.1 != (i64.wrap (u1.1-(1:Int)))) (
 .leaf (false,())) (
 .ob (Bc (u5.2.2.1,()) ((-1:Int),()) ((1000005:Int),())) fun r6=>
 .br (!r6.1) (
 .leaf (false,())) (
 .br ((a0.2.2.2.2.2.2.2.2.2.2.2.2.2.2.1.length:Int)==(0:Int)) (
 .leaf (true,())) (
 .br (a0.1==(0:Int)) (
 .br ((a0.2.2.2.2.2.2.2.2.2.2.2.2.2.2.1.length:Int)==(32:Int)) (
 .leaf ((decide (u1.1<(4294967295:Int))),())) (
 .leaf (false,()))) (
 .leaf (false,())))))))) (
 .ob (Nu (u3.1,u3.2.1,u4.1,u4.2.1,u5.1,())) fun r7=>
 .br (!r7.1) (
 .leaf (false,())) (
 .br (u5.2.2.1 != (0:Int)) (
 .leaf (false,())) (
 .br ((a0.2.2.2.2.2.2.2.2.2.2.2.2.2.2.1.length:Int)==(0:Int)) (
 .leaf (true,())) (
 .br (a0.1==(0:Int)) (
 .br ((a0.2.2.2.2.2.2.2.2.2.2.2.2.2.2.1.length:Int)==(32:Int)) (
 .leaf ((decide (u1.1<(4294967295:Int))),())) (
 .leaf (false,()))) (
 .leaf (false,())))))))))
def Ag7 (a0:Bt):Option ((Bool×Unit)):=(Afa a0).val
def Asj (a0:YBs) (a1:YBs):Tree ((Bool×Unit)):=
 .leaf ((decide ((Ov a0.1)=(Ov a1.1))),())
def Ag8 (a0:YBs) (a1:YBs):Option ((Bool×Unit)):=(Asj a0 a1).val
def Afc (a0:Bi):Tree ((Bool×Unit)):=
 .ob (Bc (a0.1,()) ((0:Int),()) ((4294967295:Int),())) fun r1=>
 .br r1.1 (
 .ob (Bc (a0.2.1,()) ((0:Int),()) ((65535:Int),())) fun r2=>
 .leaf r2) (
 .leaf (false,()))
def Fi (a0:Bi):Option ((Bool×Unit)):=(Afc a0).val
def Fz (x6:Int×Int×Int×Int×(List Ap)×Int×Int×(List YB)×Int×Unit):Option ((Int×Int×Int×Int×(List Ap)×Int×Int×(List YB)×Int×Unit)⊕((Bool×Unit)⊕(Int×Int×Int×(List Ap)×Unit))):=
 letI u1:=x6.2.2;letI u2:=u1.2.2;Tree.val (α:=(Int×Int×Int×Int×(List Ap)×Int×Int×(List YB)×Int×Unit)⊕((Bool×Unit)⊕(Int×Int×Int×(List Ap)×Unit))) <|
 .br (decide (x6.2.1<x6.1)) (
 .ob (idx u2.1 x6.2.1) fun e7=>
 .br (and (e7.1==u2.2.1) (and (e7.2.1==u2.2.2.1) true)) (
 .leaf (.inr (.inl (false,())))) (
 .leaf (.inl (x6.1,(i64.wrap (x6.2.1+(1:Int))),u1.1,u1.2.1,u2.1,u2.2.1,u2.2.2.1,u2.2.2.2.1,u2.2.2.2.2.1,())))) (
 .leaf (.inr (.inr (x6.1,u1.1,u1.2.1,u2.1,()))))
def H4 (x2:Int×Int×Int×(List Ap)×Unit):Option ((Int×Int×Int×(List Ap)×Unit)⊕((Bool×Unit)⊕(Unit))):=
 Tree.val (α:=(Int×Int×Int×(List Ap)×Unit)⊕((Bool×Unit)⊕(Unit))) <|
 .br (decide (x2.1<(x2.2.2.2.1.length:Int))) (
 .ob (idx x2.2.2.2.1 x2.1) fun e3=>
 .ob (Fi (e3.1,e3.2.1,())) fun r4=>
 .br (!r4.1) (
 .leaf (.inr (.inl (false,())))) (
 .br ((e3.2.2.1.length:Int) != (12:Int)) (
 .leaf (.inr (.inl (false,())))) (
 .ob (Bc (e3.2.2.2.1,()) ((0:Int),()) ((1000006:Int),())) fun r5=>
 .br (!r5.1) (
 .leaf (.inr (.inl (false,())))) (
 .br (and (e3.1==x2.2.1) (and (e3.2.1==x2.2.2.1) true)) (
 .leaf (.inr (.inl (false,())))) (
 .ob (As Fz (x2.1,(0:Int),x2.2.1,x2.2.2.1,x2.2.2.2.1,e3.1,e3.2.1,e3.2.2.1,e3.2.2.2.1,())) fun o8=>
 .sm o8 (fun o9=>
 .leaf (.inr (.inl o9))) (fun o10=>
 .leaf (.inl ((i64.wrap (o10.1+(1:Int))),o10.2.1,o10.2.2.1,o10.2.2.2.1,())))))))) (
 .leaf (.inr (.inr ())))
def Se (a0:Bb):Tree ((Bool×Unit)):=
 .ob (Fi (a0.1,a0.2.1,())) fun r1=>
 .br (!r1.1) (
 .leaf (false,())) (
 .br (decide ((a0.2.2.1.length:Int)>(3:Int))) (
 .leaf (false,())) (
 .ob (As H4 ((0:Int),a0.1,a0.2.1,a0.2.2.1,())) fun o11=>
 .sm o11 (fun o12=>
 .leaf o12) (fun o13=>
 .leaf (true,()))))
def Nv (a0:Bb):Option ((Bool×Unit)):=(Se a0).val
def Afd (a0:Ad):Tree ((Bool×Unit)):=
 letI u1:=a0.2.2.2;letI u2:=u1.2.2;letI u3:=u2.2.2;letI u4:=u3.2.2;letI u5:=u4.2.2;letI u6:=u5.2.2;letI u7:=u6.2.2;letI u8:=u7.2.2.2;letI u9:=u8.2.2.2;.ob (Bc (a0.1,()) ((1:Int),()) ((9:Int),())) fun r1=>
 .br (!r1.1) (
 .leaf (false,())) (
 .br ((a0.2.1.length:Int) != (12:Int)) (
 .leaf (false,())) (
 .br ((a0.2.2.1.length:Int) != (12:Int)) (
 .leaf (false,())) (
 .ob (Bc (u9.1,()) ((0:Int),()) ((1000000:Int),())) fun r2=>
 .br (!r2.1) (
 .leaf (false,())) (
 .ob (Bc (u9.2.1,()) ((0:Int),()) ((1000000:Int),())) fun r3=>
 .br (!r3.1) (
 .leaf (false,())) (
 .br u9.2.2.1 (
 .ob (Us (u1.1,u1.2.1,u2.1,u2.2.1,u3.1,u3.2.1,u4.1,u4.2.1,u5.1,u5.2.1,u6.1,u6.2.1,u7.1,u7.2.1,u7.2.2.1,())) fun r4=>
 .br r4.1 (
 .ob (I6 ((-1:Int),())) fun r5=>
 .br (and (u8.1==r5.1) (and (u8.2.1==r5.2.1) true)) (
 .br ((a0.2.2.2.2.2.2.2.2.2.2.2.2.2.2.2.2.2.2.2.2.1.length:Int)==(0:Int)) (
 .leaf ((u9.2.1==(0:Int)),())) (
 .leaf (false,()))) (
 .leaf (false,()))) (
 .leaf (false,()))) (
 .ob (Ag7 (u1.1,u1.2.1,u2.1,u2.2.1,u3.1,u3.2.1,u4.1,u4.2.1,u5.1,u5.2.1,u6.1,u6.2.1,u7.1,u7.2.1,u7.2.2.1,())) fun r6=>
 .br r6.1 (
 .br (u1.1==(1:Int)) (
 .ob (Ag8 (u1.2.1,()) (a0.2.2.1,())) fun r7=>
 .br r7.1 (
 .ob (Nv (u8.1,u8.2.1,u8.2.2.1,())) fun r8=>
 .leaf r8) (
 .leaf (false,()))) (
 .leaf (false,()))) (
 .leaf (false,()))))))))
def Qc (a0:Ad):Option ((Bool×Unit)):=(Afd a0).val
def Lf (x1:(List YB)×Int×Int×(List Ad)×Unit):Option (((List YB)×Int×Int×(List Ad)×Unit)⊕(YI⊕(Unit))):=
 Tree.val (α:=((List YB)×Int×Int×(List Ad)×Unit)⊕(YI⊕(Unit))) <|
 .br (decide (x1.2.1<(x1.2.2.2.1.length:Int))) (
 .ob (idx x1.2.2.2.1 x1.2.1) fun e2=>
 .ob (Ag8 (e2.2.2.1,()) (x1.1,())) fun r3=>
 .br r3.1 (
 .leaf (.inr (.inl (x1.2.1,())))) (
 .leaf (.inl (x1.1,(i64.wrap (x1.2.1+(1:Int))),x1.2.2.1,x1.2.2.2.1,())))) (
 .leaf (.inr (.inr ())))
def Aff (a0:Bp) (a1:YBs):Tree (YI):=
 .ob (As Lf (a1.1,(0:Int),a0.1,a0.2.1,())) fun o4=>
 .sm o4 (fun o5=>
 .leaf o5) (fun o6=>
 .leaf ((-1:Int),()))
def Vi (a0:Bp) (a1:YBs):Option (YI):=(Aff a0 a1).val
def Nm (x3:Int×Int×(List Ad)×Unit):Option ((Int×Int×(List Ad)×Unit)⊕((Bool×Unit)⊕(Unit))):=
 Tree.val (α:=(Int×Int×(List Ad)×Unit)⊕((Bool×Unit)⊕(Unit))) <|
 .br (decide (x3.1<(x3.2.2.1.length:Int))) (
 .ob (idx x3.2.2.1 x3.1) fun e4=>
 .ob (Qc e4) fun r5=>
 .br (!r5.1) (
 .leaf (.inr (.inl (false,())))) (
 .ob (idx x3.2.2.1 x3.1) fun e6=>
 .ob (Vi (x3.2.1,x3.2.2.1,()) (e6.2.2.1,())) fun r7=>
 .br (r7.1 != x3.1) (
 .leaf (.inr (.inl (false,())))) (
 .leaf (.inl ((i64.wrap (x3.1+(1:Int))),x3.2.1,x3.2.2.1,()))))) (
 .leaf (.inr (.inr ())))
def Akg (a0:Bp):Tree ((Bool×Unit)):=
 .ob (Bc (a0.1,()) ((1:Int),()) ((6:Int),())) fun r1=>
 .br (!r1.1) (
 .leaf (false,())) (
 .br (decide ((a0.2.1.length:Int)>(12:Int))) (
 .leaf (false,())) (
 .ob (Xf a0) fun r2=>
 .br (decide (r2.1>a0.1)) (
 .leaf (false,())) (
 .ob (As Nm ((0:Int),a0.1,a0.2.1,())) fun o8=>
 .sm o8 (fun o9=>
 .leaf o9) (fun o10=>
 .leaf (true,())))))
def Aae (a0:Bp):Option ((Bool×Unit)):=(Akg a0).val
def Fg (x9:(List Ak)×Int×Int×Unit):Option (((List Ak)×Int×Int×Unit)⊕((Bool×Unit)⊕((List Ak)×Int×Unit))):=
 Tree.val (α:=((List Ak)×Int×Int×Unit)⊕((Bool×Unit)⊕((List Ak)×Int×Unit))) <|
 .br (decide (x9.2.2.1<x9.2.1)) (
 .ob (idx x9.1 x9.2.2.1) fun e10=>
 .ob (idx x9.1 x9.2.1) fun e11=>
 .br (and (e10.1==e11.1) (and (e10.2.1==e11.2.1) true)) (
 .leaf (.inr (.inl (false,())))) (
 .leaf (.inl (x9.1,x9.2.1,(i64.wrap (x9.2.2.1+(1:Int))),())))) (
 .leaf (.inr (.inr (x9.1,x9.2.1,()))))
def Gk (x1:(List Ak)×Int×Unit):Option (((List Ak)×Int×Unit)⊕((Bool×Unit)⊕(Unit))):=
 Tree.val (α:=((List Ak)×Int×Unit)⊕((Bool×Unit)⊕(Unit))) <|
 .br (decide (x1.2.1<(x1.1.length:Int))) (
 .ob (idx x1.1 x1.2.1) fun e2=>
 .ob (Fi (e2.1,e2.2.1,())) fun r3=>
 .br (!r3.1) (
 .leaf (.inr (.inl (false,())))) (
 .ob (idx x1.1 x1.2.1) fun e4=>
 .ob (Bc (e4.2.2.1,()) ((0:Int),()) ((1000000:Int),())) fun r5=>
 .br (!r5.1) (
 .leaf (.inr (.inl (false,())))) (
 .ob (idx x1.1 x1.2.1) fun e6=>
 .ob (idx x1.1 x1.2.1) fun e7=>
 .ob (Bc (e6.2.2.2.1,()) ((0:Int),()) ((i64.wrap ((3:Int)*e7.2.2.1)),())) fun r8=>
 .br (!r8.1) (
 .leaf (.inr (.inl (false,())))) (
 .ob (As Fg (x1.1,x1.2.1,(0:Int),())) fun o12=>
 .sm o12 (fun o13=>
 .leaf (.inr (.inl o13))) (fun o14=>
 .leaf (.inl (o14.1,(i64.wrap (o14.2.1+(1:Int))),()))))))) (
 .leaf (.inr (.inr ())))
def Od (a0:(List Ak)×Unit):Tree ((Bool×Unit)):=
 .br (decide ((a0.1.length:Int)>(8:Int))) (
 .leaf (false,())) (
 .ob (As Gk (a0.1,(0:Int),())) fun o15=>
 .sm o15 (fun o16=>
 .leaf o16) (fun o17=>
 .leaf (true,())))
def Ih (a0:(List Ak)×Unit):Option ((Bool×Unit)):=(Od a0).val
def Akh (a0:YBs):Tree ((Bool×Unit)):=
 .ob (Bc ((a0.1.length:Int),()) ((1:Int),()) ((32:Int),())) fun r1=>
 .leaf r1
def Lw (a0:YBs):Option ((Bool×Unit)):=(Akh a0).val
def Hg (x6:Int×(List YBs)×(List YB)×(List YB)×Int×Int×(List Ad)×(List Ak)×Unit):Option ((Int×(List YBs)×(List YB)×(List YB)×Int×Int×(List Ad)×(List Ak)×Unit)⊕((Bool×Unit)⊕Az)):=
 letI u1:=x6.2.2;letI u2:=u1.2.2.2;Tree.val (α:=(Int×(List YBs)×(List YB)×(List YB)×Int×Int×(List Ad)×(List Ak)×Unit)⊕((Bool×Unit)⊕Az)) <|
 .br (decide (x6.1<(x6.2.1.length:Int))) (
 .ob (idx x6.2.1 x6.1) fun e7=>
 .ob (Lw e7) fun r8=>
 .br (!r8.1) (
 .leaf (.inr (.inl (false,())))) (
 .leaf (.inl ((i64.wrap (x6.1+(1:Int))),x6.2.1,u1.1,u1.2.1,u1.2.2.1,u2.1,u2.2.1,u2.2.2.1,())))) (
 .leaf (.inr (.inr (x6.2.1,u1.1,u1.2.1,u1.2.2.1,u2.1,u2.2.1,u2.2.2.1,()))))
def Hh (x12:Int×(List YBs)×(List YB)×(List YB)×Int×Int×(List Ad)×(List Ak)×Unit):Option ((Int×(List YBs)×(List YB)×(List YB)×Int×Int×(List Ad)×(List Ak)×Unit)⊕((Bool×Unit)⊕(Unit))):=
 letI u1:=x12.2.2.2.2;Tree.val (α:=(Int×(List YBs)×(List YB)×(List YB)×Int×Int×(List Ad)×(List Ak)×Unit)⊕((Bool×Unit)⊕(Unit))) <|
 .br (decide (x12.1<(x12.2.2.2.2.2.2.1.length:Int))) (
 .ob (idx u1.2.2.1 x12.1) fun e13=>
 .br (decide (e13.1>(x12.2.1.length:Int))) (
 .leaf (.inr (.inl (false,())))) (
 .leaf (.inl ((i64.wrap (x12.1+(1:Int))),x12.2.1,x12.2.2.1,x12.2.2.2.1,u1.1,u1.2.1,u1.2.2.1,u1.2.2.2.1,())))) (
 .leaf (.inr (.inr ())))
def Pr (a0:Az):Tree ((Bool×Unit)):=
 letI u1:=a0.2.2;letI u2:=u1.2.2;.ob (Bc ((a0.1.length:Int),()) ((1:Int),()) ((9:Int),())) fun r1=>
 .br (!r1.1) (
 .leaf (false,())) (
 .ob (Amb (a0.2.1,())) fun r2=>
 .br (!r2.1) (
 .leaf (false,())) (
 .ob (Vh (u1.1,u1.2.1,())) fun r3=>
 .br (!r3.1) (
 .leaf (false,())) (
 .ob (Aae (u2.1,u2.2.1,())) fun r4=>
 .br (!r4.1) (
 .leaf (false,())) (
 .ob (Ih (u2.2.2.1,())) fun r5=>
 .br (!r5.1) (
 .leaf (false,())) (
 .ob (As Hg ((0:Int),a0.1,a0.2.1,u1.1,u1.2.1,u2.1,u2.2.1,u2.2.2.1,())) fun o9=>
 .sm o9 (fun o10=>
 .leaf o10) (fun o11=>letI u3:=o11.2.2.2;
 .ob (As Hh ((0:Int),o11.1,o11.2.1,o11.2.2.1,u3.1,u3.2.1,u3.2.2.1,u3.2.2.2.1,())) fun o14=>
 .sm o14 (fun o15=>
 .leaf o15) (fun o16=>
 .leaf (true,()))))))))
def Lx (a0:Az):Option ((Bool×Unit)):=(Pr a0).val
def Gl (x4:(List YBs)×Int×(List YBs)×(List YB)×(List YB)×Int×Int×(List Ad)×(List Ak)×(List YBs)×(List YB)×(List YB)×Int×Int×(List Ad)×(List Ak)×Unit):Option (((List YBs)×Int×(List YBs)×(List YB)×(List YB)×Int×Int×(List Ad)×(List Ak)×(List YBs)×(List YB)×(List YB)×Int×Int×(List Ad)×(List Ak)×Unit)⊕(((List YBs)×(List YB)×(List YB)×Int×Int×(List Ad)×(List Ak)×(List YBs)×(List YB)×(List YB)×Int×Int×(List Ad)×(List Ak)×Unit))):=
 letI u1:=x4.2.2;letI u2:=u1.2.2;letI u3:=u2.2.2;letI u4:=u3.2.2;letI u5:=u4.2.2;letI u6:=u5.2.2.2;Tree.val (α:=((List YBs)×Int×(List YBs)×(List YB)×(List YB)×Int×Int×(List Ad)×(List Ak)×(List YBs)×(List YB)×(List YB)×Int×Int×(List Ad)×(List Ak)×Unit)⊕(((List YBs)×(List YB)×(List YB)×Int×Int×(List Ad)×(List Ak)×(List YBs)×(List YB)×(List YB)×Int×Int×(List Ad)×(List Ak)×Unit))) <|
 .br (decide (x4.2.1<(x4.1.length:Int))) (
 .ob (idx x4.1 x4.2.1) fun e5=>
 .chk (decide (([]:List YB).length+e5.1.length≤4294967296)) <|
 .chk (decide (x4.2.2.2.2.2.2.2.2.2.1.length+[((([]:List YB)++e5.1),())].length≤4294967296)) <|
 .leaf (.inl (x4.1,(i64.wrap (x4.2.1+(1:Int))),u1.1,u1.2.1,u2.1,u2.2.1,u3.1,u3.2.1,u4.1,(u4.2.1++[((([]:List YB)++e5.1),())]),u5.1,u5.2.1,u5.2.2.1,u6.1,u6.2.1,u6.2.2.1,()))) (
 .leaf (.inr (u1.1,u1.2.1,u2.1,u2.2.1,u3.1,u3.2.1,u4.1,u4.2.1,u5.1,u5.2.1,u5.2.2.1,u6.1,u6.2.1,u6.2.2.1,())))
def Ud (a0:(List YBs)×Unit) (a1:YBs) (a2:YI):Tree (Az):=
 .ob (Ag5 (a1.1,(0:Int),())) fun r1=>
 .ob (Mx r1.2) fun r2=>
 .ob (My a2) fun r3=>
 .ob (As Gl (a0.1,(0:Int),([]:List YBs),([]:List YB),([]:List YB),(0:Int),(0:Int),([]:List Ad),([]:List Ak),([]:List YBs),r2.1,r1.1.1,r1.1.2.1,r3.1,r3.2.1,([]:List Ak),())) fun o6=>letI u1:=o6.2.2.2.2.2.2.2;letI u2:=u1.2.2;letI u3:=u2.2.2;
 .ob (Lx (u1.1,u1.2.1,u2.1,u2.2.1,u3.1,u3.2.1,u3.2.2.1,())) fun r7=>
 .br (!r7.1) (
 .leaf (([]:List YBs),([]:List YB),([]:List YB),(0:Int),(0:Int),([]:List Ad),([]:List Ak),())) (
 .leaf (u1.1,u1.2.1,u2.1,u2.2.1,u3.1,u3.2.1,u3.2.2.1,()))
def Ut (a0:(List YBs)×Unit) (a1:YBs) (a2:YI):Option (Az):=(Ud a0 a1 a2).val
def Ue (a0:Aq):Tree (Ch×Aq):=
 .ob (Cd a0 ((12:Int),())) fun r1=>
 .ob (Cd (a0.1,r1.2.2.1,r1.2.2.2.1,()) ((12:Int),())) fun r2=>
 .ob (A7 (a0.1,r2.2.2.1,r2.2.2.2.1,()) ((300:Int),())) fun r3=>
 .ob (Cd (a0.1,r3.2.2.1,r3.2.2.2.1,()) ((16:Int),())) fun r4=>
 .leaf (((2:Int),(0:Int),r1.1.1,r2.1.1,r3.1.1,r4.1.1,([]:List YB),(0:Int),(0:Int),([]:List YB),([]:List YB),()),(a0.1,r4.2.2.1,r4.2.2.2.1,()))
def Uu (a0:Aq):Option (Ch×Aq):=(Ue a0).val
def Afg (a0:YI):Tree ((Bool×Unit)):=
 .ob (Bc a0 ((4:Int),()) ((8:Int),())) fun r1=>
 .leaf r1
def Ag9 (a0:YI):Option ((Bool×Unit)):=(Afg a0).val
def Afh (a0:YI) (a1:YI):Tree ((Bool×Unit)):=
 .br (a0.1==(4:Int)) (
 .leaf ((decide (a1.1≤(40:Int))),())) (
 .br (a0.1==(5:Int)) (
 .leaf ((a1.1==(12:Int)),())) (
 .br (a0.1==(6:Int)) (
 .leaf ((a1.1==(12:Int)),())) (
 .leaf ((a1.1==(4:Int)),()))))
def Aha (a0:YI) (a1:YI):Option ((Bool×Unit)):=(Afh a0 a1).val
def Abg (a0:Ch):Tree ((Bool×Unit)):=
 letI u1:=a0.2.2.2.2;letI u2:=u1.2.2.2;.ob (Ag9 (a0.1,())) fun r1=>
 .br r1.1 (
 .br (a0.2.1==(0:Int)) (
 .br ((a0.2.2.1.length:Int)==(0:Int)) (
 .br ((a0.2.2.2.1.length:Int)==(12:Int)) (
 .br (u1.1==(0:Int)) (
 .br ((a0.2.2.2.2.2.1.length:Int)==(0:Int)) (
 .br ((a0.2.2.2.2.2.2.1.length:Int)==(0:Int)) (
 .ob (Bc (u2.1,()) ((0:Int),()) ((4294967295:Int),())) fun r2=>
 .br r2.1 (
 .ob (Bc (u2.2.1,()) ((0:Int),()) ((281474976710655:Int),())) fun r3=>
 .br r3.1 (
 .ob (Aha (a0.1,()) ((a0.2.2.2.2.2.2.2.2.2.1.length:Int),())) fun r4=>
 .br r4.1 (
 .leaf (((a0.2.2.2.2.2.2.2.2.2.2.1.length:Int)==(16:Int)),())) (
 .leaf (false,()))) (
 .leaf (false,()))) (
 .leaf (false,()))) (
 .leaf (false,()))) (
 .leaf (false,()))) (
 .leaf (false,()))) (
 .leaf (false,()))) (
 .leaf (false,()))) (
 .leaf (false,()))) (
 .br (u2.1 != (0:Int)) (
 .leaf (false,())) (
 .br (u2.2.1 != (0:Int)) (
 .leaf (false,())) (
 .br ((a0.2.2.2.2.2.2.2.2.2.1.length:Int) != (0:Int)) (
 .leaf (false,())) (
 .br ((a0.2.2.2.2.2.2.2.2.2.2.1.length:Int) != (0:Int)) (
 .leaf (false,())) (
 .br ((a0.2.2.1.length:Int) != (12:Int)) (
 .leaf (false,())) (
 .br (a0.1==(1:Int)) (
 .ob (Bc (a0.2.1,()) ((1:Int),()) ((9:Int),())) fun r5=>
 .br r5.1 (
 .br ((a0.2.2.2.1.length:Int)==(0:Int)) (
 .br (u1.1==(0:Int)) (
 .br ((a0.2.2.2.2.2.1.length:Int)==(0:Int)) (
 .leaf (((a0.2.2.2.2.2.2.1.length:Int)==(0:Int)),())) (
 .leaf (false,()))) (
 .leaf (false,()))) (
 .leaf (false,()))) (
 .leaf (false,()))) (
 .br (a0.1==(2:Int)) (
 .br (a0.2.1==(0:Int)) (
 .br ((a0.2.2.2.1.length:Int)==(12:Int)) (
 .ob (Bc (u1.1,()) ((0:Int),()) ((1000000:Int),())) fun r6=>
 .br r6.1 (
 .br ((a0.2.2.2.2.2.1.length:Int)==(16:Int)) (
 .leaf (((a0.2.2.2.2.2.2.1.length:Int)==(0:Int)),())) (
 .leaf (false,()))) (
 .leaf (false,()))) (
 .leaf (false,()))) (
 .leaf (false,()))) (
 .br (a0.1==(3:Int)) (
 .ob (Bc (a0.2.1,()) ((1:Int),()) ((9:Int),())) fun r7=>
 .br r7.1 (
 .br ((a0.2.2.2.1.length:Int)==(12:Int)) (
 .ob (Bc (u1.1,()) ((0:Int),()) ((1000000:Int),())) fun r8=>
 .br r8.1 (
 .br ((a0.2.2.2.2.2.1.length:Int)==(16:Int)) (
 .leaf (((a0.2.2.2.2.2.2.1.length:Int)==(16:Int)),())) (
 .leaf (false,()))) (
 .leaf (false,()))) (
 .leaf (false,()))) (
 .leaf (false,()))) (
 .leaf (false,()))))))))))
def Sv (a0:Ch):Option ((Bool×Unit)):=(Abg a0).val
def Sf (a0:YBs) (a1:YBs):Tree (YBs):=
 .ob (Rp a0 a1) fun r1=>
 .leaf r1
def Sw (a0:YBs) (a1:YBs):Option (YBs):=(Sf a0 a1).val
def Uf (a0:YBs):Tree (YBs):=
 .ob (Lw a0) fun r1=>
 .br (!r1.1) (
 .leaf (([]:List YB),())) (
 .ob (Sw ([((114:Int),()),((111:Int),()),((97:Int),()),((109:Int),())],()) a0) fun r2=>
 .ob (C0 r2 ((Bq [102,105,110,105,115,104]),())) fun r3=>
 .leaf r3)
def Uv (a0:YBs):Option (YBs):=(Uf a0).val
def Ug (a0:YI) (a1:YBs) (a2:YBs) (a3:YI) (a4:YBs):Tree (YBs):=
 .ob (Bc a0 ((1:Int),()) ((9:Int),())) fun r1=>
 .br (!r1.1) (
 .leaf (([]:List YB),())) (
 .br ((a1.1.length:Int) != (12:Int)) (
 .leaf (([]:List YB),())) (
 .br ((a2.1.length:Int) != (12:Int)) (
 .leaf (([]:List YB),())) (
 .ob (Bc a3 ((0:Int),()) ((1000000:Int),())) fun r2=>
 .br (!r2.1) (
 .leaf (([]:List YB),())) (
 .br ((a4.1.length:Int) != (16:Int)) (
 .leaf (([]:List YB),())) (
 .chk (decide ([((102:Int),()),((u8.wrap (a0.1)),())].length+a1.1.length≤4294967296)) <|
 .chk (decide (([((102:Int),()),((u8.wrap (a0.1)),())]++a1.1).length+a2.1.length≤4294967296)) <|
 .ob (F4 ((([((102:Int),()),((u8.wrap (a0.1)),())]++a1.1)++a2.1),()) a3 ((4:Int),())) fun r3=>
 .chk (decide (r3.1.length+a4.1.length≤4294967296)) <|
 .leaf ((r3.1++a4.1),()))))))
def Uw (a0:YI) (a1:YBs) (a2:YBs) (a3:YI) (a4:YBs):Option (YBs):=(Ug a0 a1 a2 a3 a4).val
def Avh (a0:YBs) (a1:YBs):Tree (YBs):=
 .ob (Rp a0 a1) fun r1=>
 .br (decide ((r1.1.length:Int)<(16:Int))) (
 .leaf (([]:List YB),())) (
 .chk (decide ((16:Int)≤(r1.1.length:Int))) <|
 .chk (decide (([]:List YB).length+((r1.1.take ((16:Int)).toNat).drop ((0:Int)).toNat).length≤4294967296)) <|
 .leaf ((([]:List YB)++((r1.1.take ((16:Int)).toNat).drop ((0:Int)).toNat)),()))
def Anu (a0:YBs) (a1:YBs):Option (YBs):=(Avh a0 a1).val
def Akk (a0:YBs) (a1:YI) (a2:YBs) (a3:YBs) (a4:YI) (a5:YBs):Tree (YBs):=
 .ob (Uv a0) fun r1=>
 .ob (Uw a1 a2 a3 a4 a5) fun r2=>
 .br ((r1.1.length:Int)==(0:Int)) (
 .leaf (([]:List YB),())) (
 .br ((r2.1.length:Int)==(0:Int)) (
 .leaf (([]:List YB),())) (
 .ob (Anu r1 r2) fun r3=>
 .leaf r3))
def Aaf (a0:YBs) (a1:YI) (a2:YBs) (a3:YBs) (a4:YI) (a5:YBs):Option (YBs):=(Akk a0 a1 a2 a3 a4 a5).val
def Afi (a0:Ch):Tree (Ch):=
 letI u1:=a0.2.2.2;letI u2:=u1.2.2.2;.chk (decide (([]:List YB).length+a0.2.2.1.length≤4294967296)) <|
 .chk (decide (([]:List YB).length+a0.2.2.2.1.length≤4294967296)) <|
 .chk (decide (([]:List YB).length+a0.2.2.2.2.2.1.length≤4294967296)) <|
 .chk (decide (([]:List YB).length+a0.2.2.2.2.2.2.1.length≤4294967296)) <|
 .chk (decide (([]:List YB).length+a0.2.2.2.2.2.2.2.2.2.1.length≤4294967296)) <|
 .chk (decide (([]:List YB).length+a0.2.2.2.2.2.2.2.2.2.2.1.length≤4294967296)) <|
 .leaf (a0.1,a0.2.1,(([]:List YB)++a0.2.2.1),(([]:List YB)++u1.1),u1.2.1,(([]:List YB)++u1.2.2.1),(([]:List YB)++u2.1),u2.2.1,u2.2.2.1,(([]:List YB)++u2.2.2.2.1),(([]:List YB)++u2.2.2.2.2.1),())
def Ahb (a0:Ch):Option (Ch):=(Afi a0).val
def Wg (a0:YBs) (a1:YI) (a2:Ch):Tree (Ch×(Bool×Unit)):=
 .ob (Sv a2) fun r1=>
 .br (!r1.1) (
 .leaf (((0:Int),(0:Int),([]:List YB),([]:List YB),(0:Int),([]:List YB),([]:List YB),(0:Int),(0:Int),([]:List YB),([]:List YB),()),(false,()))) (
 .br (a2.1 != (2:Int)) (
 .leaf (((0:Int),(0:Int),([]:List YB),([]:List YB),(0:Int),([]:List YB),([]:List YB),(0:Int),(0:Int),([]:List YB),([]:List YB),()),(false,()))) (
 .ob (Aaf a0 a1 (a2.2.2.1,()) (a2.2.2.2.1,()) (a2.2.2.2.2.1,()) (a2.2.2.2.2.2.1,())) fun r2=>
 .br ((r2.1.length:Int)==(0:Int)) (
 .leaf (((0:Int),(0:Int),([]:List YB),([]:List YB),(0:Int),([]:List YB),([]:List YB),(0:Int),(0:Int),([]:List YB),([]:List YB),()),(false,()))) (
 .ob (Ahb a2) fun r3=>letI u1:=r3.2.2.2;letI u2:=u1.2.2.2.2;
 .leaf (((3:Int),a1.1,r3.2.2.1,u1.1,u1.2.1,u1.2.2.1,r2.1,u2.1,u2.2.1,u2.2.2.1,u2.2.2.2.1,()),(true,())))))
def Xh (a0:YBs) (a1:YI) (a2:Ch):Option (Ch×(Bool×Unit)):=(Wg a0 a1 a2).val
def Zx (a0:Aq) (a1:(List YI)×Unit):Tree (YI×Aq):=
 .ob (A7 a0 ((a1.1.length:Int),())) fun r1=>
 .ob (idx a1.1 r1.1.1) fun e2=>
 .leaf (e2,(a0.1,r1.2.2.1,r1.2.2.2.1,()))
def Bf (a0:Aq) (a1:(List YI)×Unit):Option (YI×Aq):=(Zx a0 a1).val
def Abi (a0:YBs) (a1:YBs) (a2:YBs):Tree (YBs):=
 .ob (Lw a0) fun r1=>
 .br (!r1.1) (
 .leaf (([]:List YB),())) (
 .br ((a1.1.length:Int) != (12:Int)) (
 .leaf (([]:List YB),())) (
 .br ((a2.1.length:Int) != (12:Int)) (
 .leaf (([]:List YB),())) (
 .chk (decide (([]:List YB).length+a1.1.length≤4294967296)) <|
 .chk (decide ((([]:List YB)++a1.1).length+a2.1.length≤4294967296)) <|
 .ob (Sw (((([]:List YB)++a1.1)++a2.1),()) a0) fun r2=>
 .leaf r2)))
def Acx (a0:YBs) (a1:YBs) (a2:YBs):Option (YBs):=(Abi a0 a1 a2).val
def Wh (a0:YBs):Tree (YBs):=
 .br ((a0.1.length:Int) != (32:Int)) (
 .leaf (([]:List YB),())) (
 .ob (C0 a0 ((Bq [101,112,111,99,104]),())) fun r1=>
 .leaf r1)
def Xi (a0:YBs):Option (YBs):=(Wh a0).val
def Kq (x2:Int×(List YB)×Int×Unit):Option ((Int×(List YB)×Int×Unit)⊕(YBs)):=
 Tree.val (α:=(Int×(List YB)×Int×Unit)⊕(YBs)) <|
 .br (decide (x2.2.2.1<x2.1)) (
 .ob (C0 (x2.2.1,()) ((Bq [114,101,107,101,121]),())) fun r3=>
 .leaf (.inl (x2.1,r3.1,(i64.wrap (x2.2.2.1+(1:Int))),()))) (
 .leaf (.inr (x2.2.1,())))
def Akn (a0:YBs) (a1:YI):Tree (YBs):=
 .ob (Bc a1 ((0:Int),()) ((64:Int),())) fun r1=>
 .br (!r1.1) (
 .leaf (([]:List YB),())) (
 .chk (decide (([]:List YB).length+a0.1.length≤4294967296)) <|
 .ob (As Kq (a1.1,(([]:List YB)++a0.1),(0:Int),())) fun o4=>
 .leaf o4)
def Amc (a0:YBs) (a1:YI):Option (YBs):=(Akn a0 a1).val
def Wi (a0:YBs) (a1:YBs) (a2:YBs) (a3:YI):Tree (YBs):=
 .ob (Acx a0 a1 a2) fun r1=>
 .ob (Xi r1) fun r2=>
 .br ((r2.1.length:Int)==(0:Int)) (
 .leaf r2) (
 .ob (Amc r2 a3) fun r3=>
 .leaf r3)
def Xj (a0:YBs) (a1:YBs) (a2:YBs) (a3:YI):Option (YBs):=(Wi a0 a1 a2 a3).val
def Ja (x1:Int×Int×(List YI)×Int×(List YI)×Unit):Option ((Int×Int×(List YI)×Int×(List YI)×Unit)⊕((Int×(List YI)×Int×(List YI)×Unit))):=
 letI u1:=x1.2.2;Tree.val (α:=(Int×Int×(List YI)×Int×(List YI)×Unit)⊕((Int×(List YI)×Int×(List YI)×Unit))) <|
 .br (decide (x1.1<(32:Int))) (
 .chk (decide (x1.2.2.2.2.1.length+[((0:Int),())].length≤4294967296)) <|
 .leaf (.inl ((i64.wrap (x1.1+(1:Int))),x1.2.1,u1.1,u1.2.1,(u1.2.2.1++[((0:Int),())]),()))) (
 .leaf (.inr (x1.2.1,u1.1,u1.2.1,u1.2.2.1,())))
def Afk:Tree (Cj):=
 .ob (As Ja ((0:Int),(0:Int),([]:List YI),(-1:Int),([]:List YI),())) fun o2=>
 .leaf (o2.2.2.1,o2.2.2.2.1,())
def Vj:Option (Cj):=(Afk).val
def Akp (a0:YI) (a1:YBs):Tree (YEp):=
 .ob (Bc a0 ((0:Int),()) ((4294967295:Int),())) fun r1=>
 .br (!r1.1) (
 .leaf ((0:Int),([]:List YB),(0:Int),(0:Int),([]:List YI),())) (
 .br ((a1.1.length:Int) != (32:Int)) (
 .leaf ((0:Int),([]:List YB),(0:Int),(0:Int),([]:List YI),())) (
 .chk (decide (([]:List YB).length+a1.1.length≤4294967296)) <|
 .ob Vj fun r2=>
 .leaf (a0.1,(([]:List YB)++a1.1),(0:Int),r2.1,r2.2.1,())))
def Ly (a0:YI) (a1:YBs):Option (YEp):=(Akp a0 a1).val
def Abk (a0:YI) (a1:YBs) (a2:YBs):Tree (Bt):=
 .ob (Bc a0 ((0:Int),()) ((1:Int),())) fun r1=>
 .br (!r1.1) (
 .leaf ((0:Int),([]:List YB),(0:Int),([]:List YB),(0:Int),(0:Int),([]:List YI),(0:Int),([]:List YB),(0:Int),(0:Int),([]:List YI),false,(0:Int),([]:List YB),())) (
 .br ((a1.1.length:Int) != (12:Int)) (
 .leaf ((0:Int),([]:List YB),(0:Int),([]:List YB),(0:Int),(0:Int),([]:List YI),(0:Int),([]:List YB),(0:Int),(0:Int),([]:List YI),false,(0:Int),([]:List YB),())) (
 .br ((a2.1.length:Int) != (32:Int)) (
 .leaf ((0:Int),([]:List YB),(0:Int),([]:List YB),(0:Int),(0:Int),([]:List YI),(0:Int),([]:List YB),(0:Int),(0:Int),([]:List YI),false,(0:Int),([]:List YB),())) (
 .chk (decide (([]:List YB).length+a1.1.length≤4294967296)) <|
 .ob (Ly ((0:Int),()) a2) fun r2=>
 .leaf (a0.1,(([]:List YB)++a1.1),r2.1,r2.2.1,r2.2.2.1,r2.2.2.2.1,r2.2.2.2.2.1,(0:Int),([]:List YB),(0:Int),(0:Int),([]:List YI),false,(0:Int),([]:List YB),()))))
def Sx (a0:YI) (a1:YBs) (a2:YBs):Option (Bt):=(Abk a0 a1 a2).val
def Akr (a0:Bi):Tree (Bb):=
 .leaf (a0.1,a0.2.1,([]:List Ap),())
def Xk (a0:Bi):Option (Bb):=(Akr a0).val
def Abl (a0:YBs) (a1:YI) (a2:Bi) (a3:Ch):Tree (Ad):=
 letI u1:=a3.2.2;.ob (Lw a0) fun r1=>
 .br (!r1.1) (
 .leaf ((0:Int),([]:List YB),([]:List YB),(0:Int),([]:List YB),(0:Int),([]:List YB),(0:Int),(0:Int),([]:List YI),(0:Int),([]:List YB),(0:Int),(0:Int),([]:List YI),false,(0:Int),([]:List YB),(0:Int),(0:Int),([]:List Ap),(0:Int),(0:Int),false,())) (
 .ob (Bc a1 ((0:Int),()) ((1000000:Int),())) fun r2=>
 .br (!r2.1) (
 .leaf ((0:Int),([]:List YB),([]:List YB),(0:Int),([]:List YB),(0:Int),([]:List YB),(0:Int),(0:Int),([]:List YI),(0:Int),([]:List YB),(0:Int),(0:Int),([]:List YI),false,(0:Int),([]:List YB),(0:Int),(0:Int),([]:List Ap),(0:Int),(0:Int),false,())) (
 .ob (Fi a2) fun r3=>
 .br (!r3.1) (
 .leaf ((0:Int),([]:List YB),([]:List YB),(0:Int),([]:List YB),(0:Int),([]:List YB),(0:Int),(0:Int),([]:List YI),(0:Int),([]:List YB),(0:Int),(0:Int),([]:List YI),false,(0:Int),([]:List YB),(0:Int),(0:Int),([]:List Ap),(0:Int),(0:Int),false,())) (
 .ob (Sv a3) fun r4=>
 .br (!r4.1) (
 .leaf ((0:Int),([]:List YB),([]:List YB),(0:Int),([]:List YB),(0:Int),([]:List YB),(0:Int),(0:Int),([]:List YI),(0:Int),([]:List YB),(0:Int),(0:Int),([]:List YI),false,(0:Int),([]:List YB),(0:Int),(0:Int),([]:List Ap),(0:Int),(0:Int),false,())) (
 .br (a3.1 != (3:Int)) (
 .leaf ((0:Int),([]:List YB),([]:List YB),(0:Int),([]:List YB),(0:Int),([]:List YB),(0:Int),(0:Int),([]:List YI),(0:Int),([]:List YB),(0:Int),(0:Int),([]:List YI),false,(0:Int),([]:List YB),(0:Int),(0:Int),([]:List Ap),(0:Int),(0:Int),false,())) (
 .chk (decide (([]:List YB).length+a3.2.2.1.length≤4294967296)) <|
 .chk (decide (([]:List YB).length+a3.2.2.2.1.length≤4294967296)) <|
 .ob (Xj a0 (u1.1,()) (u1.2.1,()) ((0:Int),())) fun r5=>
 .ob (Sx ((1:Int),()) (u1.2.1,()) r5) fun r6=>letI u2:=r6.2.2.2;letI u3:=u2.2.2.2;letI u4:=u3.2.2.2.2;
 .ob (Xk a2) fun r7=>
 .leaf (a3.2.1,(([]:List YB)++u1.1),(([]:List YB)++u1.2.1),r6.1,r6.2.1,r6.2.2.1,u2.1,u2.2.1,u2.2.2.1,u3.1,u3.2.1,u3.2.2.1,u3.2.2.2.1,u4.1,u4.2.1,u4.2.2.1,u4.2.2.2.1,u4.2.2.2.2.1,r7.1,r7.2.1,r7.2.2.1,u1.2.2.1,a1.1,false,()))))))
def Acy (a0:YBs) (a1:YI) (a2:Bi) (a3:Ch):Option (Ad):=(Abl a0 a1 a2 a3).val
def Afm (a0:Aq) (a1:YI):Tree ((Bool×Unit)×Aq):=
 .ob (A7 a0 a1) fun r1=>
 .leaf (((r1.1.1==(0:Int)),()),(a0.1,r1.2.2.1,r1.2.2.2.1,()))
def Ce (a0:Aq) (a1:YI):Option ((Bool×Unit)×Aq):=(Afm a0 a1).val
def Ps (x3:(List YI)×Int×Int×(List YB)×Int×Int×Unit):Option (((List YI)×Int×Int×(List YB)×Int×Int×Unit)⊕(((List YI)×(List YB)×Int×Int×Unit))):=
 letI u1:=x3.2.2.2;Tree.val (α:=((List YI)×Int×Int×(List YB)×Int×Int×Unit)⊕(((List YI)×(List YB)×Int×Int×Unit))) <|
 .br (decide (x3.2.2.1>(0:Int))) (
 .ob (Ce (u1.1,u1.2.1,u1.2.2.1,()) ((6:Int),())) fun r4=>
 .br r4.1.1 (
 .ob (Bf (u1.1,r4.2.2.1,r4.2.2.2.1,()) ([((1:Int),()),((32:Int),()),((900:Int),()),((1023:Int),()),((1024:Int),()),((1025:Int),()),((3000:Int),())],())) fun r5=>
 .ob (A7 (u1.1,r5.2.2.1,r5.2.2.2.1,()) ((40:Int),())) fun r6=>
 .ob (Bf (u1.1,r6.2.2.1,r6.2.2.2.1,()) ([((0:Int),()),((0:Int),()),((20:Int),()),((1000:Int),())],())) fun r7=>
 .chk (decide (x3.1.length+[((i64.wrap ((i64.wrap ((i64.wrap (x3.2.1+r5.1.1))+r6.1.1))-r7.1.1)),())].length≤4294967296)) <|
 .leaf (.inl ((x3.1++[((i64.wrap ((i64.wrap ((i64.wrap (x3.2.1+r5.1.1))+r6.1.1))-r7.1.1)),())]),(i64.wrap (x3.2.1+r5.1.1)),(i64.wrap (x3.2.2.1-(1:Int))),u1.1,r7.2.2.1,r7.2.2.2.1,()))) (
 .ob (A7 (u1.1,r4.2.2.1,r4.2.2.2.1,()) ((40:Int),())) fun r8=>
 .ob (Bf (u1.1,r8.2.2.1,r8.2.2.2.1,()) ([((0:Int),()),((0:Int),()),((20:Int),()),((1000:Int),())],())) fun r9=>
 .chk (decide (x3.1.length+[((i64.wrap ((i64.wrap (x3.2.1+r8.1.1))-r9.1.1)),())].length≤4294967296)) <|
 .leaf (.inl ((x3.1++[((i64.wrap ((i64.wrap (x3.2.1+r8.1.1))-r9.1.1)),())]),x3.2.1,(i64.wrap (x3.2.2.1-(1:Int))),u1.1,r9.2.2.1,r9.2.2.2.1,())))) (
 .leaf (.inr (x3.1,u1.1,u1.2.1,u1.2.2.1,())))
def Afn (a0:Aq) (a1:YI):Tree (((List YI)×Unit)×Aq):=
 .ob (Bf a0 ([((0:Int),()),((0:Int),()),((0:Int),()),((1000:Int),()),((5000:Int),()),((281474976710000:Int),())],())) fun r1=>
 .ob (A7 (a0.1,r1.2.2.1,r1.2.2.2.1,()) ((i64.wrap (a1.1+(1:Int))),())) fun r2=>
 .ob (As Ps (([]:List YI),r1.1.1,r2.1.1,a0.1,r2.2.2.1,r2.2.2.2.1,())) fun o10=>
 .ob (Ce (o10.2.1,o10.2.2.1,o10.2.2.2.1,()) ((5:Int),())) fun r11=>
 .br r11.1.1 (
 .ob (Bf (o10.2.1,r11.2.2.1,r11.2.2.2.1,()) ([((-1:Int),()),((281474976710655:Int),()),((281474976710656:Int),())],())) fun r12=>
 .chk (decide (o10.1.length+[r12.1].length≤4294967296)) <|
 .leaf (((o10.1++[r12.1]),()),(o10.2.1,r12.2.2.1,r12.2.2.2.1,()))) (
 .leaf ((o10.1,()),(o10.2.1,r11.2.2.1,r11.2.2.2.1,())))
def Ahc (a0:Aq) (a1:YI):Option (((List YI)×Unit)×Aq):=(Afn a0 a1).val
def Ass (a0:Cj):Tree (Cj):=
 .chk (decide (([]:List YI).length+a0.2.1.length≤4294967296)) <|
 .leaf (a0.1,(([]:List YI)++a0.2.1),())
def Ahd (a0:Cj):Option (Cj):=(Ass a0).val
def Abm (a0:YI):Tree (YI):=
 .br (decide (a0.1<(1024:Int))) (
 .leaf ((0:Int),())) (
 .leaf ((i64.wrap ((i64.wrap (a0.1-(1024:Int)))+(1:Int))),()))
def Apm (a0:YI):Option (YI):=(Abm a0).val
def Afp (a0:Cj) (a1:YI):Tree ((Bool×Unit)):=
 .ob (Aad a0) fun r1=>
 .br (!r1.1) (
 .leaf (false,())) (
 .ob (Bc a1 ((0:Int),()) ((281474976710655:Int),())) fun r2=>
 .br (!r2.1) (
 .leaf (false,())) (
 .br (decide (a1.1>a0.1)) (
 .leaf (true,())) (
 .ob (Apm (a0.1,())) fun r3=>
 .br (decide (a1.1≥r3.1)) (
 .ob (Tr a0 a1) fun r4=>
 .leaf ((!r4.1),())) (
 .leaf (false,())))))
def Ahe (a0:Cj) (a1:YI):Option ((Bool×Unit)):=(Afp a0 a1).val
def Jb (x3:Int×Int×Int×Int×(List YI)×Int×(List YI)×Int×(List YI)×Unit):Option ((Int×Int×Int×Int×(List YI)×Int×(List YI)×Int×(List YI)×Unit)⊕((Int×Int×(List YI)×Int×(List YI)×Int×(List YI)×Unit))):=
 letI u1:=x3.2.2;letI u2:=u1.2.2;letI u3:=u2.2.2;Tree.val (α:=(Int×Int×Int×Int×(List YI)×Int×(List YI)×Int×(List YI)×Unit)⊕((Int×Int×(List YI)×Int×(List YI)×Int×(List YI)×Unit))) <|
 .br (decide (u1.1≤x3.1)) (
 .br (decide (x3.2.1<(1024:Int))) (
 .chk (decide ((0:Int)≤u1.1)) <|
 .chk (decide ((0:Int)≤(u1.1%(1024:Int)))) <|
 .chk (decide ((0:Int)≤(u1.1%(1024:Int)))) <|
 .ob (idx u3.2.2.1 ((u1.1%(1024:Int))/(32:Int))) fun e4=>
 .chk (decide ((0:Int)≤(u1.1%(1024:Int)))) <|
 .chk (decide ((0:Int)≤((u1.1%(1024:Int))%(32:Int)))) <|
 .ob (idx u3.2.2.1 ((u1.1%(1024:Int))/(32:Int))) fun e5=>
 let q6:=(x3.2.2.2.2.2.2.2.2.1.set (((u1.1%(1024:Int))/(32:Int))).toNat ((i64.wrap ((BitVec.ofInt (i64.bits) (e4.1) &&& ~~~ BitVec.ofInt (i64.bits) ((i64.wrap ((1:Int)*2^(min (((u1.1%(1024:Int))%(32:Int))).toNat i64.bits))))).toNat:Nat)),()))
 .leaf (.inl (x3.1,(i64.wrap (x3.2.1+(1:Int))),(i64.wrap (u1.1+(1:Int))),u1.2.1,u2.1,u2.2.1,u3.1,u3.2.1,q6,()))) (
 .leaf (.inr (x3.1,u1.2.1,u2.1,u2.2.1,u3.1,u3.2.1,u3.2.2.1,())))) (
 .leaf (.inr (x3.1,u1.2.1,u2.1,u2.2.1,u3.1,u3.2.1,u3.2.2.1,())))
def Afq (a0:Cj) (a1:YI):Tree (Cj×(Bool×Unit)):=
 .ob (Ahd a0) fun r1=>
 .ob (Ahe a0 a1) fun r2=>
 .br (!r2.1) (
 .leaf (r1,(false,()))) (
 .ob (As Jb (a1.1,(0:Int),(i64.wrap (a0.1+(1:Int))),a0.1,a0.2.1,(0:Int),([]:List YI),r1.1,r1.2.1,())) fun o7=>letI u1:=o7.2.2.2.2.2;
 .chk (decide ((0:Int)≤o7.1)) <|
 .chk (decide ((0:Int)≤(o7.1%(1024:Int)))) <|
 .chk (decide ((0:Int)≤(o7.1%(1024:Int)))) <|
 .ob (idx u1.2.1 ((o7.1%(1024:Int))/(32:Int))) fun e8=>
 .chk (decide ((0:Int)≤(o7.1%(1024:Int)))) <|
 .chk (decide ((0:Int)≤((o7.1%(1024:Int))%(32:Int)))) <|
 .ob (idx u1.2.1 ((o7.1%(1024:Int))/(32:Int))) fun e9=>
 let q10:=(o7.2.2.2.2.2.2.1.set (((o7.1%(1024:Int))/(32:Int))).toNat ((i64.wrap ((BitVec.ofInt (i64.bits) (e8.1) ||| BitVec.ofInt (i64.bits) ((i64.wrap ((1:Int)*2^(min (((o7.1%(1024:Int))%(32:Int))).toNat i64.bits))))).toNat:Nat)),()))
 .br (decide (o7.1>o7.2.1)) (
 .leaf ((o7.1,q10,()),(true,()))) (
 .leaf ((u1.1,q10,()),(true,()))))
def Vk (a0:Cj) (a1:YI):Option (Cj×(Bool×Unit)):=(Afq a0 a1).val
def Si (x2:(List YI)×Int×Int×(List YI)×Int×(List YI)×Unit):Option (((List YI)×Int×Int×(List YI)×Int×(List YI)×Unit)⊕((Int×(List YI)×Int×(List YI)×Unit))):=
 letI u1:=x2.2.2.2;Tree.val (α:=((List YI)×Int×Int×(List YI)×Int×(List YI)×Unit)⊕((Int×(List YI)×Int×(List YI)×Unit))) <|
 .br (decide (x2.2.1<(x2.1.length:Int))) (
 .ob (idx x2.1 x2.2.1) fun e3=>
 .ob (Vk (u1.2.1,u1.2.2.1,()) e3) fun r4=>
 .leaf (.inl (x2.1,(i64.wrap (x2.2.1+(1:Int))),x2.2.2.1,u1.1,r4.1.1,r4.1.2.1,()))) (
 .leaf (.inr (x2.2.2.1,u1.1,u1.2.1,u1.2.2.1,())))
def Aks (a0:(List YI)×Unit):Tree (Cj):=
 .ob Vj fun r1=>
 .ob (As Si (a0.1,(0:Int),(0:Int),([]:List YI),r1.1,r1.2.1,())) fun o5=>
 .leaf (o5.2.2.1,o5.2.2.2.1,())
def Amd (a0:(List YI)×Unit):Option (Cj):=(Aks a0).val
def Afr (a0:Aq):Tree (Cj×Aq):=
 .ob (Ahc a0 ((12:Int),())) fun r1=>
 .ob (Amd r1.1) fun r2=>
 .leaf (r2,(a0.1,r1.2.2.1,r1.2.2.2.1,()))
def Qd (a0:Aq):Option (Cj×Aq):=(Afr a0).val
def Abp (a0:Aq) (a1:YI):Tree (Bt×Aq):=
 .ob (Cd a0 ((12:Int),())) fun r1=>
 .ob (Cd (a0.1,r1.2.2.1,r1.2.2.2.1,()) ((32:Int),())) fun r2=>
 .ob (Sx a1 r1.1 r2.1) fun r3=>letI u1:=r3.2.2.2;letI u2:=u1.2.2;letI u3:=u2.2.2;letI u4:=u3.2.2;letI u5:=u4.2.2;letI u6:=u5.2.2.2;
 .ob (Bf (a0.1,r2.2.2.1,r2.2.2.2.1,()) ([((0:Int),()),((0:Int),()),((3:Int),()),((281474976709656:Int),()),((281474976710656:Int),())],())) fun r4=>
 .ob (Ce (a0.1,r4.2.2.1,r4.2.2.2.1,()) ((3:Int),())) fun r5=>
 .br r5.1.1 (
 .ob (Qd (a0.1,r5.2.2.1,r5.2.2.2.1,())) fun r6=>
 .ob (Ce (a0.1,r6.2.2.1,r6.2.2.2.1,()) ((2:Int),())) fun r7=>letI u7:=r7.2.2;
 .br r7.1.1 (
 .ob (Bf (a0.1,u7.1,u7.2.1,()) ([((1:Int),()),((1:Int),()),((2:Int),()),((4294967295:Int),())],())) fun r8=>
 .ob (C0 (u1.1,()) ((Bq [114,101,107,101,121]),())) fun r9=>
 .ob (Ly r8.1 r9) fun r10=>letI u8:=r10.2.2;letI u9:=u8.2.2;
 .ob (Bf (a0.1,r8.2.2.1,r8.2.2.2.1,()) ([((-1:Int),()),((0:Int),()),((5:Int),()),((7:Int),()),((1000005:Int),())],())) fun r11=>letI u10:=r11.2.2;
 .br (a1.1==(0:Int)) (
 .br (decide (r11.1.1<(0:Int))) (
 .br (a1.1==(0:Int)) (
 .br (decide (r10.1<(4294967295:Int))) (
 .ob (Ce (a0.1,u10.1,u10.2.1,()) ((2:Int),())) fun r12=>
 .br r12.1.1 (
 .ob (C0 (r10.2.1,()) ((Bq [114,101,107,101,121]),())) fun r13=>
 .leaf ((r3.1,r3.2.1,r10.1,r10.2.1,u8.1,u8.2.1,u9.1,(i64.wrap (r10.1-(1:Int))),u1.1,r4.1.1,r6.1.1,r6.1.2.1,true,(5:Int),r13.1,()),(a0.1,r12.2.2.1,r12.2.2.2.1,()))) (
 .leaf ((r3.1,r3.2.1,r10.1,r10.2.1,u8.1,u8.2.1,u9.1,(i64.wrap (r10.1-(1:Int))),u1.1,r4.1.1,r6.1.1,r6.1.2.1,true,(5:Int),u6.1,()),(a0.1,r12.2.2.1,r12.2.2.2.1,())))) (
 .leaf ((r3.1,r3.2.1,r10.1,r10.2.1,u8.1,u8.2.1,u9.1,(i64.wrap (r10.1-(1:Int))),u1.1,r4.1.1,r6.1.1,r6.1.2.1,true,(5:Int),u6.1,()),(a0.1,u10.1,u10.2.1,())))) (
 .leaf ((r3.1,r3.2.1,r10.1,r10.2.1,u8.1,u8.2.1,u9.1,(i64.wrap (r10.1-(1:Int))),u1.1,r4.1.1,r6.1.1,r6.1.2.1,true,(5:Int),u6.1,()),(a0.1,u10.1,u10.2.1,())))) (
 .br (a1.1==(0:Int)) (
 .br (decide (r10.1<(4294967295:Int))) (
 .ob (Ce (a0.1,u10.1,u10.2.1,()) ((2:Int),())) fun r14=>
 .br r14.1.1 (
 .ob (C0 (r10.2.1,()) ((Bq [114,101,107,101,121]),())) fun r15=>
 .leaf ((r3.1,r3.2.1,r10.1,r10.2.1,u8.1,u8.2.1,u9.1,(i64.wrap (r10.1-(1:Int))),u1.1,r4.1.1,r6.1.1,r6.1.2.1,true,r11.1.1,r15.1,()),(a0.1,r14.2.2.1,r14.2.2.2.1,()))) (
 .leaf ((r3.1,r3.2.1,r10.1,r10.2.1,u8.1,u8.2.1,u9.1,(i64.wrap (r10.1-(1:Int))),u1.1,r4.1.1,r6.1.1,r6.1.2.1,true,r11.1.1,u6.1,()),(a0.1,r14.2.2.1,r14.2.2.2.1,())))) (
 .leaf ((r3.1,r3.2.1,r10.1,r10.2.1,u8.1,u8.2.1,u9.1,(i64.wrap (r10.1-(1:Int))),u1.1,r4.1.1,r6.1.1,r6.1.2.1,true,r11.1.1,u6.1,()),(a0.1,u10.1,u10.2.1,())))) (
 .leaf ((r3.1,r3.2.1,r10.1,r10.2.1,u8.1,u8.2.1,u9.1,(i64.wrap (r10.1-(1:Int))),u1.1,r4.1.1,r6.1.1,r6.1.2.1,true,r11.1.1,u6.1,()),(a0.1,u10.1,u10.2.1,()))))) (
 .br (a1.1==(0:Int)) (
 .br (decide (r10.1<(4294967295:Int))) (
 .ob (Ce (a0.1,u10.1,u10.2.1,()) ((2:Int),())) fun r16=>
 .br r16.1.1 (
 .ob (C0 (r10.2.1,()) ((Bq [114,101,107,101,121]),())) fun r17=>
 .leaf ((r3.1,r3.2.1,r10.1,r10.2.1,u8.1,u8.2.1,u9.1,(i64.wrap (r10.1-(1:Int))),u1.1,r4.1.1,r6.1.1,r6.1.2.1,true,r11.1.1,r17.1,()),(a0.1,r16.2.2.1,r16.2.2.2.1,()))) (
 .leaf ((r3.1,r3.2.1,r10.1,r10.2.1,u8.1,u8.2.1,u9.1,(i64.wrap (r10.1-(1:Int))),u1.1,r4.1.1,r6.1.1,r6.1.2.1,true,r11.1.1,u6.1,()),(a0.1,r16.2.2.1,r16.2.2.2.1,())))) (
 .leaf ((r3.1,r3.2.1,r10.1,r10.2.1,u8.1,u8.2.1,u9.1,(i64.wrap (r10.1-(1:Int))),u1.1,r4.1.1,r6.1.1,r6.1.2.1,true,r11.1.1,u6.1,()),(a0.1,u10.1,u10.2.1,())))) (
 .leaf ((r3.1,r3.2.1,r10.1,r10.2.1,u8.1,u8.2.1,u9.1,(i64.wrap (r10.1-(1:Int))),u1.1,r4.1.1,r6.1.1,r6.1.2.1,true,r11.1.1,u6.1,()),(a0.1,u10.1,u10.2.1,()))))) (
 .br (a1.1==(0:Int)) (
 .br (decide (r3.2.2.1<(4294967295:Int))) (
 .ob (Ce (a0.1,u7.1,u7.2.1,()) ((2:Int),())) fun r18=>
 .br r18.1.1 (
 .ob (C0 (u1.1,()) ((Bq [114,101,107,101,121]),())) fun r19=>
 .leaf ((r3.1,r3.2.1,r3.2.2.1,u1.1,r4.1.1,r6.1.1,r6.1.2.1,u3.1,u3.2.1,u4.1,u4.2.1,u5.1,u5.2.1,u5.2.2.1,r19.1,()),(a0.1,r18.2.2.1,r18.2.2.2.1,()))) (
 .leaf ((r3.1,r3.2.1,r3.2.2.1,u1.1,r4.1.1,r6.1.1,r6.1.2.1,u3.1,u3.2.1,u4.1,u4.2.1,u5.1,u5.2.1,u5.2.2.1,u6.1,()),(a0.1,r18.2.2.1,r18.2.2.2.1,())))) (
 .leaf ((r3.1,r3.2.1,r3.2.2.1,u1.1,r4.1.1,r6.1.1,r6.1.2.1,u3.1,u3.2.1,u4.1,u4.2.1,u5.1,u5.2.1,u5.2.2.1,u6.1,()),(a0.1,u7.1,u7.2.1,())))) (
 .leaf ((r3.1,r3.2.1,r3.2.2.1,u1.1,r4.1.1,r6.1.1,r6.1.2.1,u3.1,u3.2.1,u4.1,u4.2.1,u5.1,u5.2.1,u5.2.2.1,u6.1,()),(a0.1,u7.1,u7.2.1,()))))) (
 .ob (Ce (a0.1,r5.2.2.1,r5.2.2.2.1,()) ((2:Int),())) fun r20=>letI u11:=r20.2.2;
 .br r20.1.1 (
 .ob (Bf (a0.1,u11.1,u11.2.1,()) ([((1:Int),()),((1:Int),()),((2:Int),()),((4294967295:Int),())],())) fun r21=>
 .ob (C0 (u1.1,()) ((Bq [114,101,107,101,121]),())) fun r22=>
 .ob (Ly r21.1 r22) fun r23=>letI u12:=r23.2.2;letI u13:=u12.2.2;
 .ob (Bf (a0.1,r21.2.2.1,r21.2.2.2.1,()) ([((-1:Int),()),((0:Int),()),((5:Int),()),((7:Int),()),((1000005:Int),())],())) fun r24=>letI u14:=r24.2.2;
 .br (a1.1==(0:Int)) (
 .br (decide (r24.1.1<(0:Int))) (
 .br (a1.1==(0:Int)) (
 .br (decide (r23.1<(4294967295:Int))) (
 .ob (Ce (a0.1,u14.1,u14.2.1,()) ((2:Int),())) fun r25=>
 .br r25.1.1 (
 .ob (C0 (r23.2.1,()) ((Bq [114,101,107,101,121]),())) fun r26=>
 .leaf ((r3.1,r3.2.1,r23.1,r23.2.1,u12.1,u12.2.1,u13.1,(i64.wrap (r23.1-(1:Int))),u1.1,r4.1.1,u2.1,u2.2.1,true,(5:Int),r26.1,()),(a0.1,r25.2.2.1,r25.2.2.2.1,()))) (
 .leaf ((r3.1,r3.2.1,r23.1,r23.2.1,u12.1,u12.2.1,u13.1,(i64.wrap (r23.1-(1:Int))),u1.1,r4.1.1,u2.1,u2.2.1,true,(5:Int),u6.1,()),(a0.1,r25.2.2.1,r25.2.2.2.1,())))) (
 .leaf ((r3.1,r3.2.1,r23.1,r23.2.1,u12.1,u12.2.1,u13.1,(i64.wrap (r23.1-(1:Int))),u1.1,r4.1.1,u2.1,u2.2.1,true,(5:Int),u6.1,()),(a0.1,u14.1,u14.2.1,())))) (
 .leaf ((r3.1,r3.2.1,r23.1,r23.2.1,u12.1,u12.2.1,u13.1,(i64.wrap (r23.1-(1:Int))),u1.1,r4.1.1,u2.1,u2.2.1,true,(5:Int),u6.1,()),(a0.1,u14.1,u14.2.1,())))) (
 .br (a1.1==(0:Int)) (
 .br (decide (r23.1<(4294967295:Int))) (
 .ob (Ce (a0.1,u14.1,u14.2.1,()) ((2:Int),())) fun r27=>
 .br r27.1.1 (
 .ob (C0 (r23.2.1,()) ((Bq [114,101,107,101,121]),())) fun r28=>
 .leaf ((r3.1,r3.2.1,r23.1,r23.2.1,u12.1,u12.2.1,u13.1,(i64.wrap (r23.1-(1:Int))),u1.1,r4.1.1,u2.1,u2.2.1,true,r24.1.1,r28.1,()),(a0.1,r27.2.2.1,r27.2.2.2.1,()))) (
 .leaf ((r3.1,r3.2.1,r23.1,r23.2.1,u12.1,u12.2.1,u13.1,(i64.wrap (r23.1-(1:Int))),u1.1,r4.1.1,u2.1,u2.2.1,true,r24.1.1,u6.1,()),(a0.1,r27.2.2.1,r27.2.2.2.1,())))) (
 .leaf ((r3.1,r3.2.1,r23.1,r23.2.1,u12.1,u12.2.1,u13.1,(i64.wrap (r23.1-(1:Int))),u1.1,r4.1.1,u2.1,u2.2.1,true,r24.1.1,u6.1,()),(a0.1,u14.1,u14.2.1,())))) (
 .leaf ((r3.1,r3.2.1,r23.1,r23.2.1,u12.1,u12.2.1,u13.1,(i64.wrap (r23.1-(1:Int))),u1.1,r4.1.1,u2.1,u2.2.1,true,r24.1.1,u6.1,()),(a0.1,u14.1,u14.2.1,()))))) (
 .br (a1.1==(0:Int)) (
 .br (decide (r23.1<(4294967295:Int))) (
 .ob (Ce (a0.1,u14.1,u14.2.1,()) ((2:Int),())) fun r29=>
 .br r29.1.1 (
 .ob (C0 (r23.2.1,()) ((Bq [114,101,107,101,121]),())) fun r30=>
 .leaf ((r3.1,r3.2.1,r23.1,r23.2.1,u12.1,u12.2.1,u13.1,(i64.wrap (r23.1-(1:Int))),u1.1,r4.1.1,u2.1,u2.2.1,true,r24.1.1,r30.1,()),(a0.1,r29.2.2.1,r29.2.2.2.1,()))) (
 .leaf ((r3.1,r3.2.1,r23.1,r23.2.1,u12.1,u12.2.1,u13.1,(i64.wrap (r23.1-(1:Int))),u1.1,r4.1.1,u2.1,u2.2.1,true,r24.1.1,u6.1,()),(a0.1,r29.2.2.1,r29.2.2.2.1,())))) (
 .leaf ((r3.1,r3.2.1,r23.1,r23.2.1,u12.1,u12.2.1,u13.1,(i64.wrap (r23.1-(1:Int))),u1.1,r4.1.1,u2.1,u2.2.1,true,r24.1.1,u6.1,()),(a0.1,u14.1,u14.2.1,())))) (
 .leaf ((r3.1,r3.2.1,r23.1,r23.2.1,u12.1,u12.2.1,u13.1,(i64.wrap (r23.1-(1:Int))),u1.1,r4.1.1,u2.1,u2.2.1,true,r24.1.1,u6.1,()),(a0.1,u14.1,u14.2.1,()))))) (
 .br (a1.1==(0:Int)) (
 .br (decide (r3.2.2.1<(4294967295:Int))) (
 .ob (Ce (a0.1,u11.1,u11.2.1,()) ((2:Int),())) fun r31=>
 .br r31.1.1 (
 .ob (C0 (u1.1,()) ((Bq [114,101,107,101,121]),())) fun r32=>
 .leaf ((r3.1,r3.2.1,r3.2.2.1,u1.1,r4.1.1,u2.1,u2.2.1,u3.1,u3.2.1,u4.1,u4.2.1,u5.1,u5.2.1,u5.2.2.1,r32.1,()),(a0.1,r31.2.2.1,r31.2.2.2.1,()))) (
 .leaf ((r3.1,r3.2.1,r3.2.2.1,u1.1,r4.1.1,u2.1,u2.2.1,u3.1,u3.2.1,u4.1,u4.2.1,u5.1,u5.2.1,u5.2.2.1,u6.1,()),(a0.1,r31.2.2.1,r31.2.2.2.1,())))) (
 .leaf ((r3.1,r3.2.1,r3.2.2.1,u1.1,r4.1.1,u2.1,u2.2.1,u3.1,u3.2.1,u4.1,u4.2.1,u5.1,u5.2.1,u5.2.2.1,u6.1,()),(a0.1,u11.1,u11.2.1,())))) (
 .leaf ((r3.1,r3.2.1,r3.2.2.1,u1.1,r4.1.1,u2.1,u2.2.1,u3.1,u3.2.1,u4.1,u4.2.1,u5.1,u5.2.1,u5.2.2.1,u6.1,()),(a0.1,u11.1,u11.2.1,())))))
def Sy (a0:Aq) (a1:YI):Option (Bt×Aq):=(Abp a0 a1).val
def Abr (a0:Ap):Tree (Ap):=
 .chk (decide (([]:List YB).length+a0.2.2.1.length≤4294967296)) <|
 .leaf (a0.1,a0.2.1,(([]:List YB)++a0.2.2.1),a0.2.2.2.1,())
def Sz (a0:Ap):Option (Ap):=(Abr a0).val
def H5 (x1:Int×Int×Int×(List Ap)×Int×Int×(List Ap)×Int×Int×(List Ap)×Unit):Option ((Int×Int×Int×(List Ap)×Int×Int×(List Ap)×Int×Int×(List Ap)×Unit)⊕((Int×Int×(List Ap)×Int×Int×(List Ap)×Unit))):=
 letI u1:=x1.2.2.2;letI u2:=u1.2.2;letI u3:=u2.2.2;Tree.val (α:=(Int×Int×Int×(List Ap)×Int×Int×(List Ap)×Int×Int×(List Ap)×Unit)⊕((Int×Int×(List Ap)×Int×Int×(List Ap)×Unit))) <|
 .br (decide (x1.1<(x1.2.2.2.1.length:Int))) (
 .ob (idx u1.1 x1.1) fun e2=>
 .ob (Sz e2) fun r3=>
 .chk (decide (x1.2.2.2.2.2.2.2.2.2.1.length+[r3].length≤4294967296)) <|
 .leaf (.inl ((i64.wrap (x1.1+(1:Int))),x1.2.1,x1.2.2.1,u1.1,u1.2.1,u2.1,u2.2.1,u3.1,u3.2.1,(u3.2.2.1++[r3]),()))) (
 .leaf (.inr (u1.2.1,u2.1,u2.2.1,u3.1,u3.2.1,u3.2.2.1,())))
def Abs (a0:Bb):Tree (Bb):=
 .ob (As H5 ((0:Int),a0.1,a0.2.1,a0.2.2.1,(0:Int),(0:Int),([]:List Ap),a0.1,a0.2.1,([]:List Ap),())) fun o4=>
 .leaf (o4.2.2.2.1,o4.2.2.2.2.1,o4.2.2.2.2.2.1,())
def Dy (a0:Bb):Option (Bb):=(Abs a0).val
def Hi (x5:Int×Int×Int×Int×(List Ap)×Int×Int×(List Ap)×Int×Int×(List Ap)×Unit):Option ((Int×Int×Int×Int×(List Ap)×Int×Int×(List Ap)×Int×Int×(List Ap)×Unit)⊕((Int×Int×(List Ap)×Int×Int×(List Ap)×Unit))):=
 letI u1:=x5.2.2;letI u2:=u1.2.2;letI u3:=u2.2.2;letI u4:=u3.2.2;Tree.val (α:=(Int×Int×Int×Int×(List Ap)×Int×Int×(List Ap)×Int×Int×(List Ap)×Unit)⊕((Int×Int×(List Ap)×Int×Int×(List Ap)×Unit))) <|
 .br (decide (x5.2.1<(x5.2.2.2.2.1.length:Int))) (
 .ob (idx u2.1 x5.2.1) fun e6=>
 .br (decide (e6.2.2.2.1≥x5.1)) (
 .ob (idx u2.1 x5.2.1) fun e7=>
 .ob (Sz e7) fun r8=>
 .chk (decide (x5.2.2.2.2.2.2.2.2.2.2.1.length+[r8].length≤4294967296)) <|
 .leaf (.inl (x5.1,(i64.wrap (x5.2.1+(1:Int))),u1.1,u1.2.1,u2.1,u2.2.1,u3.1,u3.2.1,u4.1,u4.2.1,(u4.2.2.1++[r8]),()))) (
 .leaf (.inl (x5.1,(i64.wrap (x5.2.1+(1:Int))),u1.1,u1.2.1,u2.1,u2.2.1,u3.1,u3.2.1,u4.1,u4.2.1,u4.2.2.1,())))) (
 .leaf (.inr (u2.2.1,u3.1,u3.2.1,u4.1,u4.2.1,u4.2.2.1,())))
def Wl (a0:Bb) (a1:YI):Tree (Bb):=
 .ob (Nv a0) fun r1=>
 .br (!r1.1) (
 .ob (Dy a0) fun r2=>
 .leaf r2) (
 .ob (Bc a1 ((0:Int),()) ((1000000:Int),())) fun r3=>
 .br (!r3.1) (
 .ob (Dy a0) fun r4=>
 .leaf r4) (
 .ob (As Hi (a1.1,(0:Int),a0.1,a0.2.1,a0.2.2.1,(0:Int),(0:Int),([]:List Ap),a0.1,a0.2.1,([]:List Ap),())) fun o9=>
 .leaf (o9.2.2.2.1,o9.2.2.2.2.1,o9.2.2.2.2.2.1,())))
def Xl (a0:Bb) (a1:YI):Option (Bb):=(Wl a0 a1).val
def Kr (x10:Int×(List YB)×Int×Int×Int×(List Ap)×Int×Int×Int×Int×(List Ap)×Int×Int×(List Ap)×Unit):Option ((Int×(List YB)×Int×Int×Int×(List Ap)×Int×Int×Int×Int×(List Ap)×Int×Int×(List Ap)×Unit)⊕((Bool×Int×Int×(List Ap)×Unit)⊕(Int×(List YB)×Int×Int×(List Ap)×Int×Int×Int×Int×(List Ap)×Int×Int×(List Ap)×Unit))):=
 letI u1:=x10.2.2;letI u2:=u1.2.2;letI u3:=u2.2.2;letI u4:=u3.2.2;letI u5:=u4.2.2;letI u6:=u5.2.2;Tree.val (α:=(Int×(List YB)×Int×Int×Int×(List Ap)×Int×Int×Int×Int×(List Ap)×Int×Int×(List Ap)×Unit)⊕((Bool×Int×Int×(List Ap)×Unit)⊕(Int×(List YB)×Int×Int×(List Ap)×Int×Int×Int×Int×(List Ap)×Int×Int×(List Ap)×Unit))) <|
 .br (decide (u1.1<(x10.2.2.2.2.2.2.2.2.2.2.2.2.2.1.length:Int))) (
 .ob (idx u6.2.1 u1.1) fun e11=>
 .br (and (e11.1==u3.1) (and (e11.2.1==u3.2.1) true)) (
 .ob (Dy (u1.2.1,u2.1,u2.2.1,())) fun r12=>
 .leaf (.inr (.inl (false,r12.1,r12.2.1,r12.2.2.1,())))) (
 .leaf (.inl (x10.1,x10.2.1,(i64.wrap (u1.1+(1:Int))),u1.2.1,u2.1,u2.2.1,u3.1,u3.2.1,u4.1,u4.2.1,u5.1,u5.2.1,u6.1,u6.2.1,())))) (
 .leaf (.inr (.inr (x10.1,x10.2.1,u1.2.1,u2.1,u2.2.1,u3.1,u3.2.1,u4.1,u4.2.1,u5.1,u5.2.1,u6.1,u6.2.1,()))))
def Akw (a0:Bb) (a1:YI) (a2:Bi) (a3:YBs):Tree (Bb×(Bool×Unit)):=
 .ob (Nv a0) fun r1=>
 .br (!r1.1) (
 .ob (Dy a0) fun r2=>
 .leaf (r2,(false,()))) (
 .ob (Bc a1 ((0:Int),()) ((1000000:Int),())) fun r3=>
 .br (!r3.1) (
 .ob (Dy a0) fun r4=>
 .leaf (r4,(false,()))) (
 .ob (Fi a2) fun r5=>
 .br (!r5.1) (
 .ob (Dy a0) fun r6=>
 .leaf (r6,(false,()))) (
 .br ((a3.1.length:Int) != (12:Int)) (
 .ob (Dy a0) fun r7=>
 .leaf (r7,(false,()))) (
 .br (and (a2.1==a0.1) (and (a2.2.1==a0.2.1) true)) (
 .ob (Dy a0) fun r8=>
 .leaf (r8,(false,()))) (
 .ob (Xl a0 a1) fun r9=>
 .ob (As Kr (a1.1,a3.1,(0:Int),a0.1,a0.2.1,a0.2.2.1,a2.1,a2.2.1,(0:Int),(0:Int),([]:List Ap),r9.1,r9.2.1,r9.2.2.1,())) fun o13=>
 .sm o13 (fun o14=>
 .leaf ((o14.2.1,o14.2.2.1,o14.2.2.2.1,()),(o14.1,()))) (fun o15=>letI u1:=o15.2.2;letI u2:=u1.2.2.2;letI u3:=u2.2.2.2.2.2;
 .br ((o15.2.2.2.2.2.2.2.2.2.2.2.2.1.length:Int)==(3:Int)) (
 .ob (Dy (u1.1,u1.2.1,u1.2.2.1,())) fun r16=>
 .leaf (r16,(false,()))) (
 .chk (decide (([]:List YB).length+o15.2.1.length≤4294967296)) <|
 .chk (decide (o15.2.2.2.2.2.2.2.2.2.2.2.2.1.length+[(u2.1,u2.2.1,(([]:List YB)++o15.2.1),(i64.wrap (o15.1+(6:Int))),())].length≤4294967296)) <|
 .leaf ((u3.1,u3.2.1,(u3.2.2.1++[(u2.1,u2.2.1,(([]:List YB)++o15.2.1),(i64.wrap (o15.1+(6:Int))),())]),()),(true,())))))))))
def Aag (a0:Bb) (a1:YI) (a2:Bi) (a3:YBs):Option (Bb×(Bool×Unit)):=(Akw a0 a1 a2 a3).val
def Uh (x6:Int×Int×(List YB)×Int×Int×Int×Int×(List Ap)×Int×Int×(List Ap)×Unit):Option ((Int×Int×(List YB)×Int×Int×Int×Int×(List Ap)×Int×Int×(List Ap)×Unit)⊕(((List YB)×Int×Int×Int×Int×(List Ap)×Int×Int×(List Ap)×Unit))):=
 letI u1:=x6.2.2;letI u2:=u1.2.2;letI u3:=u2.2.2;letI u4:=u3.2.2;Tree.val (α:=(Int×Int×(List YB)×Int×Int×Int×Int×(List Ap)×Int×Int×(List Ap)×Unit)⊕(((List YB)×Int×Int×Int×Int×(List Ap)×Int×Int×(List Ap)×Unit))) <|
 .br (decide (x6.2.1>(0:Int))) (
 .ob (A7 (u1.1,u1.2.1,u2.1,()) ((7:Int),())) fun r7=>
 .ob (I6 r7.1) fun r8=>
 .ob (Cd (u1.1,r7.2.2.1,r7.2.2.2.1,()) ((12:Int),())) fun r9=>
 .ob (Aag (u4.1,u4.2.1,u4.2.2.1,()) (x6.1,()) r8 r9.1) fun r10=>
 .ob (A7 (u1.1,r9.2.2.1,r9.2.2.2.1,()) ((3:Int),())) fun r11=>
 .leaf (.inl ((i64.wrap (x6.1+r11.1.1)),(i64.wrap (x6.2.1-(1:Int))),u1.1,r11.2.2.1,r11.2.2.2.1,u2.2.1,u3.1,u3.2.1,r10.1.1,r10.1.2.1,r10.1.2.2.1,()))) (
 .leaf (.inr (u1.1,u1.2.1,u2.1,u2.2.1,u3.1,u3.2.1,u4.1,u4.2.1,u4.2.2.1,())))
def Abu (a0:Aq):Tree (Bb×Aq):=
 .ob (A7 a0 ((5:Int),())) fun r1=>
 .ob (I6 r1.1) fun r2=>
 .ob (Xk r2) fun r3=>
 .ob (A7 (a0.1,r1.2.2.1,r1.2.2.2.1,()) ((6:Int),())) fun r4=>
 .ob (A7 (a0.1,r4.2.2.1,r4.2.2.2.1,()) ((5:Int),())) fun r5=>
 .ob (As Uh (r4.1.1,r5.1.1,a0.1,r5.2.2.1,r5.2.2.2.1,(0:Int),(0:Int),([]:List Ap),r3.1,r3.2.1,r3.2.2.1,())) fun o12=>letI u1:=o12.2.2.2.2.2.2;
 .leaf ((u1.1,u1.2.1,u1.2.2.1,()),(o12.1,o12.2.1,o12.2.2.1,()))
def Nw (a0:Aq):Option (Bb×Aq):=(Abu a0).val
def Abv (a0:Aq):Tree (Ad×Aq):=
 .ob (Cd a0 ((16:Int),())) fun r1=>
 .ob (A7 (a0.1,r1.2.2.1,r1.2.2.2.1,()) ((2:Int),())) fun r2=>
 .ob (Uu (a0.1,r2.2.2.1,r2.2.2.2.1,())) fun r3=>
 .ob (Xh r1.1 ((i64.wrap ((1:Int)+r2.1.1)),()) r3.1) fun r4=>
 .ob (Cd (a0.1,r3.2.2.1,r3.2.2.2.1,()) ((16:Int),())) fun r5=>
 .ob (Bf (a0.1,r5.2.2.1,r5.2.2.2.1,()) ([((0:Int),()),((5:Int),()),((90:Int),())],())) fun r6=>
 .ob (A7 (a0.1,r6.2.2.1,r6.2.2.2.1,()) ((5:Int),())) fun r7=>
 .ob (I6 ((i64.wrap ((1:Int)+r7.1.1)),())) fun r8=>
 .ob (Acy r5.1 r6.1 r8 r4.1) fun r9=>letI u1:=r9.2.2.2;letI u2:=u1.2.2.2;letI u3:=u2.2.2.2;letI u4:=u3.2.2.2;letI u5:=u4.2.2.2;letI u6:=u5.2.2.2;letI u7:=u6.2.2.2;
 .ob (Ce (a0.1,r7.2.2.1,r7.2.2.2.1,()) ((2:Int),())) fun r10=>
 .br r10.1.1 (
 .ob (Sy (a0.1,r10.2.2.1,r10.2.2.2.1,()) ((1:Int),())) fun r11=>letI u8:=r11.1.2.2;letI u9:=u8.2.2;letI u10:=u9.2.2;letI u11:=u10.2.2;letI u12:=u11.2.2;letI u13:=u12.2.2;
 .ob (Ce (a0.1,r11.2.2.1,r11.2.2.2.1,()) ((2:Int),())) fun r12=>
 .br r12.1.1 (
 .ob (Nw (a0.1,r12.2.2.1,r12.2.2.2.1,())) fun r13=>
 .leaf ((r9.1,r9.2.1,r11.1.2.1,r11.1.1,r11.1.2.1,u8.1,u8.2.1,u9.1,u9.2.1,u10.1,u10.2.1,u11.1,u11.2.1,u12.1,u12.2.1,u13.1,u13.2.1,u13.2.2.1,r13.1.1,r13.1.2.1,r13.1.2.2.1,u7.1,u7.2.1,u7.2.2.1,()),(a0.1,r13.2.2.1,r13.2.2.2.1,()))) (
 .leaf ((r9.1,r9.2.1,r11.1.2.1,r11.1.1,r11.1.2.1,u8.1,u8.2.1,u9.1,u9.2.1,u10.1,u10.2.1,u11.1,u11.2.1,u12.1,u12.2.1,u13.1,u13.2.1,u13.2.2.1,u6.1,u6.2.1,u6.2.2.1,u7.1,u7.2.1,u7.2.2.1,()),(a0.1,r12.2.2.1,r12.2.2.2.1,())))) (
 .ob (Ce (a0.1,r10.2.2.1,r10.2.2.2.1,()) ((2:Int),())) fun r14=>
 .br r14.1.1 (
 .ob (Nw (a0.1,r14.2.2.1,r14.2.2.2.1,())) fun r15=>
 .leaf ((r9.1,r9.2.1,r9.2.2.1,u1.1,u1.2.1,u1.2.2.1,u2.1,u2.2.1,u2.2.2.1,u3.1,u3.2.1,u3.2.2.1,u4.1,u4.2.1,u4.2.2.1,u5.1,u5.2.1,u5.2.2.1,r15.1.1,r15.1.2.1,r15.1.2.2.1,u7.1,u7.2.1,u7.2.2.1,()),(a0.1,r15.2.2.1,r15.2.2.2.1,()))) (
 .leaf (r9,(a0.1,r14.2.2.1,r14.2.2.2.1,()))))
def Ku (a0:Aq):Option (Ad×Aq):=(Abv a0).val
def Aft (a0:YEp):Tree (YEp):=
 .chk (decide (([]:List YB).length+a0.2.1.length≤4294967296)) <|
 .ob (Ahd (a0.2.2.2.1,a0.2.2.2.2.1,())) fun r1=>
 .leaf (a0.1,(([]:List YB)++a0.2.1),a0.2.2.1,r1.1,r1.2.1,())
def Vl (a0:YEp):Option (YEp):=(Aft a0).val
def Aky (a0:YEp) (a1:Bool×Unit):Tree (YEp):=
 .br (!a1.1) (
 .chk (decide (([]:List YB).length+a0.2.1.length≤4294967296)) <|
 .chk (decide (([]:List YI).length+a0.2.2.2.2.1.length≤4294967296)) <|
 .leaf (a0.1,(([]:List YB)++a0.2.1),a0.2.2.1,a0.2.2.2.1,(([]:List YI)++a0.2.2.2.2.1),())) (
 .ob (Vl a0) fun r1=>
 .leaf r1)
def Ame (a0:YEp) (a1:Bool×Unit):Option (YEp):=(Aky a0 a1).val
def Abw (a0:Bt):Tree (Bt):=
 letI u1:=a0.2.2.2;letI u2:=u1.2.2.2;letI u3:=u2.2.2.2;letI u4:=u3.2.2.2;.chk (decide (([]:List YB).length+a0.2.1.length≤4294967296)) <|
 .ob (Vl (a0.2.2.1,u1.1,u1.2.1,u1.2.2.1,u2.1,())) fun r1=>
 .ob (Ame (u2.2.1,u2.2.2.1,u3.1,u3.2.1,u3.2.2.1,()) (u4.1,())) fun r2=>
 .chk (decide (([]:List YB).length+a0.2.2.2.2.2.2.2.2.2.2.2.2.2.2.1.length≤4294967296)) <|
 .leaf (a0.1,(([]:List YB)++a0.2.1),r1.1,r1.2.1,r1.2.2.1,r1.2.2.2.1,r1.2.2.2.2.1,r2.1,r2.2.1,r2.2.2.1,r2.2.2.2.1,r2.2.2.2.2.1,u4.1,u4.2.1,(([]:List YB)++u4.2.2.1),())
def Acz (a0:Bt):Option (Bt):=(Abw a0).val
def Abx (a0:Ad):Tree (Ad):=
 letI u1:=a0.2.2.2;letI u2:=u1.2.2.2;letI u3:=u2.2.2.2;letI u4:=u3.2.2.2;letI u5:=u4.2.2.2;letI u6:=u5.2.2.2.2;.chk (decide (([]:List YB).length+a0.2.1.length≤4294967296)) <|
 .chk (decide (([]:List YB).length+a0.2.2.1.length≤4294967296)) <|
 .ob (Acz (u1.1,u1.2.1,u1.2.2.1,u2.1,u2.2.1,u2.2.2.1,u3.1,u3.2.1,u3.2.2.1,u4.1,u4.2.1,u4.2.2.1,u5.1,u5.2.1,u5.2.2.1,())) fun r1=>letI u7:=r1.2.2.2;letI u8:=u7.2.2.2;letI u9:=u8.2.2.2.2;
 .ob (Dy (u5.2.2.2.1,u6.1,u6.2.1,())) fun r2=>
 .leaf (a0.1,(([]:List YB)++a0.2.1),(([]:List YB)++a0.2.2.1),r1.1,r1.2.1,r1.2.2.1,u7.1,u7.2.1,u7.2.2.1,u8.1,u8.2.1,u8.2.2.1,u8.2.2.2.1,u9.1,u9.2.1,u9.2.2.1,u9.2.2.2.1,u9.2.2.2.2.1,r2.1,r2.2.1,r2.2.2.1,u6.2.2.1,u6.2.2.2.1,u6.2.2.2.2.1,())
def Nx (a0:Ad):Option (Ad):=(Abx a0).val
def H6 (x1:Int×Int×(List Ad)×Int×(List Ad)×Int×(List Ad)×Unit):Option ((Int×Int×(List Ad)×Int×(List Ad)×Int×(List Ad)×Unit)⊕((Int×(List Ad)×Int×(List Ad)×Unit))):=
 letI u1:=x1.2.2;letI u2:=u1.2.2;Tree.val (α:=(Int×Int×(List Ad)×Int×(List Ad)×Int×(List Ad)×Unit)⊕((Int×(List Ad)×Int×(List Ad)×Unit))) <|
 .br (decide (x1.1<(x1.2.2.1.length:Int))) (
 .ob (idx u1.1 x1.1) fun e2=>
 .ob (Nx e2) fun r3=>
 .chk (decide (x1.2.2.2.2.2.2.1.length+[r3].length≤4294967296)) <|
 .leaf (.inl ((i64.wrap (x1.1+(1:Int))),x1.2.1,u1.1,u1.2.1,u2.1,u2.2.1,(u2.2.2.1++[r3]),()))) (
 .leaf (.inr (u1.2.1,u2.1,u2.2.1,u2.2.2.1,())))
def Abz (a0:Bp):Tree (Bp):=
 .ob (As H6 ((0:Int),a0.1,a0.2.1,(0:Int),([]:List Ad),a0.1,([]:List Ad),())) fun o4=>
 .leaf (o4.2.2.1,o4.2.2.2.1,())
def S1 (a0:Bp):Option (Bp):=(Abz a0).val
def Ab1 (a0:Bp) (a1:Ad):Tree (Bp×YI):=
 .ob (S1 a0) fun r1=>
 .ob (Aae a0) fun r2=>
 .br (!r2.1) (
 .leaf (r1,((1:Int),()))) (
 .ob (Qc a1) fun r3=>
 .br (!r3.1) (
 .leaf (r1,((1:Int),()))) (
 .br a1.2.2.2.2.2.2.2.2.2.2.2.2.2.2.2.2.2.2.2.2.2.2.2.1 (
 .leaf (r1,((1:Int),()))) (
 .ob (Vi a0 (a1.2.2.1,())) fun r4=>
 .br (decide (r4.1≥(0:Int))) (
 .leaf (r1,((3:Int),()))) (
 .ob (Xf a0) fun r5=>
 .br (r5.1==a0.1) (
 .leaf (r1,((7:Int),()))) (
 .br ((a0.2.1.length:Int)==(12:Int)) (
 .leaf (r1,((7:Int),()))) (
 .ob (Nx a1) fun r6=>
 .chk (decide (r1.2.1.length+[r6].length≤4294967296)) <|
 .leaf ((r1.1,(r1.2.1++[r6]),()),((0:Int),()))))))))
def Ny (a0:Bp) (a1:Ad):Option (Bp×YI):=(Ab1 a0 a1).val
def Afu (a0:Ad):Tree (Ad):=
 .ob (Qc a0) fun r1=>
 .br (!r1.1) (
 .ob (Nx a0) fun r2=>
 .leaf r2) (
 .chk (decide (([]:List YB).length+a0.2.1.length≤4294967296)) <|
 .chk (decide (([]:List YB).length+a0.2.2.1.length≤4294967296)) <|
 .leaf (a0.1,(([]:List YB)++a0.2.1),(([]:List YB)++a0.2.2.1),(0:Int),([]:List YB),(0:Int),([]:List YB),(0:Int),(0:Int),([]:List YI),(0:Int),([]:List YB),(0:Int),(0:Int),([]:List YI),false,(0:Int),([]:List YB),(0:Int),(0:Int),([]:List Ap),a0.2.2.2.2.2.2.2.2.2.2.2.2.2.2.2.2.2.2.2.2.2.1,(0:Int),true,()))
def I7 (a0:Ad):Option (Ad):=(Afu a0).val
def Oe (x4:Int×(List YB)×Int×Int×Int×(List Ad)×Int×(List Ad)×Unit):Option ((Int×(List YB)×Int×Int×Int×(List Ad)×Int×(List Ad)×Unit)⊕(((List YB)×Int×Int×Int×(List Ad)×Int×(List Ad)×Unit))):=
 letI u1:=x4.2.2.2;letI u2:=u1.2.2;Tree.val (α:=(Int×(List YB)×Int×Int×Int×(List Ad)×Int×(List Ad)×Unit)⊕(((List YB)×Int×Int×Int×(List Ad)×Int×(List Ad)×Unit))) <|
 .br (decide (x4.1>(0:Int))) (
 .ob (Ku (x4.2.1,x4.2.2.1,u1.1,())) fun r5=>
 .ob (Ny (u2.2.1,u2.2.2.1,()) r5.1) fun r6=>
 .br (decide ((r6.1.2.1.length:Int)>(0:Int))) (
 .ob (Ce (x4.2.1,r5.2.2.1,r5.2.2.2.1,()) ((3:Int),())) fun r7=>
 .br r7.1.1 (
 .ob (A7 (x4.2.1,r7.2.2.1,r7.2.2.2.1,()) ((r6.1.2.1.length:Int),())) fun r8=>
 .ob (idx r6.1.2.1 r8.1.1) fun e9=>
 .ob (I7 e9) fun r10=>
 .ob (idx r6.1.2.1 r8.1.1) fun e11=>
 let q12:=(r6.1.2.1.set (r8.1.1).toNat r10)
 .leaf (.inl ((i64.wrap (x4.1-(1:Int))),x4.2.1,r8.2.2.1,r8.2.2.2.1,u1.2.1,u2.1,r6.1.1,q12,()))) (
 .leaf (.inl ((i64.wrap (x4.1-(1:Int))),x4.2.1,r7.2.2.1,r7.2.2.2.1,u1.2.1,u2.1,r6.1.1,r6.1.2.1,())))) (
 .leaf (.inl ((i64.wrap (x4.1-(1:Int))),x4.2.1,r5.2.2.1,r5.2.2.2.1,u1.2.1,u2.1,r6.1.1,r6.1.2.1,())))) (
 .leaf (.inr (x4.2.1,x4.2.2.1,u1.1,u1.2.1,u2.1,u2.2.1,u2.2.2.1,())))
def Ab3 (a0:Aq):Tree (Bp×Aq):=
 .ob (A7 a0 ((6:Int),())) fun r1=>
 .ob (My ((i64.wrap ((1:Int)+r1.1.1)),())) fun r2=>
 .ob (A7 (a0.1,r1.2.2.1,r1.2.2.2.1,()) ((6:Int),())) fun r3=>
 .ob (As Oe (r3.1.1,a0.1,r3.2.2.1,r3.2.2.2.1,(0:Int),([]:List Ad),r2.1,r2.2.1,())) fun o13=>
 .leaf ((o13.2.2.2.2.2.1,o13.2.2.2.2.2.2.1,()),(o13.1,o13.2.1,o13.2.2.1,()))
def S2 (a0:Aq):Option (Bp×Aq):=(Ab3 a0).val
def No (x1:(List Ak)×Int×Int×Int×Unit):Option (((List Ak)×Int×Int×Int×Unit)⊕(YI⊕(Unit))):=
 Tree.val (α:=((List Ak)×Int×Int×Int×Unit)⊕(YI⊕(Unit))) <|
 .br (decide (x1.2.1<(x1.1.length:Int))) (
 .ob (idx x1.1 x1.2.1) fun e2=>
 .br (and (e2.1==x1.2.2.1) (and (e2.2.1==x1.2.2.2.1) true)) (
 .leaf (.inr (.inl (x1.2.1,())))) (
 .leaf (.inl (x1.1,(i64.wrap (x1.2.1+(1:Int))),x1.2.2.1,x1.2.2.2.1,())))) (
 .leaf (.inr (.inr ())))
def Ak2 (a0:(List Ak)×Unit) (a1:Bi):Tree (YI):=
 .ob (As No (a0.1,(0:Int),a1.1,a1.2.1,())) fun o3=>
 .sm o3 (fun o4=>
 .leaf o4) (fun o5=>
 .leaf ((-1:Int),()))
def Ts (a0:(List Ak)×Unit) (a1:Bi):Option (YI):=(Ak2 a0 a1).val
def Aqj (a0:(List Ak)×Unit) (a1:Bi) (a2:YI):Tree (((List Ak)×Unit)):=
 .chk (decide (([]:List Ak).length+a0.1.length≤4294967296)) <|
 .ob (Ih a0) fun r1=>
 .br (!r1.1) (
 .leaf ((([]:List Ak)++a0.1),())) (
 .ob (Fi a1) fun r2=>
 .br (!r2.1) (
 .leaf ((([]:List Ak)++a0.1),())) (
 .ob (Bc a2 ((0:Int),()) ((1000000:Int),())) fun r3=>
 .br (!r3.1) (
 .leaf ((([]:List Ak)++a0.1),())) (
 .ob (Ts a0 a1) fun r4=>
 .br (decide (r4.1<(0:Int))) (
 .br ((a0.1.length:Int)==(8:Int)) (
 .leaf ((([]:List Ak)++a0.1),())) (
 .chk (decide ((([]:List Ak)++a0.1).length+[(a1.1,a1.2.1,a2.1,(0:Int),())].length≤4294967296)) <|
 .leaf (((([]:List Ak)++a0.1)++[(a1.1,a1.2.1,a2.1,(0:Int),())]),()))) (
 .ob (idx (([]:List Ak)++a0.1) r4.1) fun e5=>
 .ob (idx (([]:List Ak)++a0.1) r4.1) fun e6=>
 let q7:=((([]:List Ak)++a0.1).set (r4.1).toNat (e6.1,e6.2.1,(i64.wrap (e5.2.2.1+a2.1)),e6.2.2.2.1,()))
 .ob (idx q7 r4.1) fun e8=>
 .br (decide (e8.2.2.1>(1000000:Int))) (
 .ob (idx q7 r4.1) fun e9=>
 let q10:=(q7.set (r4.1).toNat (e9.1,e9.2.1,(1000000:Int),e9.2.2.2.1,()))
 .leaf (q10,())) (
 .leaf (q7,()))))))
def Aq5 (a0:(List Ak)×Unit) (a1:Bi) (a2:YI):Option (((List Ak)×Unit)):=(Aqj a0 a1 a2).val
def Ab4 (a0:(List Ak)×Unit) (a1:Bi):Tree (YI):=
 .ob (Ts a0 a1) fun r1=>
 .ob (Ih a0) fun r2=>
 .br (!r2.1) (
 .leaf ((0:Int),())) (
 .br (decide (r1.1<(0:Int))) (
 .leaf ((0:Int),())) (
 .ob (idx a0.1 r1.1) fun e3=>
 .ob (idx a0.1 r1.1) fun e4=>
 .leaf ((i64.wrap ((i64.wrap ((3:Int)*e3.2.2.1))-e4.2.2.2.1)),())))
def Ac0 (a0:(List Ak)×Unit) (a1:Bi):Option (YI):=(Ab4 a0 a1).val
def Ak3 (a0:(List Ak)×Unit) (a1:Bi) (a2:YI):Tree (((List Ak)×Unit)×(Bool×Unit)):=
 .chk (decide (([]:List Ak).length+a0.1.length≤4294967296)) <|
 .ob (Ts a0 a1) fun r1=>
 .br (decide (r1.1<(0:Int))) (
 .leaf (((([]:List Ak)++a0.1),()),(false,()))) (
 .ob (Ih a0) fun r2=>
 .br (!r2.1) (
 .leaf (((([]:List Ak)++a0.1),()),(false,()))) (
 .ob (Ac0 a0 a1) fun r3=>
 .ob (Bc a2 ((0:Int),()) r3) fun r4=>
 .br (!r4.1) (
 .leaf (((([]:List Ak)++a0.1),()),(false,()))) (
 .ob (idx (([]:List Ak)++a0.1) r1.1) fun e5=>
 .ob (idx (([]:List Ak)++a0.1) r1.1) fun e6=>
 let q7:=((([]:List Ak)++a0.1).set (r1.1).toNat (e6.1,e6.2.1,e6.2.2.1,(i64.wrap (e5.2.2.2.1+a2.1)),()))
 .leaf ((q7,()),(true,())))))
def Aah (a0:(List Ak)×Unit) (a1:Bi) (a2:YI):Option (((List Ak)×Unit)×(Bool×Unit)):=(Ak3 a0 a1 a2).val
def Of (x2:(List Ak)×Int×(List YB)×Int×Int×Unit):Option (((List Ak)×Int×(List YB)×Int×Int×Unit)⊕(((List Ak)×(List YB)×Int×Int×Unit))):=
 letI u1:=x2.2.2;Tree.val (α:=((List Ak)×Int×(List YB)×Int×Int×Unit)⊕(((List Ak)×(List YB)×Int×Int×Unit))) <|
 .br (decide (x2.2.1>(0:Int))) (
 .ob (A7 (u1.1,u1.2.1,u1.2.2.1,()) ((10:Int),())) fun r3=>
 .ob (I6 r3.1) fun r4=>
 .ob (Bf (u1.1,r3.2.2.1,r3.2.2.2.1,()) ([((0:Int),()),((1:Int),()),((34:Int),()),((60:Int),()),((999999:Int),()),((1000000:Int),())],())) fun r5=>
 .ob (Aq5 (x2.1,()) r4 r5.1) fun r6=>
 .ob (Bf (u1.1,r5.2.2.1,r5.2.2.2.1,()) ([((0:Int),()),((3:Int),()),((45:Int),()),((102:Int),()),((1000:Int),())],())) fun r7=>
 .ob (Aah r6 r4 r7.1) fun r8=>
 .leaf (.inl (r8.1.1,(i64.wrap (x2.2.1-(1:Int))),u1.1,r7.2.2.1,r7.2.2.2.1,()))) (
 .leaf (.inr (x2.1,u1.1,u1.2.1,u1.2.2.1,())))
def Ab6 (a0:Aq) (a1:YI):Tree (((List Ak)×Unit)×Aq):=
 .ob (A7 a0 ((i64.wrap (a1.1+(1:Int))),())) fun r1=>
 .ob (As Of (([]:List Ak),r1.1.1,a0.1,r1.2.2.1,r1.2.2.2.1,())) fun o9=>
 .leaf ((o9.1,()),(o9.2.1,o9.2.2.1,o9.2.2.2.1,()))
def S3 (a0:Aq) (a1:YI):Option (((List Ak)×Unit)×Aq):=(Ab6 a0 a1).val
def Og (x6:Int×(List YB)×Int×Int×(List YBs)×(List YB)×(List YB)×Int×Int×(List Ad)×(List Ak)×(List YBs)×(List YB)×(List YB)×Int×Int×(List Ad)×(List Ak)×Int×(List Ad)×Unit):Option ((Int×(List YB)×Int×Int×(List YBs)×(List YB)×(List YB)×Int×Int×(List Ad)×(List Ak)×(List YBs)×(List YB)×(List YB)×Int×Int×(List Ad)×(List Ak)×Int×(List Ad)×Unit)⊕(((List YB)×Int×Int×(List YBs)×(List YB)×(List YB)×Int×Int×(List Ad)×(List Ak)×(List YBs)×(List YB)×(List YB)×Int×Int×(List Ad)×(List Ak)×Unit))):=
 letI u1:=x6.2.2;letI u2:=u1.2.2;letI u3:=u2.2.2;letI u4:=u3.2.2;letI u5:=u4.2.2;letI u6:=u5.2.2;letI u7:=u6.2.2;letI u8:=u7.2.2;letI u9:=u8.2.2;Tree.val (α:=(Int×(List YB)×Int×Int×(List YBs)×(List YB)×(List YB)×Int×Int×(List Ad)×(List Ak)×(List YBs)×(List YB)×(List YB)×Int×Int×(List Ad)×(List Ak)×Int×(List Ad)×Unit)⊕(((List YB)×Int×Int×(List YBs)×(List YB)×(List YB)×Int×Int×(List Ad)×(List Ak)×(List YBs)×(List YB)×(List YB)×Int×Int×(List Ad)×(List Ak)×Unit))) <|
 .br (decide (x6.1<(x6.2.2.2.2.2.2.2.2.2.2.2.2.2.2.2.2.2.2.2.1.length:Int))) (
 .ob (idx u9.2.1 x6.1) fun e7=>
 .br (decide (e7.1≤(x6.2.2.2.2.2.2.2.2.2.2.2.1.length:Int))) (
 .ob (idx u9.2.1 x6.1) fun e8=>
 .ob (Ny (u7.2.1,u8.1,()) e8) fun r9=>
 .leaf (.inl ((i64.wrap (x6.1+(1:Int))),x6.2.1,u1.1,u1.2.1,u2.1,u2.2.1,u3.1,u3.2.1,u4.1,u4.2.1,u5.1,u5.2.1,u6.1,u6.2.1,u7.1,r9.1.1,r9.1.2.1,u8.2.1,u9.1,u9.2.1,()))) (
 .leaf (.inl ((i64.wrap (x6.1+(1:Int))),x6.2.1,u1.1,u1.2.1,u2.1,u2.2.1,u3.1,u3.2.1,u4.1,u4.2.1,u5.1,u5.2.1,u6.1,u6.2.1,u7.1,u7.2.1,u8.1,u8.2.1,u9.1,u9.2.1,())))) (
 .leaf (.inr (x6.2.1,u1.1,u1.2.1,u2.1,u2.2.1,u3.1,u3.2.1,u4.1,u4.2.1,u5.1,u5.2.1,u6.1,u6.2.1,u7.1,u7.2.1,u8.1,u8.2.1,())))
def Ab7 (a0:Aq):Tree (Az×Aq):=
 .ob (Acv a0) fun r1=>
 .ob (Cd (a0.1,r1.2.2.1,r1.2.2.2.1,()) ((8:Int),())) fun r2=>
 .ob (A7 (a0.1,r2.2.2.1,r2.2.2.2.1,()) ((4:Int),())) fun r3=>
 .ob (Ut r1.1 r2.1 ((i64.wrap ((1:Int)+r3.1.1)),())) fun r4=>letI u1:=r4.2.2.2;
 .ob (S2 (a0.1,r3.2.2.1,r3.2.2.2.1,())) fun r5=>
 .ob (As Og ((0:Int),a0.1,r5.2.2.1,r5.2.2.2.1,([]:List YBs),([]:List YB),([]:List YB),(0:Int),(0:Int),([]:List Ad),([]:List Ak),r4.1,r4.2.1,r4.2.2.1,u1.1,u1.2.1,u1.2.2.1,u1.2.2.2.1,r5.1.1,r5.1.2.1,())) fun o10=>letI u2:=o10.2.2.2.2.2.2.2.2.2.2;
 .ob (S3 (o10.1,o10.2.1,o10.2.2.1,()) ((6:Int),())) fun r11=>
 .ob (A7 (o10.1,r11.2.2.1,r11.2.2.2.1,()) ((30:Int),())) fun r12=>
 .leaf ((u2.1,u2.2.1,u2.2.2.1,(i64.wrap ((1:Int)+r12.1.1)),u2.2.2.2.2.1,u2.2.2.2.2.2.1,r11.1.1,()),(o10.1,r12.2.2.1,r12.2.2.2.1,()))
def Ac1 (a0:Aq):Option (Az×Aq):=(Ab7 a0).val
def Afw (a0:Aq) (a1:(List YBs)×Unit) (a2:(List YBs)×Unit):Tree (((List YBs)×Unit)×Aq):=
 .ob (Ce a0 ((2:Int),())) fun r1=>
 .br r1.1.1 (
 .leaf (a1,(a0.1,r1.2.2.1,r1.2.2.2.1,()))) (
 .leaf (a2,(a0.1,r1.2.2.1,r1.2.2.2.1,())))
def Ahf (a0:Aq) (a1:(List YBs)×Unit) (a2:(List YBs)×Unit):Option (((List YBs)×Unit)×Aq):=(Afw a0 a1 a2).val
def Afx (a0:Aq):Tree (YBs×Aq):=
 .ob (Cd a0 ((12:Int),())) fun r1=>
 .ob (Mx r1.1) fun r2=>
 .ob (Ce (a0.1,r1.2.2.1,r1.2.2.2.1,()) ((10:Int),())) fun r3=>
 .br r3.1.1 (
 .ob (Bf (a0.1,r3.2.2.1,r3.2.2.2.1,()) ([((0:Int),()),((31:Int),()),((32:Int),())],())) fun r4=>
 .ob (Cd (a0.1,r4.2.2.1,r4.2.2.2.1,()) r4.1) fun r5=>
 .leaf (r5.1,(a0.1,r5.2.2.1,r5.2.2.2.1,()))) (
 .leaf (r2,(a0.1,r3.2.2.1,r3.2.2.2.1,())))
def Ahg (a0:Aq):Option (YBs×Aq):=(Afx a0).val
def Aqk (a0:Aq):Tree (YEp×Aq):=
 .ob (Bf a0 ([((0:Int),()),((0:Int),()),((1:Int),()),((2:Int),()),((4294967295:Int),())],())) fun r1=>
 .ob (Cd (a0.1,r1.2.2.1,r1.2.2.2.1,()) ((32:Int),())) fun r2=>
 .ob (Ly r1.1 r2.1) fun r3=>
 .ob (Bf (a0.1,r2.2.2.1,r2.2.2.2.1,()) ([((0:Int),()),((0:Int),()),((1:Int),()),((5:Int),()),((281474976709655:Int),()),((281474976709656:Int),()),((281474976710655:Int),()),((281474976710656:Int),())],())) fun r4=>
 .ob (Ce (a0.1,r4.2.2.1,r4.2.2.2.1,()) ((3:Int),())) fun r5=>
 .br r5.1.1 (
 .ob (Qd (a0.1,r5.2.2.1,r5.2.2.2.1,())) fun r6=>
 .leaf ((r3.1,r3.2.1,r4.1.1,r6.1.1,r6.1.2.1,()),(a0.1,r6.2.2.1,r6.2.2.2.1,()))) (
 .leaf ((r3.1,r3.2.1,r4.1.1,r3.2.2.2.1,r3.2.2.2.2.1,()),(a0.1,r5.2.2.1,r5.2.2.2.1,())))
def Aq6 (a0:Aq):Option (YEp×Aq):=(Aqk a0).val
def Ak5 (a0:Aq):Tree (Cj×Aq):=
 .ob (Qd a0) fun r1=>
 .ob (A7 (a0.1,r1.2.2.1,r1.2.2.2.1,()) ((12:Int),())) fun r2=>letI u1:=r2.2.2;
 .br (r2.1.1==(0:Int)) (
 .ob (Bf (a0.1,u1.1,u1.2.1,()) ([((-2:Int),()),((-1:Int),()),((0:Int),()),((700:Int),()),((281474976710656:Int),())],())) fun r3=>
 .leaf ((r3.1.1,r1.1.2.1,()),(a0.1,r3.2.2.1,r3.2.2.2.1,()))) (
 .br (r2.1.1==(1:Int)) (
 .ob (A7 (a0.1,u1.1,u1.2.1,()) ((32:Int),())) fun r4=>
 .ob (Bf (a0.1,r4.2.2.1,r4.2.2.2.1,()) ([((-1:Int),()),((0:Int),()),((1:Int),()),((4294967295:Int),()),((4294967296:Int),())],())) fun r5=>
 .ob (idx r1.1.2.1 r4.1.1) fun e6=>
 let q7:=(r1.1.2.1.set (r4.1.1).toNat r5.1)
 .leaf ((r1.1.1,q7,()),(a0.1,r5.2.2.1,r5.2.2.2.1,()))) (
 .br (r2.1.1==(2:Int)) (
 .ob (A7 (a0.1,u1.1,u1.2.1,()) ((32:Int),())) fun r8=>
 .chk (decide ((0:Int)≤r8.1.1)) <|
 .chk (decide (r8.1.1≤(r1.1.2.1.length:Int))) <|
 .leaf ((r1.1.1,((r1.1.2.1.take (r8.1.1).toNat).drop ((0:Int)).toNat),()),(a0.1,r8.2.2.1,r8.2.2.2.1,()))) (
 .leaf (r1.1,(a0.1,u1.1,u1.2.1,())))))
def Amf (a0:Aq):Option (Cj×Aq):=(Ak5 a0).val
def Ak6 (a0:Aq):Tree (YEp×Aq):=
 .ob (Aq6 a0) fun r1=>letI u1:=r1.1.2.2;
 .ob (A7 (a0.1,r1.2.2.1,r1.2.2.2.1,()) ((14:Int),())) fun r2=>letI u2:=r2.2.2;
 .br (r2.1.1==(0:Int)) (
 .ob (Bf (a0.1,u2.1,u2.2.1,()) ([((-1:Int),()),((4294967296:Int),())],())) fun r3=>
 .leaf ((r3.1.1,r1.1.2.1,u1.1,u1.2.1,u1.2.2.1,()),(a0.1,r3.2.2.1,r3.2.2.2.1,()))) (
 .br (r2.1.1==(1:Int)) (
 .ob (Bf (a0.1,u2.1,u2.2.1,()) ([((0:Int),()),((31:Int),()),((33:Int),())],())) fun r4=>
 .ob (Cd (a0.1,r4.2.2.1,r4.2.2.2.1,()) r4.1) fun r5=>
 .leaf ((r1.1.1,r5.1.1,u1.1,u1.2.1,u1.2.2.1,()),(a0.1,r5.2.2.1,r5.2.2.2.1,()))) (
 .br (r2.1.1==(2:Int)) (
 .ob (Bf (a0.1,u2.1,u2.2.1,()) ([((-1:Int),()),((281474976710657:Int),())],())) fun r6=>
 .leaf ((r1.1.1,r1.1.2.1,r6.1.1,u1.2.1,u1.2.2.1,()),(a0.1,r6.2.2.1,r6.2.2.2.1,()))) (
 .br (r2.1.1==(3:Int)) (
 .ob (Amf (a0.1,u2.1,u2.2.1,())) fun r7=>
 .leaf ((r1.1.1,r1.1.2.1,u1.1,r7.1.1,r7.1.2.1,()),(a0.1,r7.2.2.1,r7.2.2.2.1,()))) (
 .leaf (r1.1,(a0.1,u2.1,u2.2.1,()))))))
def Aai (a0:Aq):Option (YEp×Aq):=(Ak6 a0).val
def Afy (a0:Aq):Tree (Bt×Aq):=
 .ob (A7 a0 ((2:Int),())) fun r1=>
 .ob (Sy (a0.1,r1.2.2.1,r1.2.2.2.1,()) r1.1) fun r2=>letI u1:=r2.1.2.2;letI u2:=u1.2.2;letI u3:=u2.2.2;letI u4:=u3.2.2;letI u5:=u4.2.2;letI u6:=u5.2.2;letI u7:=u6.2.2;
 .ob (A7 (a0.1,r2.2.2.1,r2.2.2.2.1,()) ((20:Int),())) fun r3=>letI u8:=r3.2.2;
 .br (r3.1.1==(0:Int)) (
 .ob (Bf (a0.1,u8.1,u8.2.1,()) ([((-1:Int),()),((0:Int),()),((1:Int),()),((2:Int),())],())) fun r4=>
 .leaf ((r4.1.1,r2.1.2.1,u1.1,u1.2.1,u2.1,u2.2.1,u3.1,u3.2.1,u4.1,u4.2.1,u5.1,u5.2.1,u6.1,u6.2.1,u7.1,()),(a0.1,r4.2.2.1,r4.2.2.2.1,()))) (
 .br (r3.1.1==(1:Int)) (
 .ob (Cd (a0.1,u8.1,u8.2.1,()) ((11:Int),())) fun r5=>
 .leaf ((r2.1.1,r5.1.1,u1.1,u1.2.1,u2.1,u2.2.1,u3.1,u3.2.1,u4.1,u4.2.1,u5.1,u5.2.1,u6.1,u6.2.1,u7.1,()),(a0.1,r5.2.2.1,r5.2.2.2.1,()))) (
 .br (r3.1.1==(2:Int)) (
 .ob (Aai (a0.1,u8.1,u8.2.1,())) fun r6=>
 .leaf ((r2.1.1,r2.1.2.1,r6.1.1,r6.1.2.1,r6.1.2.2.1,r6.1.2.2.2.1,r6.1.2.2.2.2.1,u3.2.1,u4.1,u4.2.1,u5.1,u5.2.1,u6.1,u6.2.1,u7.1,()),(a0.1,r6.2.2.1,r6.2.2.2.1,()))) (
 .br (r3.1.1==(3:Int)) (
 .ob (Aai (a0.1,u8.1,u8.2.1,())) fun r7=>
 .leaf ((r2.1.1,r2.1.2.1,u1.1,u1.2.1,u2.1,u2.2.1,u3.1,r7.1.1,r7.1.2.1,r7.1.2.2.1,r7.1.2.2.2.1,r7.1.2.2.2.2.1,u6.1,u6.2.1,u7.1,()),(a0.1,r7.2.2.1,r7.2.2.2.1,()))) (
 .br (r3.1.1==(4:Int)) (
 .leaf ((r2.1.1,r2.1.2.1,u1.1,u1.2.1,u2.1,u2.2.1,u3.1,u3.2.1,u4.1,u4.2.1,u5.1,u5.2.1,(!u6.1),u6.2.1,u7.1,()),(a0.1,u8.1,u8.2.1,()))) (
 .br (r3.1.1==(5:Int)) (
 .ob (Bf (a0.1,u8.1,u8.2.1,()) ([((-2:Int),()),((-1:Int),()),((1:Int),()),((1000006:Int),())],())) fun r8=>
 .leaf ((r2.1.1,r2.1.2.1,u1.1,u1.2.1,u2.1,u2.2.1,u3.1,u3.2.1,u4.1,u4.2.1,u5.1,u5.2.1,u6.1,r8.1.1,u7.1,()),(a0.1,r8.2.2.1,r8.2.2.2.1,()))) (
 .br (r3.1.1==(6:Int)) (
 .ob (Bf (a0.1,u8.1,u8.2.1,()) ([((0:Int),()),((31:Int),()),((32:Int),())],())) fun r9=>
 .ob (Cd (a0.1,r9.2.2.1,r9.2.2.2.1,()) r9.1) fun r10=>
 .leaf ((r2.1.1,r2.1.2.1,u1.1,u1.2.1,u2.1,u2.2.1,u3.1,u3.2.1,u4.1,u4.2.1,u5.1,u5.2.1,u6.1,u6.2.1,r10.1.1,()),(a0.1,r10.2.2.1,r10.2.2.2.1,()))) (
 .leaf (r2.1,(a0.1,u8.1,u8.2.1,())))))))))
def Ahh (a0:Aq):Option (Bt×Aq):=(Afy a0).val
def Afz (a0:Aq):Tree (Bi×Aq):=
 .ob (Ce a0 ((3:Int),())) fun r1=>
 .br r1.1.1 (
 .ob (A7 (a0.1,r1.2.2.1,r1.2.2.2.1,()) ((16777216:Int),())) fun r2=>
 .ob (Is (a0.1,r2.2.2.1,r2.2.2.2.1,())) fun r3=>
 .ob (A7 (a0.1,r3.2.2.1,r3.2.2.2.1,()) ((65536:Int),())) fun r4=>
 .leaf (((i64.wrap ((i64.wrap (r2.1.1*(256:Int)))+r3.1.1)),r4.1.1,()),(a0.1,r4.2.2.1,r4.2.2.2.1,()))) (
 .ob (A7 (a0.1,r1.2.2.1,r1.2.2.2.1,()) ((6:Int),())) fun r5=>
 .ob (I6 r5.1) fun r6=>
 .leaf (r6,(a0.1,r5.2.2.1,r5.2.2.2.1,())))
def Ahi (a0:Aq):Option (Bi×Aq):=(Afz a0).val
def Ak7 (a0:Aq):Tree (YI×Aq):=
 .ob (Bf a0 ([((-1:Int),()),((0:Int),()),((1:Int),()),((2:Int),()),((255:Int),()),((256:Int),()),((65535:Int),()),((2147483647:Int),()),((2147483648:Int),()),((4294967295:Int),()),((4294967296:Int),()),((-2147483648:Int),()),((9223372036854775807:Int),()),((-9223372036854775808:Int),())],())) fun r1=>
 .leaf (r1.1,(a0.1,r1.2.2.1,r1.2.2.2.1,()))
def Amg (a0:Aq):Option (YI×Aq):=(Ak7 a0).val
def Ak9 (a0:Aq):Tree (Bi×Aq):=
 .ob (Ahi a0) fun r1=>
 .ob (A7 (a0.1,r1.2.2.1,r1.2.2.2.1,()) ((10:Int),())) fun r2=>letI u1:=r2.2.2;
 .br (r2.1.1==(0:Int)) (
 .ob (Amg (a0.1,u1.1,u1.2.1,())) fun r3=>
 .leaf ((r3.1.1,r1.1.2.1,()),(a0.1,r3.2.2.1,r3.2.2.2.1,()))) (
 .br (r2.1.1==(1:Int)) (
 .ob (Bf (a0.1,u1.1,u1.2.1,()) ([((-1:Int),()),((65535:Int),()),((65536:Int),()),((0:Int),())],())) fun r4=>
 .leaf ((r1.1.1,r4.1.1,()),(a0.1,r4.2.2.1,r4.2.2.2.1,()))) (
 .leaf (r1.1,(a0.1,u1.1,u1.2.1,()))))
def Tt (a0:Aq):Option (Bi×Aq):=(Ak9 a0).val
def Af0 (a0:Aq):Tree (Bb×Aq):=
 .ob (Nw a0) fun r1=>letI u1:=r1.1.2.2;
 .br ((r1.1.2.2.1.length:Int)==(0:Int)) (
 .leaf (r1.1,(a0.1,r1.2.2.1,r1.2.2.2.1,()))) (
 .ob (Ce (a0.1,r1.2.2.1,r1.2.2.2.1,()) ((2:Int),())) fun r2=>
 .br r2.1.1 (
 .leaf (r1.1,(a0.1,r2.2.2.1,r2.2.2.2.1,()))) (
 .ob (A7 (a0.1,r2.2.2.1,r2.2.2.2.1,()) ((r1.1.2.2.1.length:Int),())) fun r3=>
 .ob (A7 (a0.1,r3.2.2.1,r3.2.2.2.1,()) ((6:Int),())) fun r4=>letI u2:=r4.2.2;
 .br (r4.1.1==(0:Int)) (
 .ob (Tt (a0.1,u2.1,u2.2.1,())) fun r5=>
 .leaf ((r5.1.1,r5.1.2.1,u1.1,()),(a0.1,r5.2.2.1,r5.2.2.2.1,()))) (
 .br (r4.1.1==(1:Int)) (
 .ob (Tt (a0.1,u2.1,u2.2.1,())) fun r6=>
 .ob (idx u1.1 r3.1.1) fun e7=>
 let q8:=(r1.1.2.2.1.set (r3.1.1).toNat (r6.1.1,r6.1.2.1,e7.2.2.1,e7.2.2.2.1,()))
 .leaf ((r1.1.1,r1.1.2.1,q8,()),(a0.1,r6.2.2.1,r6.2.2.2.1,()))) (
 .br (r4.1.1==(2:Int)) (
 .ob (Cd (a0.1,u2.1,u2.2.1,()) ((11:Int),())) fun r9=>
 .ob (idx u1.1 r3.1.1) fun e10=>
 let q11:=(r1.1.2.2.1.set (r3.1.1).toNat (e10.1,e10.2.1,r9.1.1,e10.2.2.2.1,()))
 .leaf ((r1.1.1,r1.1.2.1,q11,()),(a0.1,r9.2.2.1,r9.2.2.2.1,()))) (
 .br (r4.1.1==(3:Int)) (
 .ob (Bf (a0.1,u2.1,u2.2.1,()) ([((-1:Int),()),((1000006:Int),()),((1000007:Int),())],())) fun r12=>
 .ob (idx u1.1 r3.1.1) fun e13=>
 let q14:=(r1.1.2.2.1.set (r3.1.1).toNat (e13.1,e13.2.1,e13.2.2.1,r12.1.1,()))
 .leaf ((r1.1.1,r1.1.2.1,q14,()),(a0.1,r12.2.2.1,r12.2.2.2.1,()))) (
 .br (r4.1.1==(4:Int)) (
 .ob (idx u1.1 r3.1.1) fun e15=>
 .leaf ((e15.1,e15.2.1,u1.1,()),(a0.1,u2.1,u2.2.1,()))) (
 .leaf (r1.1,(a0.1,u2.1,u2.2.1,())))))))))
def Ahj (a0:Aq):Option (Bb×Aq):=(Af0 a0).val
def Af1 (a0:Aq):Tree (Ad×Aq):=
 .ob (Ku a0) fun r1=>letI u1:=r1.1.2.2;letI u2:=u1.2.2;letI u3:=u2.2.2;letI u4:=u3.2.2;letI u5:=u4.2.2;letI u6:=u5.2.2;letI u7:=u6.2.2;letI u8:=u7.2.2;letI u9:=u8.2.2;letI u10:=u9.2.2;letI u11:=u10.2.2;
 .ob (A7 (a0.1,r1.2.2.1,r1.2.2.2.1,()) ((22:Int),())) fun r2=>letI u12:=r2.2.2;
 .br (r2.1.1==(0:Int)) (
 .ob (Bf (a0.1,u12.1,u12.2.1,()) ([((0:Int),()),((10:Int),())],())) fun r3=>
 .leaf ((r3.1.1,r1.1.2.1,u1.1,u1.2.1,u2.1,u2.2.1,u3.1,u3.2.1,u4.1,u4.2.1,u5.1,u5.2.1,u6.1,u6.2.1,u7.1,u7.2.1,u8.1,u8.2.1,u9.1,u9.2.1,u10.1,u10.2.1,u11.1,u11.2.1,()),(a0.1,r3.2.2.1,r3.2.2.2.1,()))) (
 .br (r2.1.1==(1:Int)) (
 .ob (Cd (a0.1,u12.1,u12.2.1,()) ((11:Int),())) fun r4=>
 .leaf ((r1.1.1,r4.1.1,u1.1,u1.2.1,u2.1,u2.2.1,u3.1,u3.2.1,u4.1,u4.2.1,u5.1,u5.2.1,u6.1,u6.2.1,u7.1,u7.2.1,u8.1,u8.2.1,u9.1,u9.2.1,u10.1,u10.2.1,u11.1,u11.2.1,()),(a0.1,r4.2.2.1,r4.2.2.2.1,()))) (
 .br (r2.1.1==(2:Int)) (
 .ob (Bf (a0.1,u12.1,u12.2.1,()) ([((11:Int),()),((12:Int),())],())) fun r5=>
 .ob (Cd (a0.1,r5.2.2.1,r5.2.2.2.1,()) r5.1) fun r6=>
 .leaf ((r1.1.1,r1.1.2.1,r6.1.1,u1.2.1,u2.1,u2.2.1,u3.1,u3.2.1,u4.1,u4.2.1,u5.1,u5.2.1,u6.1,u6.2.1,u7.1,u7.2.1,u8.1,u8.2.1,u9.1,u9.2.1,u10.1,u10.2.1,u11.1,u11.2.1,()),(a0.1,r6.2.2.1,r6.2.2.2.1,()))) (
 .br (r2.1.1==(3:Int)) (
 .ob (Ahh (a0.1,u12.1,u12.2.1,())) fun r7=>letI u13:=r7.1.2.2.2;letI u14:=u13.2.2.2;letI u15:=u14.2.2.2.2;
 .leaf ((r1.1.1,r1.1.2.1,u1.1,r7.1.1,r7.1.2.1,r7.1.2.2.1,u13.1,u13.2.1,u13.2.2.1,u14.1,u14.2.1,u14.2.2.1,u14.2.2.2.1,u15.1,u15.2.1,u15.2.2.1,u15.2.2.2.1,u15.2.2.2.2.1,u9.1,u9.2.1,u10.1,u10.2.1,u11.1,u11.2.1,()),(a0.1,r7.2.2.1,r7.2.2.2.1,()))) (
 .br (r2.1.1==(4:Int)) (
 .ob (Ahj (a0.1,u12.1,u12.2.1,())) fun r8=>
 .leaf ((r1.1.1,r1.1.2.1,u1.1,u1.2.1,u2.1,u2.2.1,u3.1,u3.2.1,u4.1,u4.2.1,u5.1,u5.2.1,u6.1,u6.2.1,u7.1,u7.2.1,u8.1,u8.2.1,r8.1.1,r8.1.2.1,r8.1.2.2.1,u10.2.1,u11.1,u11.2.1,()),(a0.1,r8.2.2.1,r8.2.2.2.1,()))) (
 .br (r2.1.1==(5:Int)) (
 .ob (Bf (a0.1,u12.1,u12.2.1,()) ([((-1:Int),()),((1000001:Int),())],())) fun r9=>
 .leaf ((r1.1.1,r1.1.2.1,u1.1,u1.2.1,u2.1,u2.2.1,u3.1,u3.2.1,u4.1,u4.2.1,u5.1,u5.2.1,u6.1,u6.2.1,u7.1,u7.2.1,u8.1,u8.2.1,u9.1,u9.2.1,u10.1,r9.1.1,u11.1,u11.2.1,()),(a0.1,r9.2.2.1,r9.2.2.2.1,()))) (
 .br (r2.1.1==(6:Int)) (
 .ob (Bf (a0.1,u12.1,u12.2.1,()) ([((-1:Int),()),((1000001:Int),())],())) fun r10=>
 .leaf ((r1.1.1,r1.1.2.1,u1.1,u1.2.1,u2.1,u2.2.1,u3.1,u3.2.1,u4.1,u4.2.1,u5.1,u5.2.1,u6.1,u6.2.1,u7.1,u7.2.1,u8.1,u8.2.1,u9.1,u9.2.1,u10.1,u10.2.1,r10.1.1,u11.2.1,()),(a0.1,r10.2.2.1,r10.2.2.2.1,()))) (
 .br (r2.1.1==(7:Int)) (
 .leaf ((r1.1.1,r1.1.2.1,u1.1,u1.2.1,u2.1,u2.2.1,u3.1,u3.2.1,u4.1,u4.2.1,u5.1,u5.2.1,u6.1,u6.2.1,u7.1,u7.2.1,u8.1,u8.2.1,u9.1,u9.2.1,u10.1,u10.2.1,u11.1,true,()),(a0.1,u12.1,u12.2.1,()))) (
 .br (r2.1.1==(8:Int)) (
 .ob (I7 r1.1) fun r11=>
 .leaf (r11,(a0.1,u12.1,u12.2.1,()))) (
 .br (r2.1.1==(9:Int)) (
 .ob (I7 r1.1) fun r12=>
 .leaf (r12,(a0.1,u12.1,u12.2.1,()))) (
 .leaf (r1.1,(a0.1,u12.1,u12.2.1,()))))))))))))
def Ahk (a0:Aq):Option (Ad×Aq):=(Af1 a0).val
def Oh (x15:Int×(List YB)×Int×Int×Int×(List Ad)×Int×(List Ad)×Int×(List YB)×(List YB)×Int×(List YB)×Int×(List YB)×Int×Int×(List YI)×Int×(List YB)×Int×Int×(List YI)×Bool×Int×(List YB)×Int×Int×(List Ap)×Int×Int×Bool×Unit):Option ((Int×(List YB)×Int×Int×Int×(List Ad)×Int×(List Ad)×Int×(List YB)×(List YB)×Int×(List YB)×Int×(List YB)×Int×Int×(List YI)×Int×(List YB)×Int×Int×(List YI)×Bool×Int×(List YB)×Int×Int×(List Ap)×Int×Int×Bool×Unit)⊕(((List YB)×Int×Int×Int×(List Ad)×Int×(List Ad)×Unit))):=
 letI u1:=x15.2.2;letI u2:=u1.2.2;letI u3:=u2.2.2;letI u4:=u3.2.2;letI u5:=u4.2.2.2;letI u6:=u5.2.2;letI u7:=u6.2.2;letI u8:=u7.2.2;letI u9:=u8.2.2;letI u10:=u9.2.2;letI u11:=u10.2.2;letI u12:=u11.2.2;letI u13:=u12.2.2;letI u14:=u13.2.2;Tree.val (α:=(Int×(List YB)×Int×Int×Int×(List Ad)×Int×(List Ad)×Int×(List YB)×(List YB)×Int×(List YB)×Int×(List YB)×Int×Int×(List YI)×Int×(List YB)×Int×Int×(List YI)×Bool×Int×(List YB)×Int×Int×(List Ap)×Int×Int×Bool×Unit)⊕(((List YB)×Int×Int×Int×(List Ad)×Int×(List Ad)×Unit))) <|
 .br (decide (x15.1>(x15.2.2.2.2.2.2.2.1.length:Int))) (
 .ob (Cd (x15.2.1,u1.1,u1.2.1,()) ((12:Int),())) fun r16=>
 .chk (decide (x15.2.2.2.2.2.2.2.1.length+[(u4.1,u4.2.1,r16.1.1,u5.1,u5.2.1,u6.1,u6.2.1,u7.1,u7.2.1,u8.1,u8.2.1,u9.1,u9.2.1,u10.1,u10.2.1,u11.1,u11.2.1,u12.1,u12.2.1,u13.1,u13.2.1,u14.1,u14.2.1,u14.2.2.1,())].length≤4294967296)) <|
 .leaf (.inl ((i64.wrap (x15.1-(1:Int))),x15.2.1,r16.2.2.1,r16.2.2.2.1,u2.1,u2.2.1,u3.1,(u3.2.1++[(u4.1,u4.2.1,r16.1.1,u5.1,u5.2.1,u6.1,u6.2.1,u7.1,u7.2.1,u8.1,u8.2.1,u9.1,u9.2.1,u10.1,u10.2.1,u11.1,u11.2.1,u12.1,u12.2.1,u13.1,u13.2.1,u14.1,u14.2.1,u14.2.2.1,())]),u4.1,u4.2.1,r16.1.1,u5.1,u5.2.1,u6.1,u6.2.1,u7.1,u7.2.1,u8.1,u8.2.1,u9.1,u9.2.1,u10.1,u10.2.1,u11.1,u11.2.1,u12.1,u12.2.1,u13.1,u13.2.1,u14.1,u14.2.1,u14.2.2.1,()))) (
 .leaf (.inr (x15.2.1,u1.1,u1.2.1,u2.1,u2.2.1,u3.1,u3.2.1,())))
def Vb (a0:Aq):Tree (Bp×Aq):=
 .ob (S2 a0) fun r1=>
 .ob (A7 (a0.1,r1.2.2.1,r1.2.2.2.1,()) ((12:Int),())) fun r2=>letI u1:=r2.2.2;
 .br (r2.1.1==(0:Int)) (
 .ob (Bf (a0.1,u1.1,u1.2.1,()) ([((0:Int),()),((1:Int),()),((7:Int),())],())) fun r3=>
 .leaf ((r3.1.1,r1.1.2.1,()),(a0.1,r3.2.2.1,r3.2.2.2.1,()))) (
 .br (r2.1.1==(1:Int)) (
 .ob (Ahk (a0.1,u1.1,u1.2.1,())) fun r4=>
 .chk (decide (r1.1.2.1.length+[r4.1].length≤4294967296)) <|
 .leaf ((r1.1.1,(r1.1.2.1++[r4.1]),()),(a0.1,r4.2.2.1,r4.2.2.2.1,()))) (
 .br (r2.1.1==(2:Int)) (
 .br (decide ((r1.1.2.1.length:Int)>(1:Int))) (
 .ob (idx r1.1.2.1 (0:Int)) fun e5=>
 .ob (idx r1.1.2.1 (1:Int)) fun e6=>letI u2:=e6.2.2.2;letI u3:=u2.2.2.2;letI u4:=u3.2.2.2;letI u5:=u4.2.2.2;letI u6:=u5.2.2.2;letI u7:=u6.2.2.2.2;
 let q7:=(r1.1.2.1.set ((1:Int)).toNat (e6.1,e6.2.1,e5.2.2.1,u2.1,u2.2.1,u2.2.2.1,u3.1,u3.2.1,u3.2.2.1,u4.1,u4.2.1,u4.2.2.1,u5.1,u5.2.1,u5.2.2.1,u6.1,u6.2.1,u6.2.2.1,u6.2.2.2.1,u7.1,u7.2.1,u7.2.2.1,u7.2.2.2.1,u7.2.2.2.2.1,()))
 .leaf ((r1.1.1,q7,()),(a0.1,u1.1,u1.2.1,()))) (
 .leaf (r1.1,(a0.1,u1.1,u1.2.1,())))) (
 .br (r2.1.1==(3:Int)) (
 .ob (Ku (a0.1,u1.1,u1.2.1,())) fun r8=>
 .ob (I7 r8.1) fun r9=>letI u8:=r9.2.2.2;letI u9:=u8.2.2.2;letI u10:=u9.2.2.2;letI u11:=u10.2.2.2;letI u12:=u11.2.2.2;letI u13:=u12.2.2.2.2;
 .ob (Bf (a0.1,r8.2.2.1,r8.2.2.2.1,()) ([((9:Int),()),((12:Int),()),((13:Int),())],())) fun r10=>
 .ob (As Oh (r10.1.1,a0.1,r10.2.2.1,r10.2.2.2.1,(0:Int),([]:List Ad),r1.1.1,r1.1.2.1,r9.1,r9.2.1,r9.2.2.1,u8.1,u8.2.1,u8.2.2.1,u9.1,u9.2.1,u9.2.2.1,u10.1,u10.2.1,u10.2.2.1,u11.1,u11.2.1,u11.2.2.1,u12.1,u12.2.1,u12.2.2.1,u12.2.2.2.1,u13.1,u13.2.1,u13.2.2.1,u13.2.2.2.1,u13.2.2.2.2.1,())) fun o17=>
 .leaf ((o17.2.2.2.2.2.1,o17.2.2.2.2.2.2.1,()),(o17.1,o17.2.1,o17.2.2.1,()))) (
 .leaf (r1.1,(a0.1,u1.1,u1.2.1,()))))))
def Ahl (a0:Aq):Option (Bp×Aq):=(Vb a0).val
def Af3 (a0:Aq):Tree (((List Ak)×Unit)×Aq):=
 .ob (S3 a0 ((14:Int),())) fun r1=>
 .br ((r1.1.1.length:Int)==(0:Int)) (
 .leaf (r1.1,(a0.1,r1.2.2.1,r1.2.2.2.1,()))) (
 .ob (A7 (a0.1,r1.2.2.1,r1.2.2.2.1,()) ((r1.1.1.length:Int),())) fun r2=>
 .ob (A7 (a0.1,r2.2.2.1,r2.2.2.2.1,()) ((10:Int),())) fun r3=>letI u1:=r3.2.2;
 .br (r3.1.1==(0:Int)) (
 .ob (Tt (a0.1,u1.1,u1.2.1,())) fun r4=>
 .ob (idx r1.1.1 r2.1.1) fun e5=>
 let q6:=(r1.1.1.set (r2.1.1).toNat (r4.1.1,r4.1.2.1,e5.2.2.1,e5.2.2.2.1,()))
 .leaf ((q6,()),(a0.1,r4.2.2.1,r4.2.2.2.1,()))) (
 .br (r3.1.1==(1:Int)) (
 .ob (Bf (a0.1,u1.1,u1.2.1,()) ([((-1:Int),()),((0:Int),()),((1000001:Int),())],())) fun r7=>
 .ob (idx r1.1.1 r2.1.1) fun e8=>
 let q9:=(r1.1.1.set (r2.1.1).toNat (e8.1,e8.2.1,r7.1.1,e8.2.2.2.1,()))
 .leaf ((q9,()),(a0.1,r7.2.2.1,r7.2.2.2.1,()))) (
 .br (r3.1.1==(2:Int)) (
 .ob (idx r1.1.1 r2.1.1) fun e10=>
 .ob (Bf (a0.1,u1.1,u1.2.1,()) ([((-1:Int),()),((0:Int),()),((i64.wrap ((i64.wrap ((3:Int)*e10.2.2.1))+(1:Int))),())],())) fun r11=>
 .ob (idx r1.1.1 r2.1.1) fun e12=>
 let q13:=(r1.1.1.set (r2.1.1).toNat (e12.1,e12.2.1,e12.2.2.1,r11.1.1,()))
 .leaf ((q13,()),(a0.1,r11.2.2.1,r11.2.2.2.1,()))) (
 .br (r3.1.1==(3:Int)) (
 .ob (idx r1.1.1 r2.1.1) fun e14=>
 .chk (decide (r1.1.1.length+[e14].length≤4294967296)) <|
 .leaf (((r1.1.1++[e14]),()),(a0.1,u1.1,u1.2.1,()))) (
 .leaf (r1.1,(a0.1,u1.1,u1.2.1,())))))))
def Ahm (a0:Aq):Option (((List Ak)×Unit)×Aq):=(Af3 a0).val
def Af4 (a0:Aq):Tree (Az×Aq):=
 .ob (Ac1 a0) fun r1=>letI u1:=r1.1.2.2;letI u2:=u1.2.2;letI u3:=u2.2.2;
 .ob (A7 (a0.1,r1.2.2.1,r1.2.2.2.1,()) ((16:Int),())) fun r2=>letI u4:=r2.2.2;
 .br (r2.1.1==(0:Int)) (
 .ob (Ahf (a0.1,u4.1,u4.2.1,()) ([(([]:List YB),()),([((1:Int),())],())],()) (r1.1.1,())) fun r3=>
 .leaf ((r3.1.1,r1.1.2.1,u1.1,u1.2.1,u2.1,u2.2.1,u3.1,()),(a0.1,r3.2.2.1,r3.2.2.2.1,()))) (
 .br (r2.1.1==(1:Int)) (
 .ob (Ahg (a0.1,u4.1,u4.2.1,())) fun r4=>
 .leaf ((r1.1.1,r4.1.1,u1.1,u1.2.1,u2.1,u2.2.1,u3.1,()),(a0.1,r4.2.2.1,r4.2.2.2.1,()))) (
 .br (r2.1.1==(2:Int)) (
 .ob (Bf (a0.1,u4.1,u4.2.1,()) ([((-1:Int),()),((9999:Int),()),((10000:Int),()),((10001:Int),())],())) fun r5=>
 .leaf ((r1.1.1,r1.1.2.1,u1.1,r5.1.1,u2.1,u2.2.1,u3.1,()),(a0.1,r5.2.2.1,r5.2.2.2.1,()))) (
 .br (r2.1.1==(3:Int)) (
 .ob (Ahl (a0.1,u4.1,u4.2.1,())) fun r6=>
 .leaf ((r1.1.1,r1.1.2.1,u1.1,u1.2.1,r6.1.1,r6.1.2.1,u3.1,()),(a0.1,r6.2.2.1,r6.2.2.2.1,()))) (
 .br (r2.1.1==(4:Int)) (
 .ob (Ahm (a0.1,u4.1,u4.2.1,())) fun r7=>
 .leaf ((r1.1.1,r1.1.2.1,u1.1,u1.2.1,u2.1,u2.2.1,r7.1.1,()),(a0.1,r7.2.2.1,r7.2.2.2.1,()))) (
 .br (r2.1.1==(5:Int)) (
 .chk (decide (r1.1.1.length+[(([]:List YB),())].length≤4294967296)) <|
 .leaf (((r1.1.1++[(([]:List YB),())]),r1.1.2.1,u1.1,u1.2.1,u2.1,u2.2.1,u3.1,()),(a0.1,u4.1,u4.2.1,()))) (
 .br (r2.1.1==(6:Int)) (
 .ob (Ku (a0.1,u4.1,u4.2.1,())) fun r8=>
 .ob (I7 r8.1) fun r9=>
 .chk (decide (r1.1.2.2.2.2.2.1.length+[r9].length≤4294967296)) <|
 .leaf ((r1.1.1,r1.1.2.1,u1.1,u1.2.1,u2.1,(u2.2.1++[r9]),u3.1,()),(a0.1,r8.2.2.1,r8.2.2.2.1,()))) (
 .leaf (r1.1,(a0.1,u4.1,u4.2.1,())))))))))
def Qe (a0:Aq):Option (Az×Aq):=(Af4 a0).val
def Wn (a0:YBs):Tree (Az):=
 .ob (Tq a0) fun r1=>
 .ob (Qe r1) fun r2=>
 .leaf r2.1
def Xm (a0:YBs):Option (Az):=(Wn a0).val
def Alb (a0:YBs):Tree (YBs):=
 .chk (decide (([]:List YB).length+a0.1.length≤4294967296)) <|
 .leaf ((([]:List YB)++a0.1),())
def Br (a0:YBs):Option (YBs):=(Alb a0).val
def Hj (x1:(List YBs)×(List YBs)×Int×Int×Unit):Option (((List YBs)×(List YBs)×Int×Int×Unit)⊕(((List YBs)×Unit))):=
 letI u1:=x1.2.2;Tree.val (α:=((List YBs)×(List YBs)×Int×Int×Unit)⊕(((List YBs)×Unit))) <|
 .br (decide (u1.2.1<u1.1)) (
 .ob (idx x1.2.1 u1.2.1) fun e2=>
 .ob (Br e2) fun r3=>
 .chk (decide (x1.1.length+[r3].length≤4294967296)) <|
 .leaf (.inl ((x1.1++[r3]),x1.2.1,u1.1,(i64.wrap (u1.2.1+(1:Int))),()))) (
 .leaf (.inr (x1.1,())))
def Wo (a0:(List YBs)×Unit):Tree (((List YBs)×Unit)):=
 .ob (As Hj (([]:List YBs),a0.1,(a0.1.length:Int),(0:Int),())) fun o4=>
 .leaf o4
def Xn (a0:(List YBs)×Unit):Option (((List YBs)×Unit)):=(Wo a0).val
def Ab9 (a0:Cj):Tree (Cj):=
 .chk (decide (([]:List YI).length+a0.2.1.length≤4294967296)) <|
 .leaf (a0.1,(([]:List YI)++a0.2.1),())
def Ac2 (a0:Cj):Option (Cj):=(Ab9 a0).val
def Af6 (a0:YEp):Tree (YEp):=
 .ob (Br (a0.2.1,())) fun r1=>
 .ob (Ac2 (a0.2.2.2.1,a0.2.2.2.2.1,())) fun r2=>
 .leaf (a0.1,r1.1,a0.2.2.1,r2.1,r2.2.1,())
def Qf (a0:YEp):Option (YEp):=(Af6 a0).val
def Wp (a0:Bt):Tree (Bt):=
 letI u1:=a0.2.2.2;letI u2:=u1.2.2.2;letI u3:=u2.2.2.2.2;.ob (Br (a0.2.1,())) fun r1=>
 .ob (Br (u3.2.2.2.2.1,())) fun r2=>
 .ob (Qf (a0.2.2.1,u1.1,u1.2.1,u1.2.2.1,u2.1,())) fun r3=>
 .ob (Qf (u2.2.1,u2.2.2.1,u2.2.2.2.1,u3.1,u3.2.1,())) fun r4=>
 .leaf (a0.1,r1.1,r3.1,r3.2.1,r3.2.2.1,r3.2.2.2.1,r3.2.2.2.2.1,r4.1,r4.2.1,r4.2.2.1,r4.2.2.2.1,r4.2.2.2.2.1,u3.2.2.1,u3.2.2.2.1,r2.1,())
def Lz (a0:Bt):Option (Bt):=(Wp a0).val
def Gm (x1:(List Ap)×Int×Int×Int×Int×(List Ap)×Int×Int×(List Ap)×Unit):Option (((List Ap)×Int×Int×Int×Int×(List Ap)×Int×Int×(List Ap)×Unit)⊕((Int×Int×(List Ap)×Int×Int×(List Ap)×Unit))):=
 letI u1:=x1.2.2;letI u2:=u1.2.2;letI u3:=u2.2.2;Tree.val (α:=((List Ap)×Int×Int×Int×Int×(List Ap)×Int×Int×(List Ap)×Unit)⊕((Int×Int×(List Ap)×Int×Int×(List Ap)×Unit))) <|
 .br (decide (u1.1<x1.2.1)) (
 .ob (idx x1.1 u1.1) fun e2=>
 .ob (Br (e2.2.2.1,())) fun r3=>
 .chk (decide (x1.2.2.2.2.2.2.2.2.1.length+[(e2.1,e2.2.1,r3.1,e2.2.2.2.1,())].length≤4294967296)) <|
 .leaf (.inl (x1.1,x1.2.1,(i64.wrap (u1.1+(1:Int))),u1.2.1,u2.1,u2.2.1,u3.1,u3.2.1,(u3.2.2.1++[(e2.1,e2.2.1,r3.1,e2.2.2.2.1,())]),()))) (
 .leaf (.inr (u1.2.1,u2.1,u2.2.1,u3.1,u3.2.1,u3.2.2.1,())))
def Uj (a0:Bb):Tree (Bb):=
 .ob (As Gm (a0.2.2.1,(a0.2.2.1.length:Int),(0:Int),(0:Int),(0:Int),([]:List Ap),a0.1,a0.2.1,([]:List Ap),())) fun o4=>
 .leaf (o4.2.2.2.1,o4.2.2.2.2.1,o4.2.2.2.2.2.1,())
def Dk (a0:Bb):Option (Bb):=(Uj a0).val
def Wq (a0:Ad):Tree (Ad):=
 letI u1:=a0.2.2.2;letI u2:=u1.2.2.2;letI u3:=u2.2.2.2;letI u4:=u3.2.2.2;letI u5:=u4.2.2.2;letI u6:=u5.2.2.2.2;.ob (Br (a0.2.1,())) fun r1=>
 .ob (Br (a0.2.2.1,())) fun r2=>
 .ob (Lz (u1.1,u1.2.1,u1.2.2.1,u2.1,u2.2.1,u2.2.2.1,u3.1,u3.2.1,u3.2.2.1,u4.1,u4.2.1,u4.2.2.1,u5.1,u5.2.1,u5.2.2.1,())) fun r3=>letI u7:=r3.2.2.2;letI u8:=u7.2.2.2;letI u9:=u8.2.2.2.2;
 .ob (Dk (u5.2.2.2.1,u6.1,u6.2.1,())) fun r4=>
 .leaf (a0.1,r1.1,r2.1,r3.1,r3.2.1,r3.2.2.1,u7.1,u7.2.1,u7.2.2.1,u8.1,u8.2.1,u8.2.2.1,u8.2.2.2.1,u9.1,u9.2.1,u9.2.2.1,u9.2.2.2.1,u9.2.2.2.2.1,r4.1,r4.2.1,r4.2.2.1,u6.2.2.1,u6.2.2.2.1,u6.2.2.2.2.1,())
def Gd (a0:Ad):Option (Ad):=(Wq a0).val
def H7 (x1:(List Ad)×Int×Int×Int×(List Ad)×Int×(List Ad)×Unit):Option (((List Ad)×Int×Int×Int×(List Ad)×Int×(List Ad)×Unit)⊕((Int×(List Ad)×Int×(List Ad)×Unit))):=
 letI u1:=x1.2.2;letI u2:=u1.2.2;Tree.val (α:=((List Ad)×Int×Int×Int×(List Ad)×Int×(List Ad)×Unit)⊕((Int×(List Ad)×Int×(List Ad)×Unit))) <|
 .br (decide (u1.1<x1.2.1)) (
 .ob (idx x1.1 u1.1) fun e2=>
 .ob (Gd e2) fun r3=>
 .chk (decide (x1.2.2.2.2.2.2.1.length+[r3].length≤4294967296)) <|
 .leaf (.inl (x1.1,x1.2.1,(i64.wrap (u1.1+(1:Int))),u1.2.1,u2.1,u2.2.1,(u2.2.2.1++[r3]),()))) (
 .leaf (.inr (u1.2.1,u2.1,u2.2.1,u2.2.2.1,())))
def Aca (a0:Bp):Tree (Bp):=
 .ob (As H7 (a0.2.1,(a0.2.1.length:Int),(0:Int),(0:Int),([]:List Ad),a0.1,([]:List Ad),())) fun o4=>
 .leaf (o4.2.2.1,o4.2.2.2.1,())
def He (a0:Bp):Option (Bp):=(Aca a0).val
def Pv (a0:(List Ak)×Unit):Tree (((List Ak)×Unit)):=
 .chk (decide (([]:List Ak).length+a0.1.length≤4294967296)) <|
 .leaf ((([]:List Ak)++a0.1),())
def Qg (a0:(List Ak)×Unit):Option (((List Ak)×Unit)):=(Pv a0).val
def Rk (a0:Az):Tree (Az):=
 letI u1:=a0.2.2.2;.ob (Xn (a0.1,())) fun r1=>
 .ob (Br (a0.2.1,())) fun r2=>
 .ob (Br (a0.2.2.1,())) fun r3=>
 .ob (He (u1.2.1,u1.2.2.1,())) fun r4=>
 .ob (Qg (u1.2.2.2.1,())) fun r5=>
 .leaf (r1.1,r2.1,r3.1,u1.1,r4.1,r4.2.1,r5.1,())
def Ho (a0:Az):Option (Az):=(Rk a0).val
def Af7 (a0:YI) (a1:YI) (a2:YI):Tree ((Bool×Unit)):=
 .br (decide (a0.1≥a1.1)) (
 .leaf ((decide (a0.1≤a2.1)),())) (
 .leaf (false,()))
def A0 (a0:YI) (a1:YI) (a2:YI):Option ((Bool×Unit)):=(Af7 a0 a1 a2).val
def Axn (a0:YBs):Tree ((Bool×Unit)):=
 .leaf (((a0.1.length:Int)==(32:Int)),())
def Aaj (a0:YBs):Option ((Bool×Unit)):=(Axn a0).val
def Aga (a0:Eh):Tree ((Bool×Unit)):=
 .ob (A0 ((a0.1.length:Int),()) ((1:Int),()) ((32:Int),())) fun r1=>
 .br r1.1 (
 .ob (A0 (a0.2.1,()) ((0:Int),()) ((10000:Int),())) fun r2=>
 .leaf r2) (
 .leaf (false,()))
def Vm (a0:Eh):Option ((Bool×Unit)):=(Aga a0).val
def G3 (x1:Int×(List Ad)×Int×Int×Unit):Option ((Int×(List Ad)×Int×Int×Unit)⊕(YI)):=
 letI u1:=x1.2.2;Tree.val (α:=(Int×(List Ad)×Int×Int×Unit)⊕(YI)) <|
 .br (decide (u1.2.1<u1.1)) (
 .ob (idx x1.2.1 u1.2.1) fun e2=>
 .br (!e2.2.2.2.2.2.2.2.2.2.2.2.2.2.2.2.2.2.2.2.2.2.2.2.1) (
 .leaf (.inl ((i64.wrap (x1.1+(1:Int))),x1.2.1,u1.1,(i64.wrap (u1.2.1+(1:Int))),()))) (
 .leaf (.inl (x1.1,x1.2.1,u1.1,(i64.wrap (u1.2.1+(1:Int))),())))) (
 .leaf (.inr (x1.1,())))
def Agb (a0:Bp):Tree (YI):=
 .ob (As G3 ((0:Int),a0.2.1,(a0.2.1.length:Int),(0:Int),())) fun o3=>
 .leaf o3
def Ea (a0:Bp):Option (YI):=(Agb a0).val
def Ao2 (a0:YBs):Tree ((Bool×Unit)):=
 .leaf (((a0.1.length:Int)==(12:Int)),())
def Di (a0:YBs):Option ((Bool×Unit)):=(Ao2 a0).val
def Ajd (a0:YBs) (a1:YBs):Tree ((Bool×Unit)):=
 .leaf ((decide ((Ov a0.1)=(Ov a1.1))),())
def Dc (a0:YBs) (a1:YBs):Option ((Bool×Unit)):=(Ajd a0 a1).val
def Ad0 (x1:(List YI)×(List YI)×Int×Int×Unit):Option (((List YI)×(List YI)×Int×Int×Unit)⊕((Bool×Unit)⊕(Unit))):=
 letI u1:=x1.2.2;Tree.val (α:=((List YI)×(List YI)×Int×Int×Unit)⊕((Bool×Unit)⊕(Unit))) <|
 .br (decide (u1.2.1<u1.1)) (
 .ob (idx x1.2.1 u1.2.1) fun e2=>
 .ob (idx x1.1 u1.2.1) fun e3=>
 .br (e2.1 != e3.1) (
 .leaf (.inr (.inl (false,())))) (
 .leaf (.inl (x1.1,x1.2.1,u1.1,(i64.wrap (u1.2.1+(1:Int))),())))) (
 .leaf (.inr (.inr ())))
def Ws (a0:(List YI)×Unit) (a1:(List YI)×Unit):Tree ((Bool×Unit)):=
 .br ((a0.1.length:Int) != (a1.1.length:Int)) (
 .leaf (false,())) (
 .ob (As Ad0 (a1.1,a0.1,(a0.1.length:Int),(0:Int),())) fun o4=>
 .sm o4 (fun o5=>
 .leaf o5) (fun o6=>
 .leaf (true,())))
def Xo (a0:(List YI)×Unit) (a1:(List YI)×Unit):Option ((Bool×Unit)):=(Ws a0 a1).val
def Agd (a0:YEp) (a1:YEp):Tree ((Bool×Unit)):=
 .br (a0.1==a1.1) (
 .ob (Dc (a0.2.1,()) (a1.2.1,())) fun r1=>
 .br r1.1 (
 .br (a0.2.2.1==a1.2.2.1) (
 .br (a0.2.2.2.1==a1.2.2.2.1) (
 .ob (Xo (a0.2.2.2.2.1,()) (a1.2.2.2.2.1,())) fun r2=>
 .leaf r2) (
 .leaf (false,()))) (
 .leaf (false,()))) (
 .leaf (false,()))) (
 .leaf (false,()))
def Qh (a0:YEp) (a1:YEp):Option ((Bool×Unit)):=(Agd a0 a1).val
def Rl (a0:Bt):Tree ((Bool×Unit)):=
 letI u1:=a0.2.2.2;letI u2:=u1.2.2.2;letI u3:=u2.2.2.2;.br (a0.1==(0:Int)) (
 .br ((a0.2.1.length:Int)==(0:Int)) (
 .ob (Qh (a0.2.2.1,u1.1,u1.2.1,u1.2.2.1,u2.1,()) ((0:Int),([]:List YB),(0:Int),(0:Int),([]:List YI),())) fun r1=>
 .br r1.1 (
 .ob (Qh (u2.2.1,u2.2.2.1,u3.1,u3.2.1,u3.2.2.1,()) ((0:Int),([]:List YB),(0:Int),(0:Int),([]:List YI),())) fun r2=>
 .br r2.1 (
 .br (!u3.2.2.2.1) (
 .br (u3.2.2.2.2.1==(0:Int)) (
 .leaf (((a0.2.2.2.2.2.2.2.2.2.2.2.2.2.2.1.length:Int)==(0:Int)),())) (
 .leaf (false,()))) (
 .leaf (false,()))) (
 .leaf (false,()))) (
 .leaf (false,()))) (
 .leaf (false,()))) (
 .leaf (false,()))
def Rq (a0:Bt):Option ((Bool×Unit)):=(Rl a0).val
def Age (a0:YI):Tree ((Bool×Unit)):=
 .br (a0.1==(0:Int)) (
 .leaf (true,())) (
 .leaf ((a0.1==(1:Int)),()))
def Mz (a0:YI):Option ((Bool×Unit)):=(Age a0).val
def Jf (x1:(List YI)×Int×(List YI)×Int×Int×Unit):Option (((List YI)×Int×(List YI)×Int×Int×Unit)⊕((Bool×Unit)⊕((List YI)×Int×Unit))):=
 letI u1:=x1.2.2;Tree.val (α:=((List YI)×Int×(List YI)×Int×Int×Unit)⊕((Bool×Unit)⊕((List YI)×Int×Unit))) <|
 .br (decide (u1.2.2.1<u1.2.1)) (
 .ob (idx u1.1 u1.2.2.1) fun e2=>
 .ob (A0 e2 ((0:Int),()) ((4294967295:Int),())) fun r3=>
 .br (!r3.1) (
 .leaf (.inr (.inl (false,())))) (
 .leaf (.inl (x1.1,x1.2.1,u1.1,u1.2.1,(i64.wrap (u1.2.2.1+(1:Int))),())))) (
 .leaf (.inr (.inr (x1.1,x1.2.1,()))))
def Wt (a0:(List YI)×Unit) (a1:YI):Tree ((Bool×Unit)):=
 .ob (As Jf (a0.1,a1.1,a0.1,(a0.1.length:Int),(0:Int),())) fun o4=>
 .sm o4 (fun o5=>
 .leaf o5) (fun o6=>
 .leaf (((o6.1.length:Int)==o6.2.1),()))
def L0 (a0:(List YI)×Unit) (a1:YI):Option ((Bool×Unit)):=(Wt a0 a1).val
def Agf (a0:Cj) (a1:YI):Tree ((Bool×Unit)):=
 .chk (decide ((0:Int)≤a1.1)) <|
 .chk (decide ((0:Int)≤(a1.1%(1024:Int)))) <|
 .ob (idx a0.2.1 ((a1.1%(1024:Int))/(32:Int))) fun e1=>
 .chk (decide ((0:Int)≤a1.1)) <|
 .chk (decide ((0:Int)≤(a1.1%(32:Int)))) <|
 .leaf (((i64.wrap ((BitVec.ofInt (i64.bits) ((Int.fdiv e1.1 (2^(min ((a1.1%(32:Int))).toNat i64.bits)))) &&& BitVec.ofInt (i64.bits) ((1:Int))).toNat:Nat))==(1:Int)),())
def Vn (a0:Cj) (a1:YI):Option ((Bool×Unit)):=(Agf a0 a1).val
def Ks (x3:Int×Int×(List YI)×Unit):Option ((Int×Int×(List YI)×Unit)⊕((Bool×Unit)⊕Cj)):=
 Tree.val (α:=(Int×Int×(List YI)×Unit)⊕((Bool×Unit)⊕Cj)) <|
 .br (decide (x3.1<(1024:Int))) (
 .ob (Vn (x3.2.1,x3.2.2.1,()) (x3.1,())) fun r4=>
 .br r4.1 (
 .leaf (.inr (.inl (false,())))) (
 .leaf (.inl ((i64.wrap (x3.1+(1:Int))),x3.2.1,x3.2.2.1,())))) (
 .leaf (.inr (.inr (x3.2.1,x3.2.2.1,()))))
def Ale (a0:Cj):Tree ((Bool×Unit)):=
 .ob (A0 (a0.1,()) ((-1:Int),()) ((281474976710655:Int),())) fun r1=>
 .br (!r1.1) (
 .leaf (false,())) (
 .ob (L0 (a0.2.1,()) ((32:Int),())) fun r2=>
 .br (!r2.1) (
 .leaf (false,())) (
 .ob (As Ks ((i64.wrap (a0.1+(1:Int))),a0.1,a0.2.1,())) fun o5=>
 .sm o5 (fun o6=>
 .leaf o6) (fun o7=>
 .br (o7.1==(-1:Int)) (
 .leaf (true,())) (
 .ob (Vn o7 (o7.1,())) fun r8=>
 .leaf r8))))
def Amh (a0:Cj):Option ((Bool×Unit)):=(Ale a0).val
def Aqn (a0:YEp):Tree ((Bool×Unit)):=
 .ob (A0 (a0.1,()) ((0:Int),()) ((4294967295:Int),())) fun r1=>
 .br r1.1 (
 .br ((a0.2.1.length:Int)==(32:Int)) (
 .ob (A0 (a0.2.2.1,()) ((0:Int),()) ((281474976710656:Int),())) fun r2=>
 .br r2.1 (
 .ob (Amh (a0.2.2.2.1,a0.2.2.2.2.1,())) fun r3=>
 .leaf r3) (
 .leaf (false,()))) (
 .leaf (false,()))) (
 .leaf (false,()))
def Xp (a0:YEp):Option ((Bool×Unit)):=(Aqn a0).val
def Alg (a0:Bt):Tree ((Bool×Unit)):=
 letI u1:=a0.2.2.2.2.2.2.2;letI u2:=u1.2.2;letI u3:=u2.2.2;.br (!u3.2.1) (
 .ob (Qh (u1.1,u1.2.1,u2.1,u2.2.1,u3.1,()) ((0:Int),([]:List YB),(0:Int),(0:Int),([]:List YI),())) fun r1=>
 .br r1.1 (
 .leaf ((u3.2.2.1==(0:Int)),())) (
 .leaf (false,()))) (
 .ob (Xp (u1.1,u1.2.1,u2.1,u2.2.1,u3.1,())) fun r2=>
 .br (!r2.1) (
 .leaf (false,())) (
 .br (u1.1 != (i64.wrap (a0.2.2.1-(1:Int)))) (
 .leaf (false,())) (
 .ob (A0 (u3.2.2.1,()) ((0:Int),()) ((1000005:Int),())) fun r3=>
 .br r3.1 (
 .leaf (true,())) (
 .br (u3.2.2.1==(-1:Int)) (
 .leaf ((a0.1==(1:Int)),())) (
 .leaf (false,()))))))
def Ami (a0:Bt):Option ((Bool×Unit)):=(Alg a0).val
def Agh (a0:Bt):Tree ((Bool×Unit)):=
 letI u1:=a0.2.2;.ob (Mz (a0.1,())) fun r1=>
 .br (!r1.1) (
 .leaf (false,())) (
 .ob (Di (a0.2.1,())) fun r2=>
 .br (!r2.1) (
 .leaf (false,())) (
 .ob (Xp (u1.1,u1.2.1,u1.2.2.1,u1.2.2.2.1,u1.2.2.2.2.1,())) fun r3=>
 .br (!r3.1) (
 .leaf (false,())) (
 .ob (Ami a0) fun r4=>
 .br (!r4.1) (
 .leaf (false,())) (
 .br ((a0.2.2.2.2.2.2.2.2.2.2.2.2.2.2.1.length:Int)==(0:Int)) (
 .leaf (true,())) (
 .br (a0.1==(0:Int)) (
 .br ((a0.2.2.2.2.2.2.2.2.2.2.2.2.2.2.1.length:Int)==(32:Int)) (
 .leaf ((decide (u1.1<(4294967295:Int))),())) (
 .leaf (false,()))) (
 .leaf (false,())))))))
def Qi (a0:Bt):Option ((Bool×Unit)):=(Agh a0).val
def Agi (a0:Bi):Tree ((Bool×Unit)):=
 .ob (A0 (a0.1,()) ((0:Int),()) ((4294967295:Int),())) fun r1=>
 .br r1.1 (
 .ob (A0 (a0.2.1,()) ((0:Int),()) ((65535:Int),())) fun r2=>
 .leaf r2) (
 .leaf (false,()))
def F9 (a0:Bi):Option ((Bool×Unit)):=(Agi a0).val
def Gv (x7:(List Ap)×Int×Int×(List Ap)×Int×Int×Int×Int×(List Ap)×Int×Int×(List YB)×Int×Unit):Option (((List Ap)×Int×Int×(List Ap)×Int×Int×Int×Int×(List Ap)×Int×Int×(List YB)×Int×Unit)⊕((Bool×Unit)⊕((List Ap)×Int×Int×Int×Int×(List Ap)×Unit))):=
 letI u1:=x7.2.2;letI u2:=u1.2.2.2;letI u3:=u2.2.2;letI u4:=u3.2.2;Tree.val (α:=((List Ap)×Int×Int×(List Ap)×Int×Int×Int×Int×(List Ap)×Int×Int×(List YB)×Int×Unit)⊕((Bool×Unit)⊕((List Ap)×Int×Int×Int×Int×(List Ap)×Unit))) <|
 .br (decide (u2.1<u1.2.2.1)) (
 .ob (idx u1.2.1 u2.1) fun e8=>
 .br (and (e8.1==u4.1) (and (e8.2.1==u4.2.1) true)) (
 .leaf (.inr (.inl (false,())))) (
 .leaf (.inl (x7.1,x7.2.1,u1.1,u1.2.1,u1.2.2.1,(i64.wrap (u2.1+(1:Int))),u2.2.1,u3.1,u3.2.1,u4.1,u4.2.1,u4.2.2.1,u4.2.2.2.1,())))) (
 .leaf (.inr (.inr (x7.1,x7.2.1,u1.1,u2.2.1,u3.1,u3.2.1,()))))
def H9 (x2:(List Ap)×Int×Int×Int×Int×(List Ap)×Unit):Option (((List Ap)×Int×Int×Int×Int×(List Ap)×Unit)⊕((Bool×Unit)⊕(Unit))):=
 letI u1:=x2.2.2;Tree.val (α:=((List Ap)×Int×Int×Int×Int×(List Ap)×Unit)⊕((Bool×Unit)⊕(Unit))) <|
 .br (decide (u1.1<x2.2.1)) (
 .ob (idx x2.1 u1.1) fun e3=>
 .ob (F9 (e3.1,e3.2.1,())) fun r4=>
 .br (!r4.1) (
 .leaf (.inr (.inl (false,())))) (
 .br (and (e3.1==u1.2.1) (and (e3.2.1==u1.2.2.1) true)) (
 .leaf (.inr (.inl (false,())))) (
 .ob (Di (e3.2.2.1,())) fun r5=>
 .br (!r5.1) (
 .leaf (.inr (.inl (false,())))) (
 .ob (A0 (e3.2.2.2.1,()) ((0:Int),()) ((1000006:Int),())) fun r6=>
 .br (!r6.1) (
 .leaf (.inr (.inl (false,())))) (
 .chk (decide ((0:Int)≤u1.1)) <|
 .chk (decide (u1.1≤(x2.2.2.2.2.2.1.length:Int))) <|
 .ob (As Gv (x2.1,x2.2.1,u1.1,((x2.2.2.2.2.2.1.take (u1.1).toNat).drop ((0:Int)).toNat),(((x2.2.2.2.2.2.1.take (u1.1).toNat).drop ((0:Int)).toNat).length:Int),(0:Int),u1.2.1,u1.2.2.1,u1.2.2.2.1,e3.1,e3.2.1,e3.2.2.1,e3.2.2.2.1,())) fun o9=>
 .sm o9 (fun o10=>
 .leaf (.inr (.inl o10))) (fun o11=>
 .leaf (.inl (o11.1,o11.2.1,(i64.wrap (o11.2.2.1+(1:Int))),o11.2.2.2.1,o11.2.2.2.2.1,o11.2.2.2.2.2.1,())))))))) (
 .leaf (.inr (.inr ())))
def Sp (a0:Bb):Tree ((Bool×Unit)):=
 .ob (F9 (a0.1,a0.2.1,())) fun r1=>
 .br (!r1.1) (
 .leaf (false,())) (
 .br (decide ((a0.2.2.1.length:Int)>(3:Int))) (
 .leaf (false,())) (
 .ob (As H9 (a0.2.2.1,(a0.2.2.1.length:Int),(0:Int),a0.1,a0.2.1,a0.2.2.1,())) fun o12=>
 .sm o12 (fun o13=>
 .leaf o13) (fun o14=>
 .leaf (true,()))))
def Nz (a0:Bb):Option ((Bool×Unit)):=(Sp a0).val
def Agj (a0:Ad):Tree ((Bool×Unit)):=
 letI u1:=a0.2.2;letI u2:=u1.2.2;letI u3:=u2.2.2;letI u4:=u3.2.2;letI u5:=u4.2.2;letI u6:=u5.2.2;letI u7:=u6.2.2;letI u8:=u7.2.2;letI u9:=u8.2.2;letI u10:=u9.2.2.2;.ob (A0 (a0.1,()) ((1:Int),()) ((9:Int),())) fun r1=>
 .br (!r1.1) (
 .leaf (false,())) (
 .ob (Di (a0.2.1,())) fun r2=>
 .br (!r2.1) (
 .leaf (false,())) (
 .ob (Di (u1.1,())) fun r3=>
 .br (!r3.1) (
 .leaf (false,())) (
 .ob (A0 (u10.1,()) ((0:Int),()) ((1000000:Int),())) fun r4=>
 .br (!r4.1) (
 .leaf (false,())) (
 .br u10.2.2.1 (
 .ob (Rq (u1.2.1,u2.1,u2.2.1,u3.1,u3.2.1,u4.1,u4.2.1,u5.1,u5.2.1,u6.1,u6.2.1,u7.1,u7.2.1,u8.1,u8.2.1,())) fun r5=>
 .br r5.1 (
 .br (and (u9.1==(0:Int)) (and (u9.2.1==(0:Int)) true)) (
 .br ((a0.2.2.2.2.2.2.2.2.2.2.2.2.2.2.2.2.2.2.2.2.1.length:Int)==(0:Int)) (
 .leaf ((u10.2.1==(0:Int)),())) (
 .leaf (false,()))) (
 .leaf (false,()))) (
 .leaf (false,()))) (
 .ob (Qi (u1.2.1,u2.1,u2.2.1,u3.1,u3.2.1,u4.1,u4.2.1,u5.1,u5.2.1,u6.1,u6.2.1,u7.1,u7.2.1,u8.1,u8.2.1,())) fun r6=>
 .br r6.1 (
 .br (u1.2.1==(1:Int)) (
 .ob (Dc (u2.1,()) (u1.1,())) fun r7=>
 .br r7.1 (
 .ob (Nz (u9.1,u9.2.1,u9.2.2.1,())) fun r8=>
 .br r8.1 (
 .ob (A0 (u10.2.1,()) ((0:Int),()) ((1000000:Int),())) fun r9=>
 .leaf r9) (
 .leaf (false,()))) (
 .leaf (false,()))) (
 .leaf (false,()))) (
 .leaf (false,())))))))
def J5 (a0:Ad):Option ((Bool×Unit)):=(Agj a0).val
def Li (x1:(List YB)×(List Ad)×Int×Int×Unit):Option (((List YB)×(List Ad)×Int×Int×Unit)⊕(YI⊕(Unit))):=
 letI u1:=x1.2.2;Tree.val (α:=((List YB)×(List Ad)×Int×Int×Unit)⊕(YI⊕(Unit))) <|
 .br (decide (u1.2.1<u1.1)) (
 .ob (idx x1.2.1 u1.2.1) fun e2=>
 .ob (Dc (e2.2.2.1,()) (x1.1,())) fun r3=>
 .br r3.1 (
 .leaf (.inr (.inl (u1.2.1,())))) (
 .leaf (.inl (x1.1,x1.2.1,u1.1,(i64.wrap (u1.2.1+(1:Int))),())))) (
 .leaf (.inr (.inr ())))
def Agl (a0:Bp) (a1:YBs):Tree (YI):=
 .ob (As Li (a1.1,a0.2.1,(a0.2.1.length:Int),(0:Int),())) fun o4=>
 .sm o4 (fun o5=>
 .leaf o5) (fun o6=>
 .leaf ((-1:Int),()))
def Qj (a0:Bp) (a1:YBs):Option (YI):=(Agl a0 a1).val
def Nr (x3:(List Ad)×Int×Int×Int×(List Ad)×Unit):Option (((List Ad)×Int×Int×Int×(List Ad)×Unit)⊕((Bool×Unit)⊕(Unit))):=
 letI u1:=x3.2.2;Tree.val (α:=((List Ad)×Int×Int×Int×(List Ad)×Unit)⊕((Bool×Unit)⊕(Unit))) <|
 .br (decide (u1.1<x3.2.1)) (
 .ob (idx x3.1 u1.1) fun e4=>
 .ob (J5 e4) fun r5=>
 .br (!r5.1) (
 .leaf (.inr (.inl (false,())))) (
 .ob (Qj (u1.2.1,u1.2.2.1,()) (e4.2.2.1,())) fun r6=>
 .br (decide (r6.1<u1.1)) (
 .leaf (.inr (.inl (false,())))) (
 .leaf (.inl (x3.1,x3.2.1,(i64.wrap (u1.1+(1:Int))),u1.2.1,u1.2.2.1,()))))) (
 .leaf (.inr (.inr ())))
def Ali (a0:Bp):Tree ((Bool×Unit)):=
 .ob (A0 (a0.1,()) ((1:Int),()) ((6:Int),())) fun r1=>
 .br (!r1.1) (
 .leaf (false,())) (
 .br (decide ((a0.2.1.length:Int)>(12:Int))) (
 .leaf (false,())) (
 .ob (Ea a0) fun r2=>
 .br (decide (r2.1>a0.1)) (
 .leaf (false,())) (
 .ob (As Nr (a0.2.1,(a0.2.1.length:Int),(0:Int),a0.1,a0.2.1,())) fun o7=>
 .sm o7 (fun o8=>
 .leaf o8) (fun o9=>
 .leaf (true,())))))
def L3 (a0:Bp):Option ((Bool×Unit)):=(Ali a0).val
def Jg (x1:(List Ak)×Int×Int×Int×Int×Unit):Option (((List Ak)×Int×Int×Int×Int×Unit)⊕(YI⊕(Unit))):=
 letI u1:=x1.2.2;Tree.val (α:=((List Ak)×Int×Int×Int×Int×Unit)⊕(YI⊕(Unit))) <|
 .br (decide (u1.1<x1.2.1)) (
 .ob (idx x1.1 u1.1) fun e2=>
 .br (and (e2.1==u1.2.1) (and (e2.2.1==u1.2.2.1) true)) (
 .leaf (.inr (.inl (u1.1,())))) (
 .leaf (.inl (x1.1,x1.2.1,(i64.wrap (u1.1+(1:Int))),u1.2.1,u1.2.2.1,())))) (
 .leaf (.inr (.inr ())))
def Wu (a0:(List Ak)×Unit) (a1:Bi):Tree (YI):=
 .ob (As Jg (a0.1,(a0.1.length:Int),(0:Int),a1.1,a1.2.1,())) fun o3=>
 .sm o3 (fun o4=>
 .leaf o4) (fun o5=>
 .leaf ((-1:Int),()))
def Xq (a0:(List Ak)×Unit) (a1:Bi):Option (YI):=(Wu a0 a1).val
def Ip (x1:(List Ak)×(List Ak)×Int×Int×Unit):Option (((List Ak)×(List Ak)×Int×Int×Unit)⊕((Bool×Unit)⊕(Unit))):=
 letI u1:=x1.2.2;Tree.val (α:=((List Ak)×(List Ak)×Int×Int×Unit)⊕((Bool×Unit)⊕(Unit))) <|
 .br (decide (u1.2.1<u1.1)) (
 .ob (idx x1.2.1 u1.2.1) fun e2=>
 .ob (F9 (e2.1,e2.2.1,())) fun r3=>
 .br (!r3.1) (
 .leaf (.inr (.inl (false,())))) (
 .ob (A0 (e2.2.2.1,()) ((0:Int),()) ((1000000:Int),())) fun r4=>
 .br (!r4.1) (
 .leaf (.inr (.inl (false,())))) (
 .ob (A0 (e2.2.2.2.1,()) ((0:Int),()) ((i64.wrap ((3:Int)*e2.2.2.1)),())) fun r5=>
 .br (!r5.1) (
 .leaf (.inr (.inl (false,())))) (
 .ob (Xq (x1.1,()) (e2.1,e2.2.1,())) fun r6=>
 .br (decide (r6.1<u1.2.1)) (
 .leaf (.inr (.inl (false,())))) (
 .leaf (.inl (x1.1,x1.2.1,u1.1,(i64.wrap (u1.2.1+(1:Int))),()))))))) (
 .leaf (.inr (.inr ())))
def Ul (a0:(List Ak)×Unit):Tree ((Bool×Unit)):=
 .br (decide ((a0.1.length:Int)>(8:Int))) (
 .leaf (false,())) (
 .ob (As Ip (a0.1,a0.1,(a0.1.length:Int),(0:Int),())) fun o7=>
 .sm o7 (fun o8=>
 .leaf o8) (fun o9=>
 .leaf (true,())))
def Ux (a0:(List Ak)×Unit):Option ((Bool×Unit)):=(Ul a0).val
def Alk (a0:YBs):Tree ((Bool×Unit)):=
 .ob (A0 ((a0.1.length:Int),()) ((1:Int),()) ((32:Int),())) fun r1=>
 .leaf r1
def Amj (a0:YBs):Option ((Bool×Unit)):=(Alk a0).val
def Hk (x6:(List YBs)×Int×Int×(List YBs)×(List YB)×(List YB)×Int×Int×(List Ad)×(List Ak)×Unit):Option (((List YBs)×Int×Int×(List YBs)×(List YB)×(List YB)×Int×Int×(List Ad)×(List Ak)×Unit)⊕((Bool×Unit)⊕Az)):=
 letI u1:=x6.2.2;letI u2:=u1.2.2;letI u3:=u2.2.2.2;Tree.val (α:=((List YBs)×Int×Int×(List YBs)×(List YB)×(List YB)×Int×Int×(List Ad)×(List Ak)×Unit)⊕((Bool×Unit)⊕Az)) <|
 .br (decide (u1.1<x6.2.1)) (
 .ob (idx x6.1 u1.1) fun e7=>
 .ob (Amj e7) fun r8=>
 .br (!r8.1) (
 .leaf (.inr (.inl (false,())))) (
 .leaf (.inl (x6.1,x6.2.1,(i64.wrap (u1.1+(1:Int))),u1.2.1,u2.1,u2.2.1,u2.2.2.1,u3.1,u3.2.1,u3.2.2.1,())))) (
 .leaf (.inr (.inr (u1.2.1,u2.1,u2.2.1,u2.2.2.1,u3.1,u3.2.1,u3.2.2.1,()))))
def Gn (x12:(List Ad)×Int×Int×(List YBs)×(List YB)×(List YB)×Int×Int×(List Ad)×(List Ak)×Unit):Option (((List Ad)×Int×Int×(List YBs)×(List YB)×(List YB)×Int×Int×(List Ad)×(List Ak)×Unit)⊕((Bool×Unit)⊕(Unit))):=
 letI u1:=x12.2.2;letI u2:=u1.2.2.2;Tree.val (α:=((List Ad)×Int×Int×(List YBs)×(List YB)×(List YB)×Int×Int×(List Ad)×(List Ak)×Unit)⊕((Bool×Unit)⊕(Unit))) <|
 .br (decide (u1.1<x12.2.1)) (
 .ob (idx x12.1 u1.1) fun e13=>
 .br (decide (e13.1>(x12.2.2.2.1.length:Int))) (
 .leaf (.inr (.inl (false,())))) (
 .leaf (.inl (x12.1,x12.2.1,(i64.wrap (u1.1+(1:Int))),u1.2.1,u1.2.2.1,u2.1,u2.2.1,u2.2.2.1,u2.2.2.2.1,u2.2.2.2.2.1,())))) (
 .leaf (.inr (.inr ())))
def Pz (a0:Az):Tree ((Bool×Unit)):=
 letI u1:=a0.2.2;letI u2:=u1.2.2;.ob (A0 ((a0.1.length:Int),()) ((1:Int),()) ((9:Int),())) fun r1=>
 .br (!r1.1) (
 .leaf (false,())) (
 .ob (Aaj (a0.2.1,())) fun r2=>
 .br (!r2.1) (
 .leaf (false,())) (
 .ob (Vm (u1.1,u1.2.1,())) fun r3=>
 .br (!r3.1) (
 .leaf (false,())) (
 .ob (L3 (u2.1,u2.2.1,())) fun r4=>
 .br (!r4.1) (
 .leaf (false,())) (
 .ob (Ux (u2.2.2.1,())) fun r5=>
 .br (!r5.1) (
 .leaf (false,())) (
 .ob (As Hk (a0.1,(a0.1.length:Int),(0:Int),a0.1,a0.2.1,u1.1,u1.2.1,u2.1,u2.2.1,u2.2.2.1,())) fun o9=>
 .sm o9 (fun o10=>
 .leaf o10) (fun o11=>letI u3:=o11.2.2.2;
 .ob (As Gn (u3.2.2.1,(o11.2.2.2.2.2.1.length:Int),(0:Int),o11.1,o11.2.1,o11.2.2.1,u3.1,u3.2.1,u3.2.2.1,u3.2.2.2.1,())) fun o14=>
 .sm o14 (fun o15=>
 .leaf o15) (fun o16=>
 .leaf (true,()))))))))
def Eb (a0:Az):Option ((Bool×Unit)):=(Pz a0).val
def As8 (x1:Int×(List YB)×Int×Unit):Option ((Int×(List YB)×Int×Unit)⊕(YBs)):=
 letI u1:=x1.2.2;Tree.val (α:=(Int×(List YB)×Int×Unit)⊕(YBs)) <|
 .br (decide (u1.1≥(0:Int))) (
 .chk (decide ((0:Int)≤(i64.wrap ((8:Int)*u1.1)))) <|
 .chk (decide (x1.2.1.length+[((u8.wrap ((i64.wrap ((BitVec.ofInt (i64.bits) ((Int.fdiv x1.1 (2^(min ((i64.wrap ((8:Int)*u1.1))).toNat i64.bits)))) &&& BitVec.ofInt (i64.bits) ((255:Int))).toNat:Nat)))),())].length≤4294967296)) <|
 .leaf (.inl (x1.1,(x1.2.1++[((u8.wrap ((i64.wrap ((BitVec.ofInt (i64.bits) ((Int.fdiv x1.1 (2^(min ((i64.wrap ((8:Int)*u1.1))).toNat i64.bits)))) &&& BitVec.ofInt (i64.bits) ((255:Int))).toNat:Nat)))),())]),(i64.wrap (u1.1-(1:Int))),()))) (
 .leaf (.inr (x1.2.1,())))
def A02 (a0:YBs) (a1:YI) (a2:YI):Tree (YBs):=
 .chk (decide (([]:List YB).length+a0.1.length≤4294967296)) <|
 .br (decide (a2.1<(1:Int))) (
 .leaf ((([]:List YB)++a0.1),())) (
 .br (decide (a2.1>(6:Int))) (
 .leaf ((([]:List YB)++a0.1),())) (
 .ob (As As8 (a1.1,(([]:List YB)++a0.1),(i64.wrap (a2.1-(1:Int))),())) fun o2=>
 .leaf o2))
def Fj (a0:YBs) (a1:YI) (a2:YI):Option (YBs):=(A02 a0 a1 a2).val
def Axt:Tree (((List YI)×Unit)):=
 .leaf ([((1779033703:Int),()),((3144134277:Int),()),((1013904242:Int),()),((2773480762:Int),()),((1359893119:Int),()),((2600822924:Int),()),((528734635:Int),()),((1541459225:Int),())],())
def Bar:Option (((List YI)×Unit)):=(Axt).val
def Ao6:Tree (J4):=
 .ob Bar fun r1=>
 .leaf (r1.1,([]:List YB),(0:Int),())
def Apn:Option (J4):=(Ao6).val
def Ago (a0:J4):Tree ((Bool×Unit)):=
 .ob (L0 (a0.1,()) ((8:Int),())) fun r1=>
 .br r1.1 (
 .ob (A0 (a0.2.2.1,()) ((0:Int),()) ((1048576:Int),())) fun r2=>
 .br r2.1 (
 .chk (decide ((0:Int)≤a0.2.2.1)) <|
 .leaf (((a0.2.2.1%(64:Int))==(a0.2.1.length:Int)),())) (
 .leaf (false,()))) (
 .leaf (false,()))
def Vo (a0:J4):Option ((Bool×Unit)):=(Ago a0).val
def Jh (x1:(List YB)×(List YBs)×Int×Int×Unit):Option (((List YB)×(List YBs)×Int×Int×Unit)⊕(YBs)):=
 letI u1:=x1.2.2;Tree.val (α:=((List YB)×(List YBs)×Int×Int×Unit)⊕(YBs)) <|
 .br (decide (u1.2.1<u1.1)) (
 .ob (idx x1.2.1 u1.2.1) fun e2=>
 .chk (decide (x1.1.length+e2.1.length≤4294967296)) <|
 .leaf (.inl ((x1.1++e2.1),x1.2.1,u1.1,(i64.wrap (u1.2.1+(1:Int))),()))) (
 .leaf (.inr (x1.1,())))
def Agp (a0:(List YBs)×Unit):Tree (YBs):=
 .ob (As Jh (([]:List YB),a0.1,(a0.1.length:Int),(0:Int),())) fun o3=>
 .leaf o3
def Fk (a0:(List YBs)×Unit):Option (YBs):=(Agp a0).val
def Avm (a0:YBs) (a1:YI) (a2:YI):Tree (YBs×(Bool×Unit)):=
 .br (decide (a1.1<(0:Int))) (
 .leaf ((([]:List YB),()),(false,()))) (
 .br (decide (a2.1<(0:Int))) (
 .leaf ((([]:List YB),()),(false,()))) (
 .br (decide (a1.1>(a0.1.length:Int))) (
 .leaf ((([]:List YB),()),(false,()))) (
 .br (decide (a2.1>(i64.wrap ((a0.1.length:Int)-a1.1)))) (
 .leaf ((([]:List YB),()),(false,()))) (
 .chk (decide ((0:Int)≤a1.1)) <|
 .chk (decide (a1.1≤(i64.wrap (a1.1+a2.1)))) <|
 .chk (decide ((i64.wrap (a1.1+a2.1))≤(a0.1.length:Int))) <|
 .chk (decide (([]:List YB).length+((a0.1.take ((i64.wrap (a1.1+a2.1))).toNat).drop (a1.1).toNat).length≤4294967296)) <|
 .leaf (((([]:List YB)++((a0.1.take ((i64.wrap (a1.1+a2.1))).toNat).drop (a1.1).toNat)),()),(true,()))))))
def Av0 (a0:YBs) (a1:YI) (a2:YI):Option (YBs×(Bool×Unit)):=(Avm a0 a1 a2).val
def Mv (x2:Int×Int×Int×(List YB)×Int×Int×Unit):Option ((Int×Int×Int×(List YB)×Int×Int×Unit)⊕((Int×Int×Int×Unit))):=
 letI u1:=x2.2.2;letI u2:=u1.2.2;Tree.val (α:=(Int×Int×Int×(List YB)×Int×Int×Unit)⊕((Int×Int×Int×Unit))) <|
 .br (decide (u2.2.1<u2.1)) (
 .ob (idx u1.2.1 u2.2.1) fun e3=>
 .leaf (.inl (x2.1,x2.2.1,(i64.wrap ((i64.wrap ((256:Int)*u1.1))+(i64.wrap (e3.1)))),u1.2.1,u2.1,(i64.wrap (u2.2.1+(1:Int))),()))) (
 .leaf (.inr (x2.1,x2.2.1,u1.1,())))
def Aqp (a0:YBs) (a1:YI) (a2:YI):Tree (YI×YI×(Bool×Unit)):=
 .br (decide (a2.1<(1:Int))) (
 .leaf (((0:Int),()),((0:Int),()),(false,()))) (
 .br (decide (a2.1>(6:Int))) (
 .leaf (((0:Int),()),((0:Int),()),(false,()))) (
 .ob (Av0 a0 a1 a2) fun r1=>
 .br (!r1.2.1) (
 .leaf (((0:Int),()),((0:Int),()),(false,()))) (
 .ob (As Mv (a1.1,a2.1,(0:Int),r1.1.1,(r1.1.1.length:Int),(0:Int),())) fun o4=>
 .leaf ((o4.2.2.1,()),((i64.wrap (o4.1+o4.2.1)),()),(true,())))))
def Aq7 (a0:YBs) (a1:YI) (a2:YI):Option (YI×YI×(Bool×Unit)):=(Aqp a0 a1 a2).val
def Avo (a0:YI) (a1:YI):Tree (YI):=
 .br (decide (a1.1<(0:Int))) (
 .leaf ((i64.wrap ((BitVec.ofInt (i64.bits) (a0.1) &&& BitVec.ofInt (i64.bits) ((4294967295:Int))).toNat:Nat)),())) (
 .br (decide (a1.1>(31:Int))) (
 .leaf ((i64.wrap ((BitVec.ofInt (i64.bits) (a0.1) &&& BitVec.ofInt (i64.bits) ((4294967295:Int))).toNat:Nat)),())) (
 .chk (decide ((0:Int)≤a1.1)) <|
 .chk (decide ((0:Int)≤(i64.wrap ((32:Int)-a1.1)))) <|
 .leaf ((i64.wrap ((BitVec.ofInt (i64.bits) ((i64.wrap ((BitVec.ofInt (i64.bits) ((Int.fdiv (i64.wrap ((BitVec.ofInt (i64.bits) (a0.1) &&& BitVec.ofInt (i64.bits) ((4294967295:Int))).toNat:Nat)) (2^(min (a1.1).toNat i64.bits)))) ||| BitVec.ofInt (i64.bits) ((i64.wrap ((i64.wrap ((BitVec.ofInt (i64.bits) (a0.1) &&& BitVec.ofInt (i64.bits) ((4294967295:Int))).toNat:Nat))*2^(min ((i64.wrap ((32:Int)-a1.1))).toNat i64.bits))))).toNat:Nat))) &&& BitVec.ofInt (i64.bits) ((4294967295:Int))).toNat:Nat)),())))
def Ii (a0:YI) (a1:YI):Option (YI):=(Avo a0 a1).val
def Hl (x1:(List YB)×(List YI)×Int×Unit):Option (((List YB)×(List YI)×Int×Unit)⊕(((List YI)×Unit))):=
 letI u1:=x1.2.2;Tree.val (α:=((List YB)×(List YI)×Int×Unit)⊕(((List YI)×Unit))) <|
 .br (decide (u1.1<(16:Int))) (
 .ob (Aq7 (x1.1,()) ((i64.wrap ((4:Int)*u1.1)),()) ((4:Int),())) fun r2=>
 .ob (idx x1.2.1 u1.1) fun e3=>
 let q4:=(x1.2.1.set (u1.1).toNat r2.1)
 .leaf (.inl (x1.1,q4,(i64.wrap (u1.1+(1:Int))),()))) (
 .leaf (.inr (x1.2.1,())))
def Hm (x6:(List YI)×Int×Unit):Option (((List YI)×Int×Unit)⊕(((List YI)×Unit))):=
 Tree.val (α:=((List YI)×Int×Unit)⊕(((List YI)×Unit))) <|
 .br (decide (x6.2.1<(64:Int))) (
 .ob (idx x6.1 (i64.wrap (x6.2.1-(15:Int)))) fun e7=>
 .ob (idx x6.1 (i64.wrap (x6.2.1-(2:Int)))) fun e8=>
 .ob (Ii e7 ((7:Int),())) fun r9=>
 .ob (Ii e7 ((18:Int),())) fun r10=>
 .ob (Ii e8 ((17:Int),())) fun r11=>
 .ob (Ii e8 ((19:Int),())) fun r12=>
 .ob (idx x6.1 (i64.wrap (x6.2.1-(7:Int)))) fun e13=>
 .ob (idx x6.1 (i64.wrap (x6.2.1-(16:Int)))) fun e14=>
 .ob (idx x6.1 x6.2.1) fun e15=>
 let q16:=(x6.1.set (x6.2.1).toNat ((i64.wrap ((BitVec.ofInt (i64.bits) ((i64.wrap ((i64.wrap ((i64.wrap (e13.1+e14.1))+(i64.wrap ((BitVec.ofInt (i64.bits) ((i64.wrap ((BitVec.ofInt (i64.bits) (r9.1) ^^^ BitVec.ofInt (i64.bits) (r10.1)).toNat:Nat))) ^^^ BitVec.ofInt (i64.bits) ((Int.fdiv e7.1 (2^(min ((3:Int)).toNat i64.bits))))).toNat:Nat))))+(i64.wrap ((BitVec.ofInt (i64.bits) ((i64.wrap ((BitVec.ofInt (i64.bits) (r11.1) ^^^ BitVec.ofInt (i64.bits) (r12.1)).toNat:Nat))) ^^^ BitVec.ofInt (i64.bits) ((Int.fdiv e8.1 (2^(min ((10:Int)).toNat i64.bits))))).toNat:Nat))))) &&& BitVec.ofInt (i64.bits) ((4294967295:Int))).toNat:Nat)),()))
 .leaf (.inl (q16,(i64.wrap (x6.2.1+(1:Int))),()))) (
 .leaf (.inr (x6.1,())))
def P0 (a0:YBs):Tree (((List YI)×Unit)):=
 .br ((a0.1.length:Int) != (64:Int)) (
 .leaf (([]:List YI),())) (
 .ob (As Hl (a0.1,(List.replicate ((64:Int)).toNat ((0:Int),())),(0:Int),())) fun o5=>
 .ob (As Hm (o5.1,(16:Int),())) fun o17=>
 .leaf o17)
def Xr (a0:YBs):Option (((List YI)×Unit)):=(P0 a0).val
def Ajk (a0:YI):Tree YI:=.leaf (Tm a0.1,())
def Ajq (a0:YI):Option YI:=(Ajk a0).val
def Axv (a0:YI) (a1:YI):Tree (YI):=
 .leaf ((i64.wrap ((BitVec.ofInt (i64.bits) ((i64.wrap (a0.1+a1.1))) &&& BitVec.ofInt (i64.bits) ((4294967295:Int))).toNat:Nat)),())
def Aak (a0:YI) (a1:YI):Option (YI):=(Axv a0 a1).val
def F0 (x11:(List YI)×(List YI)×(List YI)×Int×Int×Int×Int×Int×Int×Int×Int×Int×Unit):Option (((List YI)×(List YI)×(List YI)×Int×Int×Int×Int×Int×Int×Int×Int×Int×Unit)⊕(((List YI)×(List YI)×Int×Int×Int×Int×Int×Int×Int×Int×Unit))):=
 letI u1:=x11.2.2.2;letI u2:=u1.2.2;letI u3:=u2.2.2;letI u4:=u3.2.2;Tree.val (α:=((List YI)×(List YI)×(List YI)×Int×Int×Int×Int×Int×Int×Int×Int×Int×Unit)⊕(((List YI)×(List YI)×Int×Int×Int×Int×Int×Int×Int×Int×Unit))) <|
 .br (decide (u4.2.2.1<(64:Int))) (
 .ob (Ii (u3.1,()) ((6:Int),())) fun r12=>
 .ob (Ii (u3.1,()) ((11:Int),())) fun r13=>
 .ob (Ii (u3.1,()) ((25:Int),())) fun r14=>
 .ob (Ajq (u4.2.2.1,())) fun r15=>
 .ob (idx x11.2.2.1 u4.2.2.1) fun e16=>
 .ob (Ii (u1.1,()) ((2:Int),())) fun r17=>
 .ob (Ii (u1.1,()) ((13:Int),())) fun r18=>
 .ob (Ii (u1.1,()) ((22:Int),())) fun r19=>
 .ob (Aak (u2.2.1,()) ((i64.wrap ((i64.wrap ((i64.wrap ((i64.wrap (u4.2.1+(i64.wrap ((BitVec.ofInt (i64.bits) ((i64.wrap ((BitVec.ofInt (i64.bits) (r12.1) ^^^ BitVec.ofInt (i64.bits) (r13.1)).toNat:Nat))) ^^^ BitVec.ofInt (i64.bits) (r14.1)).toNat:Nat))))+(i64.wrap ((BitVec.ofInt (i64.bits) ((i64.wrap ((BitVec.ofInt (i64.bits) (u3.1) &&& BitVec.ofInt (i64.bits) (u3.2.1)).toNat:Nat))) ^^^ BitVec.ofInt (i64.bits) ((i64.wrap ((BitVec.ofInt (i64.bits) ((i64.wrap ((BitVec.ofInt (i64.bits) ((4294967295:Int)) ^^^ BitVec.ofInt (i64.bits) (u3.1)).toNat:Nat))) &&& BitVec.ofInt (i64.bits) (u4.1)).toNat:Nat)))).toNat:Nat))))+r15.1))+e16.1)),())) fun r20=>
 .ob (Aak ((i64.wrap ((i64.wrap ((i64.wrap ((i64.wrap (u4.2.1+(i64.wrap ((BitVec.ofInt (i64.bits) ((i64.wrap ((BitVec.ofInt (i64.bits) (r12.1) ^^^ BitVec.ofInt (i64.bits) (r13.1)).toNat:Nat))) ^^^ BitVec.ofInt (i64.bits) (r14.1)).toNat:Nat))))+(i64.wrap ((BitVec.ofInt (i64.bits) ((i64.wrap ((BitVec.ofInt (i64.bits) (u3.1) &&& BitVec.ofInt (i64.bits) (u3.2.1)).toNat:Nat))) ^^^ BitVec.ofInt (i64.bits) ((i64.wrap ((BitVec.ofInt (i64.bits) ((i64.wrap ((BitVec.ofInt (i64.bits) ((4294967295:Int)) ^^^ BitVec.ofInt (i64.bits) (u3.1)).toNat:Nat))) &&& BitVec.ofInt (i64.bits) (u4.1)).toNat:Nat)))).toNat:Nat))))+r15.1))+e16.1)),()) ((i64.wrap ((i64.wrap ((BitVec.ofInt (i64.bits) ((i64.wrap ((BitVec.ofInt (i64.bits) (r17.1) ^^^ BitVec.ofInt (i64.bits) (r18.1)).toNat:Nat))) ^^^ BitVec.ofInt (i64.bits) (r19.1)).toNat:Nat))+(i64.wrap ((BitVec.ofInt (i64.bits) ((i64.wrap ((BitVec.ofInt (i64.bits) ((i64.wrap ((BitVec.ofInt (i64.bits) (u1.1) &&& BitVec.ofInt (i64.bits) (u1.2.1)).toNat:Nat))) ^^^ BitVec.ofInt (i64.bits) ((i64.wrap ((BitVec.ofInt (i64.bits) (u1.1) &&& BitVec.ofInt (i64.bits) (u2.1)).toNat:Nat)))).toNat:Nat))) ^^^ BitVec.ofInt (i64.bits) ((i64.wrap ((BitVec.ofInt (i64.bits) (u1.2.1) &&& BitVec.ofInt (i64.bits) (u2.1)).toNat:Nat)))).toNat:Nat)))),())) fun r21=>
 .leaf (.inl (x11.1,x11.2.1,x11.2.2.1,r21.1,u1.1,u1.2.1,u2.1,r20.1,u3.1,u3.2.1,u4.1,(i64.wrap (u4.2.2.1+(1:Int))),()))) (
 .leaf (.inr (x11.1,x11.2.1,u1.1,u1.2.1,u2.1,u2.2.1,u3.1,u3.2.1,u4.1,u4.2.1,())))
def Fh (x23:(List YI)×(List YI)×(List YI)×Int×Int×Unit):Option (((List YI)×(List YI)×(List YI)×Int×Int×Unit)⊕(((List YI)×Unit))):=
 letI u1:=x23.2.2;letI u2:=u1.2.2;Tree.val (α:=((List YI)×(List YI)×(List YI)×Int×Int×Unit)⊕(((List YI)×Unit))) <|
 .br (decide (u2.1<u1.2.1)) (
 .ob (idx u1.1 u2.1) fun e24=>
 .ob (idx x23.1 u2.1) fun e25=>
 .ob (Aak e25 e24) fun r26=>
 .ob (idx x23.2.1 u2.1) fun e27=>
 let q28:=(x23.2.1.set (u2.1).toNat r26)
 .leaf (.inl (x23.1,q28,u1.1,u1.2.1,(i64.wrap (u2.1+(1:Int))),()))) (
 .leaf (.inr (x23.2.1,())))
def P1 (a0:(List YI)×Unit) (a1:YBs):Tree (((List YI)×Unit)):=
 .chk (decide (([]:List YI).length+a0.1.length≤4294967296)) <|
 .ob (L0 a0 ((8:Int),())) fun r1=>
 .br (!r1.1) (
 .leaf ((([]:List YI)++a0.1),())) (
 .br ((a1.1.length:Int) != (64:Int)) (
 .leaf ((([]:List YI)++a0.1),())) (
 .ob (Xr a1) fun r2=>
 .ob (idx a0.1 (0:Int)) fun e3=>
 .ob (idx a0.1 (1:Int)) fun e4=>
 .ob (idx a0.1 (2:Int)) fun e5=>
 .ob (idx a0.1 (3:Int)) fun e6=>
 .ob (idx a0.1 (4:Int)) fun e7=>
 .ob (idx a0.1 (5:Int)) fun e8=>
 .ob (idx a0.1 (6:Int)) fun e9=>
 .ob (idx a0.1 (7:Int)) fun e10=>
 .ob (As F0 (a0.1,(([]:List YI)++a0.1),r2.1,e3.1,e4.1,e5.1,e6.1,e7.1,e8.1,e9.1,e10.1,(0:Int),())) fun o22=>letI u1:=o22.2.2;letI u2:=u1.2.2;letI u3:=u2.2.2.2;
 .ob (As Fh (o22.1,o22.2.1,[(u1.1,()),(u1.2.1,()),(u2.1,()),(u2.2.1,()),(u2.2.2.1,()),(u3.1,()),(u3.2.1,()),(u3.2.2.1,())],([(u1.1,()),(u1.2.1,()),(u2.1,()),(u2.2.1,()),(u2.2.2.1,()),(u3.1,()),(u3.2.1,()),(u3.2.2.1,())].length:Int),(0:Int),())) fun o29=>
 .leaf o29))
def L4 (a0:(List YI)×Unit) (a1:YBs):Option (((List YI)×Unit)):=(P1 a0 a1).val
def Et (x3:(List YI)×(List YB)×Unit):Option (((List YI)×(List YB)×Unit)⊕(((List YI)×(List YB)×Unit))):=
 Tree.val (α:=((List YI)×(List YB)×Unit)⊕(((List YI)×(List YB)×Unit))) <|
 .br (decide ((x3.2.1.length:Int)≥(64:Int))) (
 .chk (decide ((64:Int)≤(x3.2.1.length:Int))) <|
 .ob (L4 (x3.1,()) (((x3.2.1.take ((64:Int)).toNat).drop ((0:Int)).toNat),())) fun r4=>
 .chk (decide ((64:Int)≤(x3.2.1.length:Int))) <|
 .chk (decide ((x3.2.1.length:Int)≤(x3.2.1.length:Int))) <|
 .leaf (.inl (r4.1,((x3.2.1.take ((x3.2.1.length:Int)).toNat).drop ((64:Int)).toNat),()))) (
 .leaf (.inr x3))
def P3 (a0:(List YI)×Unit) (a1:YBs):Tree (((List YI)×Unit)×YBs):=
 .ob (As Et (a0.1,a1.1,())) fun o5=>
 .leaf ((o5.1,()),(o5.2.1,()))
def K5 (a0:(List YI)×Unit) (a1:YBs):Option (((List YI)×Unit)×YBs):=(P3 a0 a1).val
def Ace (a0:J4) (a1:YBs):Tree (J4):=
 .ob (Vo a0) fun r1=>
 .br (!r1.1) (
 .chk (decide (([]:List YI).length+a0.1.length≤4294967296)) <|
 .ob (Br (a0.2.1,())) fun r2=>
 .leaf ((([]:List YI)++a0.1),r2.1,a0.2.2.1,())) (
 .br (decide ((a1.1.length:Int)>(i64.wrap ((1048576:Int)-a0.2.2.1)))) (
 .chk (decide (([]:List YI).length+a0.1.length≤4294967296)) <|
 .ob (Br (a0.2.1,())) fun r3=>
 .leaf ((([]:List YI)++a0.1),r3.1,a0.2.2.1,())) (
 .ob (Fk ([(a0.2.1,()),a1],())) fun r4=>
 .ob (K5 (a0.1,()) r4) fun r5=>
 .chk (decide (([]:List YI).length+r5.1.1.length≤4294967296)) <|
 .ob (Br r5.2) fun r6=>
 .leaf ((([]:List YI)++r5.1.1),r6.1,(i64.wrap (a0.2.2.1+(a1.1.length:Int))),())))
def Ac3 (a0:J4) (a1:YBs):Option (J4):=(Ace a0 a1).val
def Lr (x2:Int×(List YB)×Unit):Option ((Int×(List YB)×Unit)⊕((Int×(List YB)×Unit))):=
 Tree.val (α:=(Int×(List YB)×Unit)⊕((Int×(List YB)×Unit))) <|
 .chk (decide ((0:Int)≤(i64.wrap ((i64.wrap (x2.1+(x2.2.1.length:Int)))+(8:Int))))) <|
 .br (((i64.wrap ((i64.wrap (x2.1+(x2.2.1.length:Int)))+(8:Int)))%(64:Int)) != (0:Int)) (
 .chk (decide (x2.2.1.length+[((0:Int),())].length≤4294967296)) <|
 .leaf (.inl (x2.1,(x2.2.1++[((0:Int),())]),()))) (
 .leaf (.inr x2))
def Avq (a0:YI):Tree (YBs):=
 .ob (A0 a0 ((0:Int),()) ((1048576:Int),())) fun r1=>
 .br (!r1.1) (
 .leaf (([]:List YB),())) (
 .ob (As Lr (a0.1,[((128:Int),())],())) fun o3=>
 .chk (decide (o3.2.1.length+[((0:Int),()),((0:Int),())].length≤4294967296)) <|
 .ob (Fj ((o3.2.1++[((0:Int),()),((0:Int),())]),()) ((i64.wrap ((8:Int)*o3.1)),()) ((6:Int),())) fun r4=>
 .leaf r4)
def Av1 (a0:YI):Option (YBs):=(Avq a0).val
def Gp (x1:(List YB)×(List YI)×Int×Int×Unit):Option (((List YB)×(List YI)×Int×Int×Unit)⊕(YBs)):=
 letI u1:=x1.2.2;Tree.val (α:=((List YB)×(List YI)×Int×Int×Unit)⊕(YBs)) <|
 .br (decide (u1.2.1<u1.1)) (
 .ob (idx x1.2.1 u1.2.1) fun e2=>
 .ob (Fj (x1.1,()) e2 ((4:Int),())) fun r3=>
 .leaf (.inl (r3.1,x1.2.1,u1.1,(i64.wrap (u1.2.1+(1:Int))),()))) (
 .leaf (.inr (x1.1,())))
def Um (a0:(List YI)×Unit):Tree (YBs):=
 .ob (As Gp (([]:List YB),a0.1,(a0.1.length:Int),(0:Int),())) fun o4=>
 .leaf o4
def Uy (a0:(List YI)×Unit):Option (YBs):=(Um a0).val
def Acf (a0:J4):Tree (YBs):=
 .ob (Vo a0) fun r1=>
 .br (!r1.1) (
 .leaf (([]:List YB),())) (
 .ob (Av1 (a0.2.2.1,())) fun r2=>
 .ob (Fk ([(a0.2.1,()),r2],())) fun r3=>
 .ob (K5 (a0.1,()) r3) fun r4=>
 .ob (Uy r4.1) fun r5=>
 .leaf r5)
def Ac4 (a0:J4):Option (YBs):=(Acf a0).val
def Avt (a0:YBs):Tree (YBs):=
 .br (decide ((a0.1.length:Int)>(1048576:Int))) (
 .leaf (([]:List YB),())) (
 .ob Apn fun r1=>
 .ob (Ac3 r1 a0) fun r2=>
 .ob (Ac4 r2) fun r3=>
 .leaf r3)
def Aef (a0:YBs):Option (YBs):=(Avt a0).val
def E9 (x3:YBs):Option (YBs⊕(YBs)):=
 Tree.val (α:=YBs⊕(YBs)) <|
 .br (decide ((x3.1.length:Int)<(64:Int))) (
 .chk (decide (x3.1.length+[((0:Int),())].length≤4294967296)) <|
 .leaf (.inl ((x3.1++[((0:Int),())]),()))) (
 .leaf (.inr x3))
def Wz (a0:YBs):Tree (YBs):=
 .br (decide ((a0.1.length:Int)>(1048576:Int))) (
 .leaf (([]:List YB),())) (
 .ob (Br a0) fun r1=>
 .br (decide ((a0.1.length:Int)>(64:Int))) (
 .ob (Aef a0) fun r2=>
 .ob (As E9 r2) fun o4=>
 .leaf o4) (
 .ob (As E9 r1) fun o5=>
 .leaf o5))
def Xs (a0:YBs):Option (YBs):=(Wz a0).val
def Ji (x1:Int×(List YB)×(List YB)×Int×Int×Unit):Option ((Int×(List YB)×(List YB)×Int×Int×Unit)⊕(YBs)):=
 letI u1:=x1.2.2;Tree.val (α:=(Int×(List YB)×(List YB)×Int×Int×Unit)⊕(YBs)) <|
 .br (decide (u1.2.2.1<u1.2.1)) (
 .ob (idx u1.1 u1.2.2.1) fun e2=>
 .chk (decide (x1.2.1.length+[((u8.wrap ((BitVec.ofInt (u8.bits) (e2.1) ^^^ BitVec.ofInt (u8.bits) (x1.1)).toNat:Nat)),())].length≤4294967296)) <|
 .leaf (.inl (x1.1,(x1.2.1++[((u8.wrap ((BitVec.ofInt (u8.bits) (e2.1) ^^^ BitVec.ofInt (u8.bits) (x1.1)).toNat:Nat)),())]),u1.1,u1.2.1,(i64.wrap (u1.2.2.1+(1:Int))),()))) (
 .leaf (.inr (x1.2.1,())))
def Agq (a0:YBs) (a1:YB):Tree (YBs):=
 .ob (As Ji (a1.1,([]:List YB),a0.1,(a0.1.length:Int),(0:Int),())) fun o3=>
 .leaf o3
def Vp (a0:YBs) (a1:YB):Option (YBs):=(Agq a0 a1).val
def Aqr (a0:YBs) (a1:YBs):Tree (YBs):=
 .br (decide ((a0.1.length:Int)>(1048576:Int))) (
 .leaf (([]:List YB),())) (
 .br (decide ((a1.1.length:Int)>(1048512:Int))) (
 .leaf (([]:List YB),())) (
 .ob (Xs a0) fun r1=>
 .ob (Vp r1 ((92:Int),())) fun r2=>
 .ob (Vp r1 ((54:Int),())) fun r3=>
 .ob (Fk ([r3,a1],())) fun r4=>
 .ob (Aef r4) fun r5=>
 .ob (Fk ([r2,r5],())) fun r6=>
 .ob (Aef r6) fun r7=>
 .leaf r7))
def Rr (a0:YBs) (a1:YBs):Option (YBs):=(Aqr a0 a1).val
def Agr (a0:YBs) (a1:YI):Tree (YBs):=
 .ob (A0 ((a0.1.length:Int),()) ((1:Int),()) ((32:Int),())) fun r1=>
 .br (!r1.1) (
 .leaf (([]:List YB),())) (
 .ob (A0 a1 ((0:Int),()) ((10000:Int),())) fun r2=>
 .br (!r2.1) (
 .leaf (([]:List YB),())) (
 .ob (Fj ([((114:Int),()),((111:Int),()),((108:Int),()),((108:Int),())],()) a1 ((4:Int),())) fun r3=>
 .ob (Rr a0 r3) fun r4=>
 .chk (decide ((12:Int)≤(r4.1.length:Int))) <|
 .ob (Br (((r4.1.take ((12:Int)).toNat).drop ((0:Int)).toNat),())) fun r5=>
 .leaf r5))
def Ahn (a0:YBs) (a1:YI):Option (YBs):=(Agr a0 a1).val
def Aqs (a0:Eh):Tree (Eh×YBs):=
 .ob (Br (a0.1,())) fun r1=>
 .ob (Vm a0) fun r2=>
 .br (!r2.1) (
 .leaf ((r1.1,a0.2.1,()),(([]:List YB),()))) (
 .br (a0.2.1==(10000:Int)) (
 .leaf ((r1.1,a0.2.1,()),(([]:List YB),()))) (
 .ob (Ahn (a0.1,()) (a0.2.1,())) fun r3=>
 .leaf ((r1.1,(i64.wrap (a0.2.1+(1:Int))),()),r3)))
def Aq8 (a0:Eh):Option (Eh×YBs):=(Aqs a0).val
def Jj (x2:(List YB)×(List YB)×Int×(List YB)×(List YB)×Int×Unit):Option (((List YB)×(List YB)×Int×(List YB)×(List YB)×Int×Unit)⊕((Int×(List YB)×Unit))):=
 letI u1:=x2.2.2;Tree.val (α:=((List YB)×(List YB)×Int×(List YB)×(List YB)×Int×Unit)⊕((Int×(List YB)×Unit))) <|
 .br (decide ((x2.2.2.2.1.length:Int)<u1.1)) (
 .ob (Fk ([(u1.2.2.1,()),(x2.2.1,()),([((u8.wrap (u1.2.2.2.1)),())],())],())) fun r3=>
 .ob (Rr (x2.1,()) r3) fun r4=>
 .chk (decide (x2.2.2.2.1.length+r4.1.length≤4294967296)) <|
 .leaf (.inl (x2.1,x2.2.1,u1.1,(u1.2.1++r4.1),r4.1,(i64.wrap (u1.2.2.2.1+(1:Int))),()))) (
 .leaf (.inr (u1.1,u1.2.1,())))
def Ags (a0:YBs) (a1:YBs) (a2:YI):Tree (YBs×(Bool×Unit)):=
 .ob (A0 a2 ((0:Int),()) ((8160:Int),())) fun r1=>
 .br (!r1.1) (
 .leaf ((([]:List YB),()),(false,()))) (
 .br (decide ((a1.1.length:Int)>(100:Int))) (
 .leaf ((([]:List YB),()),(false,()))) (
 .br (decide ((a0.1.length:Int)>(1048576:Int))) (
 .leaf ((([]:List YB),()),(false,()))) (
 .ob (As Jj (a0.1,a1.1,a2.1,([]:List YB),([]:List YB),(1:Int),())) fun o5=>
 .chk (decide ((0:Int)≤o5.1)) <|
 .chk (decide (o5.1≤(o5.2.1.length:Int))) <|
 .ob (Br (((o5.2.1.take (o5.1).toNat).drop ((0:Int)).toNat),())) fun r6=>
 .leaf (r6,(true,())))))
def Aho (a0:YBs) (a1:YBs) (a2:YI):Option (YBs×(Bool×Unit)):=(Ags a0 a1 a2).val
def Agt (a0:YBs) (a1:ByteArray×Unit):Tree (YBs):=
 .chk (decide (a1.1.size≤4294967296)) <|
 .ob (Aho a0 ((Eg a1.1),()) ((32:Int),())) fun r1=>
 .leaf r1.1
def Ahp (a0:YBs) (a1:ByteArray×Unit):Option (YBs):=(Agt a0 a1).val
def Agu (a0:YBs):Tree (YBs):=
 .ob (Di a0) fun r1=>
 .br (!r1.1) (
 .leaf (([]:List YB),())) (
 .ob (Ahp a0 ((Bq [106,97,114]),())) fun r2=>
 .leaf r2)
def Ahq (a0:YBs):Option (YBs):=(Agu a0).val
def Vf (a0:YI):Tree (Bp):=
 .ob (A0 a0 ((1:Int),()) ((6:Int),())) fun r1=>
 .br (!r1.1) (
 .leaf ((0:Int),([]:List Ad),())) (
 .leaf (a0.1,([]:List Ad),()))
def Qk (a0:YI):Option (Bp):=(Vf a0).val
def P4 (a0:YBs):Tree (A6):=
 .ob (Br a0) fun r1=>
 .leaf ((14:Int),(0:Int),(0:Int),([]:List YB),([]:List YB),(0:Int),(0:Int),r1.1,([]:List YB),(0:Int),(0:Int),(0:Int),())
def Xt (a0:YBs):Option (A6):=(P4 a0).val
def Agv (a0:Az):Tree (Az×((List A6)×Unit)):=
 .ob (Ho a0) fun r1=>
 .ob (Eb a0) fun r2=>
 .br (!r2.1) (
 .leaf (r1,(([]:List A6),()))) (
 .br (a0.2.2.2.1==(10000:Int)) (
 .leaf (r1,(([]:List A6),()))) (
 .ob (Aq8 (a0.2.2.1,a0.2.2.2.1,())) fun r3=>
 .ob (Ahq r3.2) fun r4=>
 .ob (Qk (a0.2.2.2.2.1,())) fun r5=>
 .ob (Xt r3.2) fun r6=>
 .ob (Br r4) fun r7=>
 .leaf ((r1.1,r4.1,r3.1.1,r3.1.2.1,r5.1,r5.2.1,([]:List Ak),()),([r6,((12:Int),(0:Int),(0:Int),([]:List YB),([]:List YB),(0:Int),(0:Int),([]:List YB),r7.1,(0:Int),(0:Int),(0:Int),())],()))))
def Xu (a0:Az):Option (Az×((List A6)×Unit)):=(Agv a0).val
def Ib (x3:Int×(List YBs)×(List YB)×(List YB)×Int×Int×(List Ad)×(List Ak)×(List YBs)×(List YB)×(List YB)×Int×Int×(List Ad)×(List Ak)×(List YBs)×(List YB)×(List YB)×Int×Int×(List Ad)×(List Ak)×Unit):Option ((Int×(List YBs)×(List YB)×(List YB)×Int×Int×(List Ad)×(List Ak)×(List YBs)×(List YB)×(List YB)×Int×Int×(List Ad)×(List Ak)×(List YBs)×(List YB)×(List YB)×Int×Int×(List Ad)×(List Ak)×Unit)⊕(((List YBs)×(List YB)×(List YB)×Int×Int×(List Ad)×(List Ak)×(List YBs)×(List YB)×(List YB)×Int×Int×(List Ad)×(List Ak)×Unit))):=
 letI u1:=x3.2.2.2.2;letI u2:=u1.2.2.2.2;letI u3:=u2.2.2;letI u4:=u3.2.2;letI u5:=u4.2.2;letI u6:=u5.2.2;letI u7:=u6.2.2.2;Tree.val (α:=(Int×(List YBs)×(List YB)×(List YB)×Int×Int×(List Ad)×(List Ak)×(List YBs)×(List YB)×(List YB)×Int×Int×(List Ad)×(List Ak)×(List YBs)×(List YB)×(List YB)×Int×Int×(List Ad)×(List Ak)×Unit)⊕(((List YBs)×(List YB)×(List YB)×Int×Int×(List Ad)×(List Ak)×(List YBs)×(List YB)×(List YB)×Int×Int×(List Ad)×(List Ak)×Unit))) <|
 .br (decide (x3.1<(x3.2.1.length:Int))) (
 .ob (idx x3.2.1 x3.1) fun e4=>
 .chk (decide (([]:List YB).length+e4.1.length≤4294967296)) <|
 .chk (decide (x3.2.2.2.2.2.2.2.2.2.2.2.2.2.2.2.1.length+[((([]:List YB)++e4.1),())].length≤4294967296)) <|
 .leaf (.inl ((i64.wrap (x3.1+(1:Int))),x3.2.1,x3.2.2.1,x3.2.2.2.1,u1.1,u1.2.1,u1.2.2.1,u1.2.2.2.1,u2.1,u2.2.1,u3.1,u3.2.1,u4.1,u4.2.1,u5.1,(u5.2.1++[((([]:List YB)++e4.1),())]),u6.1,u6.2.1,u6.2.2.1,u7.1,u7.2.1,u7.2.2.1,()))) (
 .leaf (.inr (u2.1,u2.2.1,u3.1,u3.2.1,u4.1,u4.2.1,u5.1,u5.2.1,u6.1,u6.2.1,u6.2.2.1,u7.1,u7.2.1,u7.2.2.1,())))
def Ach (a0:Az):Tree (Az):=
 letI u1:=a0.2.2;letI u2:=u1.2.2;.chk (decide (([]:List YB).length+a0.2.1.length≤4294967296)) <|
 .ob (Su (u1.1,u1.2.1,())) fun r1=>
 .ob (S1 (u2.1,u2.2.1,())) fun r2=>
 .chk (decide (([]:List Ak).length+a0.2.2.2.2.2.2.1.length≤4294967296)) <|
 .ob (As Ib ((0:Int),a0.1,a0.2.1,u1.1,u1.2.1,u2.1,u2.2.1,u2.2.2.1,([]:List YBs),([]:List YB),([]:List YB),(0:Int),(0:Int),([]:List Ad),([]:List Ak),([]:List YBs),(([]:List YB)++a0.2.1),r1.1,r1.2.1,r2.1,r2.2.1,(([]:List Ak)++u2.2.2.1),())) fun o5=>letI u3:=o5.2.2.2.2.2.2.2;letI u4:=u3.2.2.2;
 .leaf (u3.1,u3.2.1,u3.2.2.1,u4.1,u4.2.1,u4.2.2.1,u4.2.2.2.1,())
def S4 (a0:Az):Option (Az):=(Ach a0).val
def Un (a0:YBs):Tree (A6):=
 .chk (decide (([]:List YB).length+a0.1.length≤4294967296)) <|
 .leaf ((14:Int),(0:Int),(0:Int),([]:List YB),([]:List YB),(0:Int),(0:Int),(([]:List YB)++a0.1),([]:List YB),(0:Int),(0:Int),(0:Int),())
def Ajr (a0:YBs):Option (A6):=(Un a0).val
def Aqt (a0:Az):Tree (Az×((List A6)×Unit)):=
 .ob (S4 a0) fun r1=>
 .ob (Lx a0) fun r2=>
 .br (!r2.1) (
 .leaf (r1,(([]:List A6),()))) (
 .br (a0.2.2.2.1==(10000:Int)) (
 .leaf (r1,(([]:List A6),()))) (
 .ob (Ag5 (a0.2.2.1,a0.2.2.2.1,())) fun r3=>
 .ob (Mx r3.2) fun r4=>
 .ob (My (a0.2.2.2.2.1,())) fun r5=>
 .ob (Ajr r3.2) fun r6=>
 .chk (decide (([]:List YB).length+r4.1.length≤4294967296)) <|
 .leaf ((r1.1,r4.1,r3.1.1,r3.1.2.1,r5.1,r5.2.1,([]:List Ak),()),([r6,((12:Int),(0:Int),(0:Int),([]:List YB),([]:List YB),(0:Int),(0:Int),([]:List YB),(([]:List YB)++r4.1),(0:Int),(0:Int),(0:Int),())],()))))
def Aq9 (a0:Az):Option (Az×((List A6)×Unit)):=(Aqt a0).val
def Aqu (a0:YBs) (a1:YBs):Tree ((Bool×Unit)):=
 .leaf ((decide ((Ov a0.1)=(Ov a1.1))),())
def Fl (a0:YBs) (a1:YBs):Option ((Bool×Unit)):=(Aqu a0 a1).val
def Hn (x1:(List YI)×(List YI)×Int×Unit):Option (((List YI)×(List YI)×Int×Unit)⊕((Bool×Unit)⊕(Unit))):=
 Tree.val (α:=((List YI)×(List YI)×Int×Unit)⊕((Bool×Unit)⊕(Unit))) <|
 .br (decide (x1.2.2.1<(x1.1.length:Int))) (
 .ob (idx x1.1 x1.2.2.1) fun e2=>
 .ob (idx x1.2.1 x1.2.2.1) fun e3=>
 .br (e2.1 != e3.1) (
 .leaf (.inr (.inl (false,())))) (
 .leaf (.inl (x1.1,x1.2.1,(i64.wrap (x1.2.2.1+(1:Int))),())))) (
 .leaf (.inr (.inr ())))
def W1 (a0:(List YI)×Unit) (a1:(List YI)×Unit):Tree ((Bool×Unit)):=
 .br ((a0.1.length:Int) != (a1.1.length:Int)) (
 .leaf (false,())) (
 .ob (As Hn (a0.1,a1.1,(0:Int),())) fun o4=>
 .sm o4 (fun o5=>
 .leaf o5) (fun o6=>
 .leaf (true,())))
def Xv (a0:(List YI)×Unit) (a1:(List YI)×Unit):Option ((Bool×Unit)):=(W1 a0 a1).val
def Aci (a0:Cj) (a1:Cj):Tree ((Bool×Unit)):=
 .br (a0.1==a1.1) (
 .ob (Xv (a0.2.1,()) (a1.2.1,())) fun r1=>
 .leaf r1) (
 .leaf (false,()))
def Ac5 (a0:Cj) (a1:Cj):Option ((Bool×Unit)):=(Aci a0 a1).val
def Agw (a0:YEp) (a1:YEp):Tree ((Bool×Unit)):=
 .br (a0.1==a1.1) (
 .ob (Fl (a0.2.1,()) (a1.2.1,())) fun r1=>
 .br r1.1 (
 .br (a0.2.2.1==a1.2.2.1) (
 .ob (Ac5 (a0.2.2.2.1,a0.2.2.2.2.1,()) (a1.2.2.2.1,a1.2.2.2.2.1,())) fun r2=>
 .leaf r2) (
 .leaf (false,()))) (
 .leaf (false,()))) (
 .leaf (false,()))
def Vq (a0:YEp) (a1:YEp):Option ((Bool×Unit)):=(Agw a0 a1).val
def W2 (a0:Bt) (a1:Bt):Tree ((Bool×Unit)):=
 letI u1:=a0.2.2.2;letI u2:=u1.2.2.2;letI u3:=u2.2.2.2.2;letI u4:=a1.2.2.2;letI u5:=u4.2.2.2;letI u6:=u5.2.2.2.2;.br (a0.1==a1.1) (
 .ob (Fl (a0.2.1,()) (a1.2.1,())) fun r1=>
 .br r1.1 (
 .ob (Vq (a0.2.2.1,u1.1,u1.2.1,u1.2.2.1,u2.1,()) (a1.2.2.1,u4.1,u4.2.1,u4.2.2.1,u5.1,())) fun r2=>
 .br r2.1 (
 .ob (Vq (u2.2.1,u2.2.2.1,u2.2.2.2.1,u3.1,u3.2.1,()) (u5.2.1,u5.2.2.1,u5.2.2.2.1,u6.1,u6.2.1,())) fun r3=>
 .br r3.1 (
 .br (u3.2.2.1==u6.2.2.1) (
 .br (u3.2.2.2.1==u6.2.2.2.1) (
 .ob (Fl (u3.2.2.2.2.1,()) (u6.2.2.2.2.1,())) fun r4=>
 .leaf r4) (
 .leaf (false,()))) (
 .leaf (false,()))) (
 .leaf (false,()))) (
 .leaf (false,()))) (
 .leaf (false,()))) (
 .leaf (false,()))
def Ql (a0:Bt) (a1:Bt):Option ((Bool×Unit)):=(W2 a0 a1).val
def Gq (x1:Int×Int×Int×(List Ap)×Int×Int×(List Ap)×Unit):Option ((Int×Int×Int×(List Ap)×Int×Int×(List Ap)×Unit)⊕((Bool×Unit)⊕(Unit))):=
 letI u1:=x1.2.2.2;letI u2:=u1.2.2.2;Tree.val (α:=(Int×Int×Int×(List Ap)×Int×Int×(List Ap)×Unit)⊕((Bool×Unit)⊕(Unit))) <|
 .br (decide (x1.1<(x1.2.2.2.1.length:Int))) (
 .ob (idx u1.1 x1.1) fun e2=>
 .ob (idx u2.1 x1.1) fun e3=>
 .br (!(and (e2.1==e3.1) (and (e2.2.1==e3.2.1) true))) (
 .leaf (.inr (.inl (false,())))) (
 .ob (idx u1.1 x1.1) fun e4=>
 .ob (idx u2.1 x1.1) fun e5=>
 .ob (Fl (e4.2.2.1,()) (e5.2.2.1,())) fun r6=>
 .br (!r6.1) (
 .leaf (.inr (.inl (false,())))) (
 .ob (idx u1.1 x1.1) fun e7=>
 .ob (idx u2.1 x1.1) fun e8=>
 .br (e7.2.2.2.1 != e8.2.2.2.1) (
 .leaf (.inr (.inl (false,())))) (
 .leaf (.inl ((i64.wrap (x1.1+(1:Int))),x1.2.1,x1.2.2.1,u1.1,u1.2.1,u1.2.2.1,u2.1,())))))) (
 .leaf (.inr (.inr ())))
def Uo (a0:Bb) (a1:Bb):Tree ((Bool×Unit)):=
 .br (!(and (a0.1==a1.1) (and (a0.2.1==a1.2.1) true))) (
 .leaf (false,())) (
 .br ((a0.2.2.1.length:Int) != (a1.2.2.1.length:Int)) (
 .leaf (false,())) (
 .ob (As Gq ((0:Int),a0.1,a0.2.1,a0.2.2.1,a1.1,a1.2.1,a1.2.2.1,())) fun o9=>
 .sm o9 (fun o10=>
 .leaf o10) (fun o11=>
 .leaf (true,()))))
def Oj (a0:Bb) (a1:Bb):Option ((Bool×Unit)):=(Uo a0 a1).val
def W3 (a0:Ad) (a1:Ad):Tree ((Bool×Unit)):=
 letI u1:=a0.2.2.2;letI u2:=u1.2.2.2;letI u3:=u2.2.2.2;letI u4:=u3.2.2.2;letI u5:=u4.2.2.2;letI u6:=u5.2.2.2.2;letI u7:=a1.2.2.2;letI u8:=u7.2.2.2;letI u9:=u8.2.2.2;letI u10:=u9.2.2.2;letI u11:=u10.2.2.2;letI u12:=u11.2.2.2.2;.br (a0.1==a1.1) (
 .ob (Fl (a0.2.1,()) (a1.2.1,())) fun r1=>
 .br r1.1 (
 .ob (Fl (a0.2.2.1,()) (a1.2.2.1,())) fun r2=>
 .br r2.1 (
 .ob (Ql (u1.1,u1.2.1,u1.2.2.1,u2.1,u2.2.1,u2.2.2.1,u3.1,u3.2.1,u3.2.2.1,u4.1,u4.2.1,u4.2.2.1,u5.1,u5.2.1,u5.2.2.1,()) (u7.1,u7.2.1,u7.2.2.1,u8.1,u8.2.1,u8.2.2.1,u9.1,u9.2.1,u9.2.2.1,u10.1,u10.2.1,u10.2.2.1,u11.1,u11.2.1,u11.2.2.1,())) fun r3=>
 .br r3.1 (
 .ob (Oj (u5.2.2.2.1,u6.1,u6.2.1,()) (u11.2.2.2.1,u12.1,u12.2.1,())) fun r4=>
 .br r4.1 (
 .br (u6.2.2.1==u12.2.2.1) (
 .br (u6.2.2.2.1==u12.2.2.2.1) (
 .leaf ((u6.2.2.2.2.1==u12.2.2.2.2.1),())) (
 .leaf (false,()))) (
 .leaf (false,()))) (
 .leaf (false,()))) (
 .leaf (false,()))) (
 .leaf (false,()))) (
 .leaf (false,()))) (
 .leaf (false,()))
def Xw (a0:Ad) (a1:Ad):Option ((Bool×Unit)):=(W3 a0 a1).val
def Ic (x1:Int×Int×(List Ad)×Int×(List Ad)×Unit):Option ((Int×Int×(List Ad)×Int×(List Ad)×Unit)⊕((Bool×Unit)⊕(Unit))):=
 letI u1:=x1.2.2;Tree.val (α:=(Int×Int×(List Ad)×Int×(List Ad)×Unit)⊕((Bool×Unit)⊕(Unit))) <|
 .br (decide (x1.1<(x1.2.2.1.length:Int))) (
 .ob (idx u1.1 x1.1) fun e2=>
 .ob (idx u1.2.2.1 x1.1) fun e3=>
 .ob (Xw e2 e3) fun r4=>
 .br (!r4.1) (
 .leaf (.inr (.inl (false,())))) (
 .leaf (.inl ((i64.wrap (x1.1+(1:Int))),x1.2.1,u1.1,u1.2.1,u1.2.2.1,())))) (
 .leaf (.inr (.inr ())))
def Acj (a0:Bp) (a1:Bp):Tree ((Bool×Unit)):=
 .br (a0.1 != a1.1) (
 .leaf (false,())) (
 .br ((a0.2.1.length:Int) != (a1.2.1.length:Int)) (
 .leaf (false,())) (
 .ob (As Ic ((0:Int),a0.1,a0.2.1,a1.1,a1.2.1,())) fun o5=>
 .sm o5 (fun o6=>
 .leaf o6) (fun o7=>
 .leaf (true,()))))
def Ac6 (a0:Bp) (a1:Bp):Option ((Bool×Unit)):=(Acj a0 a1).val
def Fq (x1:(List Ak)×(List Ak)×Int×Unit):Option (((List Ak)×(List Ak)×Int×Unit)⊕((Bool×Unit)⊕(Unit))):=
 Tree.val (α:=((List Ak)×(List Ak)×Int×Unit)⊕((Bool×Unit)⊕(Unit))) <|
 .br (decide (x1.2.2.1<(x1.1.length:Int))) (
 .ob (idx x1.1 x1.2.2.1) fun e2=>
 .ob (idx x1.2.1 x1.2.2.1) fun e3=>
 .br (!(and (e2.1==e3.1) (and (e2.2.1==e3.2.1) (and (e2.2.2.1==e3.2.2.1) (and (e2.2.2.2.1==e3.2.2.2.1) true))))) (
 .leaf (.inr (.inl (false,())))) (
 .leaf (.inl (x1.1,x1.2.1,(i64.wrap (x1.2.2.1+(1:Int))),())))) (
 .leaf (.inr (.inr ())))
def P5 (a0:(List Ak)×Unit) (a1:(List Ak)×Unit):Tree ((Bool×Unit)):=
 .br ((a0.1.length:Int) != (a1.1.length:Int)) (
 .leaf (false,())) (
 .ob (As Fq (a0.1,a1.1,(0:Int),())) fun o4=>
 .sm o4 (fun o5=>
 .leaf o5) (fun o6=>
 .leaf (true,())))
def Qm (a0:(List Ak)×Unit) (a1:(List Ak)×Unit):Option ((Bool×Unit)):=(P5 a0 a1).val
def F2 (x5:Int×(List YBs)×(List YB)×(List YB)×Int×Int×(List Ad)×(List Ak)×(List YBs)×(List YB)×(List YB)×Int×Int×(List Ad)×(List Ak)×Unit):Option ((Int×(List YBs)×(List YB)×(List YB)×Int×Int×(List Ad)×(List Ak)×(List YBs)×(List YB)×(List YB)×Int×Int×(List Ad)×(List Ak)×Unit)⊕((Bool×Unit)⊕(Unit))):=
 letI u1:=x5.2.2.2.2;letI u2:=u1.2.2.2.2;letI u3:=u2.2.2.2;Tree.val (α:=(Int×(List YBs)×(List YB)×(List YB)×Int×Int×(List Ad)×(List Ak)×(List YBs)×(List YB)×(List YB)×Int×Int×(List Ad)×(List Ak)×Unit)⊕((Bool×Unit)⊕(Unit))) <|
 .br (decide (x5.1<(x5.2.1.length:Int))) (
 .ob (idx x5.2.1 x5.1) fun e6=>
 .ob (idx u2.1 x5.1) fun e7=>
 .ob (Fl e6 e7) fun r8=>
 .br (!r8.1) (
 .leaf (.inr (.inl (false,())))) (
 .leaf (.inl ((i64.wrap (x5.1+(1:Int))),x5.2.1,x5.2.2.1,x5.2.2.2.1,u1.1,u1.2.1,u1.2.2.1,u1.2.2.2.1,u2.1,u2.2.1,u2.2.2.1,u3.1,u3.2.1,u3.2.2.1,u3.2.2.2.1,())))) (
 .leaf (.inr (.inr ())))
def Rn (a0:Az) (a1:Az):Tree ((Bool×Unit)):=
 letI u1:=a0.2.2;letI u2:=u1.2.2;letI u3:=a1.2.2;letI u4:=u3.2.2;.br ((a0.1.length:Int) != (a1.1.length:Int)) (
 .leaf (false,())) (
 .ob (Fl (a0.2.1,()) (a1.2.1,())) fun r1=>
 .br (!r1.1) (
 .leaf (false,())) (
 .ob (Fl (u1.1,()) (u3.1,())) fun r2=>
 .br (!r2.1) (
 .leaf (false,())) (
 .br (u1.2.1 != u3.2.1) (
 .leaf (false,())) (
 .ob (Ac6 (u2.1,u2.2.1,()) (u4.1,u4.2.1,())) fun r3=>
 .br (!r3.1) (
 .leaf (false,())) (
 .ob (Qm (u2.2.2.1,()) (u4.2.2.1,())) fun r4=>
 .br (!r4.1) (
 .leaf (false,())) (
 .ob (As F2 ((0:Int),a0.1,a0.2.1,u1.1,u1.2.1,u2.1,u2.2.1,u2.2.2.1,a1.1,a1.2.1,u3.1,u3.2.1,u4.1,u4.2.1,u4.2.2.1,())) fun o9=>
 .sm o9 (fun o10=>
 .leaf o10) (fun o11=>
 .leaf (true,()))))))))
def Fa (a0:Az) (a1:Az):Option ((Bool×Unit)):=(Rn a0 a1).val
def W4 (a0:A6) (a1:A6):Tree ((Bool×Unit)):=
 letI u1:=a0.2.2.2;letI u2:=u1.2.2.2.2;letI u3:=a1.2.2.2;letI u4:=u3.2.2.2.2;.br (a0.1==a1.1) (
 .br (a0.2.1==a1.2.1) (
 .br (a0.2.2.1==a1.2.2.1) (
 .br (u1.2.2.1==u3.2.2.1) (
 .br (u1.2.2.2.1==u3.2.2.2.1) (
 .br (and (u2.2.2.1==u4.2.2.1) (and (u2.2.2.2.1==u4.2.2.2.1) true)) (
 .br (u2.2.2.2.2.1==u4.2.2.2.2.1) (
 .ob (Dc (u1.1,()) (u3.1,())) fun r1=>
 .br r1.1 (
 .ob (Dc (u1.2.1,()) (u3.2.1,())) fun r2=>
 .br r2.1 (
 .ob (Dc (u2.1,()) (u4.1,())) fun r3=>
 .br r3.1 (
 .ob (Dc (u2.2.1,()) (u4.2.1,())) fun r4=>
 .leaf r4) (
 .leaf (false,()))) (
 .leaf (false,()))) (
 .leaf (false,()))) (
 .leaf (false,()))) (
 .leaf (false,()))) (
 .leaf (false,()))) (
 .leaf (false,()))) (
 .leaf (false,()))) (
 .leaf (false,()))) (
 .leaf (false,()))
def Xx (a0:A6) (a1:A6):Option ((Bool×Unit)):=(W4 a0 a1).val
def Gr (x1:(List A6)×(List A6)×Int×Unit):Option (((List A6)×(List A6)×Int×Unit)⊕((Bool×Unit)⊕(Unit))):=
 Tree.val (α:=((List A6)×(List A6)×Int×Unit)⊕((Bool×Unit)⊕(Unit))) <|
 .br (decide (x1.2.2.1<(x1.1.length:Int))) (
 .ob (idx x1.1 x1.2.2.1) fun e2=>
 .ob (idx x1.2.1 x1.2.2.1) fun e3=>
 .ob (Xx e2 e3) fun r4=>
 .br (!r4.1) (
 .leaf (.inr (.inl (false,())))) (
 .leaf (.inl (x1.1,x1.2.1,(i64.wrap (x1.2.2.1+(1:Int))),())))) (
 .leaf (.inr (.inr ())))
def Uq (a0:(List A6)×Unit) (a1:(List A6)×Unit):Tree ((Bool×Unit)):=
 .br ((a0.1.length:Int) != (a1.1.length:Int)) (
 .leaf (false,())) (
 .ob (As Gr (a0.1,a1.1,(0:Int),())) fun o5=>
 .sm o5 (fun o6=>
 .leaf o6) (fun o7=>
 .leaf (true,())))
def Ok (a0:(List A6)×Unit) (a1:(List A6)×Unit):Option ((Bool×Unit)):=(Uq a0 a1).val
def A1f (a0:YBs) (a1:YI):Tree (YI):=
 .br (decide (a1.1<(a0.1.length:Int))) (
 .ob (idx a0.1 a1.1) fun e1=>
 .leaf ((i64.wrap (e1.1)),())) (
 .chk (decide ((0:Int)≤(i64.wrap ((i64.wrap (a1.1*(31:Int)))+(i64.wrap ((a0.1.length:Int)*(7:Int))))))) <|
 .leaf (((i64.wrap ((i64.wrap (a1.1*(31:Int)))+(i64.wrap ((a0.1.length:Int)*(7:Int)))))%(256:Int)),()))
def A1x (a0:YBs) (a1:YI):Option (YI):=(A1f a0 a1).val
def Aqw (a0:YI):Tree (Bi):=
 .ob (A0 a0 ((0:Int),()) ((255:Int),())) fun r1=>
 .br (!r1.1) (
 .leaf ((0:Int),(0:Int),())) (
 .leaf ((i64.wrap ((167772160:Int)+a0.1)),(i64.wrap ((7000:Int)+a0.1)),()))
def Ara (a0:YI):Option (Bi):=(Aqw a0).val
def Ack (a0:YBs) (a1:Bi):Tree (YBs):=
 .ob (F9 a1) fun r1=>
 .br (!r1.1) (
 .ob (Br a0) fun r2=>
 .leaf r2) (
 .ob (Fj a0 (a1.1,()) ((4:Int),())) fun r3=>
 .ob (Fj r3 (a1.2.1,()) ((2:Int),())) fun r4=>
 .leaf r4)
def Apo (a0:YBs) (a1:Bi):Option (YBs):=(Ack a0 a1).val
def W5 (a0:Bi) (a1:YI) (a2:YBs) (a3:YBs) (a4:YI):Tree (YBs):=
 .ob (F9 a0) fun r1=>
 .br (!r1.1) (
 .leaf (([]:List YB),())) (
 .ob (A0 a1 ((1:Int),()) ((9:Int),())) fun r2=>
 .br (!r2.1) (
 .leaf (([]:List YB),())) (
 .ob (Di a2) fun r3=>
 .br (!r3.1) (
 .leaf (([]:List YB),())) (
 .ob (Di a3) fun r4=>
 .br (!r4.1) (
 .leaf (([]:List YB),())) (
 .ob (A0 a4 ((0:Int),()) ((1000000:Int),())) fun r5=>
 .br (!r5.1) (
 .leaf (([]:List YB),())) (
 .ob (Apo ([((99:Int),())],()) a0) fun r6=>
 .ob (Fj (([]:List YB),()) a4 ((4:Int),())) fun r7=>
 .ob (Fk ([r6,([((u8.wrap (a1.1)),())],()),a2,a3,r7],())) fun r8=>
 .leaf r8)))))
def Xy (a0:Bi) (a1:YI) (a2:YBs) (a3:YBs) (a4:YI):Option (YBs):=(W5 a0 a1 a2 a3 a4).val
def Avx (a0:YBs) (a1:YBs):Tree (YBs):=
 .ob (Rr a0 a1) fun r1=>
 .br ((r1.1.length:Int)==(0:Int)) (
 .leaf (([]:List YB),())) (
 .chk (decide ((16:Int)≤(r1.1.length:Int))) <|
 .ob (Br (((r1.1.take ((16:Int)).toNat).drop ((0:Int)).toNat),())) fun r2=>
 .leaf r2)
def Anv (a0:YBs) (a1:YBs):Option (YBs):=(Avx a0 a1).val
def Aqy (a0:YBs) (a1:Bi) (a2:YI) (a3:YBs) (a4:YBs) (a5:YI):Tree (YBs):=
 .ob (Xy a1 a2 a3 a4 a5) fun r1=>
 .ob (Aaj a0) fun r2=>
 .br (!r2.1) (
 .leaf (([]:List YB),())) (
 .br ((r1.1.length:Int)==(0:Int)) (
 .leaf (([]:List YB),())) (
 .ob (Anv a0 r1) fun r3=>
 .leaf r3))
def Ahr (a0:YBs) (a1:Bi) (a2:YI) (a3:YBs) (a4:YBs) (a5:YI):Option (YBs):=(Aqy a0 a1 a2 a3 a4 a5).val
def Agx (a0:YI):Tree ((Bool×Unit)):=
 .ob (A0 a0 ((4:Int),()) ((8:Int),())) fun r1=>
 .leaf r1
def Qn (a0:YI):Option ((Bool×Unit)):=(Agx a0).val
def Agy (a0:YI) (a1:YI):Tree ((Bool×Unit)):=
 .br (a0.1==(4:Int)) (
 .leaf ((decide (a1.1≤(40:Int))),())) (
 .br (a0.1==(5:Int)) (
 .leaf ((a1.1==(12:Int)),())) (
 .br (a0.1==(6:Int)) (
 .leaf ((a1.1==(12:Int)),())) (
 .leaf ((a1.1==(4:Int)),()))))
def Ahs (a0:YI) (a1:YI):Option ((Bool×Unit)):=(Agy a0 a1).val
def Ur (a0:Ch) (a1:Ch):Tree ((Bool×Unit)):=
 letI u1:=a0.2.2.2;letI u2:=u1.2.2.2;letI u3:=a1.2.2.2;letI u4:=u3.2.2.2;.br (a0.1==a1.1) (
 .br (a0.2.1==a1.2.1) (
 .br (u1.2.1==u3.2.1) (
 .br (u2.2.1==u4.2.1) (
 .br (u2.2.2.1==u4.2.2.1) (
 .ob (Dc (a0.2.2.1,()) (a1.2.2.1,())) fun r1=>
 .br r1.1 (
 .ob (Dc (u1.1,()) (u3.1,())) fun r2=>
 .br r2.1 (
 .ob (Dc (u1.2.2.1,()) (u3.2.2.1,())) fun r3=>
 .br r3.1 (
 .ob (Dc (u2.1,()) (u4.1,())) fun r4=>
 .br r4.1 (
 .ob (Dc (u2.2.2.2.1,()) (u4.2.2.2.1,())) fun r5=>
 .br r5.1 (
 .ob (Dc (u2.2.2.2.2.1,()) (u4.2.2.2.2.1,())) fun r6=>
 .leaf r6) (
 .leaf (false,()))) (
 .leaf (false,()))) (
 .leaf (false,()))) (
 .leaf (false,()))) (
 .leaf (false,()))) (
 .leaf (false,()))) (
 .leaf (false,()))) (
 .leaf (false,()))) (
 .leaf (false,()))) (
 .leaf (false,()))
def Ij (a0:Ch) (a1:Ch):Option ((Bool×Unit)):=(Ur a0 a1).val
def Acm (a0:Ch):Tree ((Bool×Unit)):=
 letI u1:=a0.2.2;letI u2:=u1.2.2;letI u3:=u2.2.2.2;.br (a0.1==(1:Int)) (
 .ob (A0 (a0.2.1,()) ((1:Int),()) ((9:Int),())) fun r1=>
 .br r1.1 (
 .ob (Di (u1.1,())) fun r2=>
 .br r2.1 (
 .ob (Ij a0 (a0.1,a0.2.1,u1.1,([]:List YB),(0:Int),([]:List YB),([]:List YB),(0:Int),(0:Int),([]:List YB),([]:List YB),())) fun r3=>
 .leaf r3) (
 .leaf (false,()))) (
 .leaf (false,()))) (
 .br (a0.1==(2:Int)) (
 .ob (Di (u1.1,())) fun r4=>
 .br r4.1 (
 .ob (Di (u1.2.1,())) fun r5=>
 .br r5.1 (
 .ob (A0 (u2.1,()) ((0:Int),()) ((1000000:Int),())) fun r6=>
 .br r6.1 (
 .br ((a0.2.2.2.2.2.1.length:Int)==(16:Int)) (
 .ob (Ij a0 (a0.1,(0:Int),u1.1,u1.2.1,u2.1,u2.2.1,([]:List YB),(0:Int),(0:Int),([]:List YB),([]:List YB),())) fun r7=>
 .leaf r7) (
 .leaf (false,()))) (
 .leaf (false,()))) (
 .leaf (false,()))) (
 .leaf (false,()))) (
 .br (a0.1==(3:Int)) (
 .ob (A0 (a0.2.1,()) ((1:Int),()) ((9:Int),())) fun r8=>
 .br r8.1 (
 .ob (Di (u1.1,())) fun r9=>
 .br r9.1 (
 .ob (Di (u1.2.1,())) fun r10=>
 .br r10.1 (
 .ob (A0 (u2.1,()) ((0:Int),()) ((1000000:Int),())) fun r11=>
 .br r11.1 (
 .br ((a0.2.2.2.2.2.1.length:Int)==(16:Int)) (
 .br ((a0.2.2.2.2.2.2.1.length:Int)==(16:Int)) (
 .ob (Ij a0 (a0.1,a0.2.1,u1.1,u1.2.1,u2.1,u2.2.1,u2.2.2.1,(0:Int),(0:Int),([]:List YB),([]:List YB),())) fun r12=>
 .leaf r12) (
 .leaf (false,()))) (
 .leaf (false,()))) (
 .leaf (false,()))) (
 .leaf (false,()))) (
 .leaf (false,()))) (
 .leaf (false,()))) (
 .ob (Qn (a0.1,())) fun r13=>
 .br r13.1 (
 .ob (Di (u1.2.1,())) fun r14=>
 .br r14.1 (
 .ob (A0 (u3.1,()) ((0:Int),()) ((4294967295:Int),())) fun r15=>
 .br r15.1 (
 .ob (A0 (u3.2.1,()) ((0:Int),()) ((281474976710655:Int),())) fun r16=>
 .br r16.1 (
 .br ((a0.2.2.2.2.2.2.2.2.2.2.1.length:Int)==(16:Int)) (
 .ob (Ahs (a0.1,()) ((a0.2.2.2.2.2.2.2.2.2.1.length:Int),())) fun r17=>
 .br r17.1 (
 .ob (Ij a0 (a0.1,(0:Int),([]:List YB),u1.2.1,(0:Int),([]:List YB),([]:List YB),u3.1,u3.2.1,u3.2.2.1,u3.2.2.2.1,())) fun r18=>
 .leaf r18) (
 .leaf (false,()))) (
 .leaf (false,()))) (
 .leaf (false,()))) (
 .leaf (false,()))) (
 .leaf (false,()))) (
 .leaf (false,())))))
def N0 (a0:Ch):Option ((Bool×Unit)):=(Acm a0).val
def Alw (a0:YI) (a1:YI):Tree ((Bool×Unit)):=
 .ob (A0 a0 ((0:Int),()) ((1000000:Int),())) fun r1=>
 .br r1.1 (
 .ob (A0 a1 ((0:Int),()) ((1000000:Int),())) fun r2=>
 .br r2.1 (
 .ob (A0 ((i64.wrap (a0.1-a1.1)),()) ((0:Int),()) ((10:Int),())) fun r3=>
 .leaf r3) (
 .leaf (false,()))) (
 .leaf (false,()))
def Ax2 (a0:YI) (a1:YI):Option ((Bool×Unit)):=(Alw a0 a1).val
def P6 (x1:(List YB)×(List YB)×Int×Int×Int×Unit):Option (((List YB)×(List YB)×Int×Int×Int×Unit)⊕(YI)):=
 letI u1:=x1.2.2.2;Tree.val (α:=((List YB)×(List YB)×Int×Int×Int×Unit)⊕(YI)) <|
 .br (decide (u1.2.1<u1.1)) (
 .ob (idx x1.1 u1.2.1) fun e2=>
 .ob (idx x1.2.1 u1.2.1) fun e3=>
 .leaf (.inl (x1.1,x1.2.1,(i64.wrap ((BitVec.ofInt (i64.bits) (x1.2.2.1) ||| BitVec.ofInt (i64.bits) ((i64.wrap ((u8.wrap ((BitVec.ofInt (u8.bits) (e2.1) ^^^ BitVec.ofInt (u8.bits) (e3.1)).toNat:Nat)))))).toNat:Nat)),u1.1,(i64.wrap (u1.2.1+(1:Int))),()))) (
 .leaf (.inr (x1.2.2.1,())))
def Aqz (a0:YBs) (a1:YBs):Tree (YI):=
 .br ((a0.1.length:Int) != (a1.1.length:Int)) (
 .leaf ((-1:Int),())) (
 .ob (As P6 (a0.1,a1.1,(0:Int),(a0.1.length:Int),(0:Int),())) fun o4=>
 .leaf o4)
def Arb (a0:YBs) (a1:YBs):Option (YI):=(Aqz a0 a1).val
def Acn (a0:YBs) (a1:YBs):Tree ((Bool×Unit)):=
 .br ((a0.1.length:Int)==(16:Int)) (
 .ob (Arb a0 a1) fun r1=>
 .leaf ((r1.1==(0:Int)),())) (
 .leaf (false,()))
def App (a0:YBs) (a1:YBs):Option ((Bool×Unit)):=(Acn a0 a1).val
def Alx (a0:YBs) (a1:YI) (a2:Bi) (a3:Ch):Tree (YI):=
 letI u1:=a3.2.2.2;.ob (Aaj a0) fun r1=>
 .br (!r1.1) (
 .leaf ((1:Int),())) (
 .ob (A0 a1 ((0:Int),()) ((1000000:Int),())) fun r2=>
 .br (!r2.1) (
 .leaf ((1:Int),())) (
 .ob (F9 a2) fun r3=>
 .br (!r3.1) (
 .leaf ((1:Int),())) (
 .br (a3.1 != (3:Int)) (
 .leaf ((1:Int),())) (
 .ob (N0 a3) fun r4=>
 .br (!r4.1) (
 .leaf ((1:Int),())) (
 .ob (Ax2 a1 (u1.2.1,())) fun r5=>
 .br (!r5.1) (
 .leaf ((9:Int),())) (
 .ob (Ahr a0 a2 (a3.2.1,()) (a3.2.2.1,()) (u1.1,()) (u1.2.1,())) fun r6=>
 .ob (App (u1.2.2.1,()) r6) fun r7=>
 .br (!r7.1) (
 .leaf ((2:Int),())) (
 .leaf ((0:Int),()))))))))
def Aal (a0:YBs) (a1:YI) (a2:Bi) (a3:Ch):Option (YI):=(Alx a0 a1 a2 a3).val
def Aco (a0:YBs) (a1:Bi):Tree (YBs):=
 .ob (Fi a1) fun r1=>
 .br (!r1.1) (
 .chk (decide (([]:List YB).length+a0.1.length≤4294967296)) <|
 .leaf ((([]:List YB)++a0.1),())) (
 .ob (F4 a0 (a1.1,()) ((4:Int),())) fun r2=>
 .ob (F4 r2 (a1.2.1,()) ((2:Int),())) fun r3=>
 .leaf r3)
def Apq (a0:YBs) (a1:Bi):Option (YBs):=(Aco a0 a1).val
def W7 (a0:Bi) (a1:YI) (a2:YBs) (a3:YBs) (a4:YI):Tree (YBs):=
 .ob (Fi a0) fun r1=>
 .br (!r1.1) (
 .leaf (([]:List YB),())) (
 .ob (Bc a1 ((1:Int),()) ((9:Int),())) fun r2=>
 .br (!r2.1) (
 .leaf (([]:List YB),())) (
 .br ((a2.1.length:Int) != (12:Int)) (
 .leaf (([]:List YB),())) (
 .br ((a3.1.length:Int) != (12:Int)) (
 .leaf (([]:List YB),())) (
 .ob (Bc a4 ((0:Int),()) ((1000000:Int),())) fun r3=>
 .br (!r3.1) (
 .leaf (([]:List YB),())) (
 .ob (Apq ([((99:Int),())],()) a0) fun r4=>
 .chk (decide (r4.1.length+[((u8.wrap (a1.1)),())].length≤4294967296)) <|
 .chk (decide ((r4.1++[((u8.wrap (a1.1)),())]).length+a2.1.length≤4294967296)) <|
 .chk (decide (((r4.1++[((u8.wrap (a1.1)),())])++a2.1).length+a3.1.length≤4294967296)) <|
 .ob (F4 ((((r4.1++[((u8.wrap (a1.1)),())])++a2.1)++a3.1),()) a4 ((4:Int),())) fun r5=>
 .leaf r5)))))
def Xz (a0:Bi) (a1:YI) (a2:YBs) (a3:YBs) (a4:YI):Option (YBs):=(W7 a0 a1 a2 a3 a4).val
def Aq0 (a0:YBs) (a1:Bi) (a2:YI) (a3:YBs) (a4:YBs) (a5:YI):Tree (YBs):=
 .ob (Xz a1 a2 a3 a4 a5) fun r1=>
 .ob (Amb a0) fun r2=>
 .br (!r2.1) (
 .leaf (([]:List YB),())) (
 .br ((r1.1.length:Int)==(0:Int)) (
 .leaf (([]:List YB),())) (
 .ob (Anu a0 r1) fun r3=>
 .leaf r3))
def Aht (a0:YBs) (a1:Bi) (a2:YI) (a3:YBs) (a4:YBs) (a5:YI):Option (YBs):=(Aq0 a0 a1 a2 a3 a4 a5).val
def Nt (a0:YBs):Tree ((Bool×Unit)):=
 .ob (Ant a0) fun r1=>
 .br r1.1 (
 .leaf (true,())) (
 .ob (Xm a0) fun r2=>
 .ob (Xu r2) fun r3=>
 .ob (Aq9 r2) fun r4=>
 .ob (Fa r3.1 r4.1) fun r5=>
 .br (!r5.1) (
 .leaf (false,())) (
 .ob (Ok r3.2 r4.2) fun r6=>
 .br (!r6.1) (
 .leaf (false,())) (
 .br ((r3.2.1.length:Int)==(0:Int)) (
 .ob (Fa r3.1 r2) fun r7=>
 .br r7.1 (
 .ob (Eb r2) fun r8=>
 .br (!r8.1) (
 .leaf (true,())) (
 .leaf ((r2.2.2.2.1==(10000:Int)),()))) (
 .leaf (false,()))) (
 .ob (A1x a0 ((2:Int),())) fun r9=>
 .ob (Ara r9) fun r10=>
 .chk (decide (([]:List YB).length+(Bq [116,119,101,108,118,101,32,98,121,116,101,115]).size≤4294967296)) <|
 .chk (Nat.blt 0 (Bq [116,119,101,108,118,101,32,98,121,116,101,115]).size) <|
 .ob (Ahr (r2.2.1,()) r10 ((1:Int),()) ((([]:List YB)++Eg (Bq [116,119,101,108,118,101,32,98,121,116,101,115])),()) ((([]:List YB)++Eg (Bq [116,119,101,108,118,101,32,98,121,116,101,115])),()) ((5:Int),())) fun r11=>
 .ob (Aal (r3.1.2.1,()) ((6:Int),()) r10 ((3:Int),(1:Int),(([]:List YB)++Eg (Bq [116,119,101,108,118,101,32,98,121,116,101,115])),(([]:List YB)++Eg (Bq [116,119,101,108,118,101,32,98,121,116,101,115])),(5:Int),r11.1,r11.1,(0:Int),(0:Int),([]:List YB),([]:List YB),())) fun r12=>
 .ob (Eb r3.1) fun r13=>
 .br r13.1 (
 .br ((r3.1.2.2.2.2.2.1.length:Int)==(0:Int)) (
 .br ((r3.1.2.2.2.2.2.2.1.length:Int)==(0:Int)) (
 .br (r3.1.2.2.2.1==(i64.wrap (r2.2.2.2.1+(1:Int)))) (
 .ob (Aal (r2.2.1,()) ((6:Int),()) r10 ((3:Int),(1:Int),(([]:List YB)++Eg (Bq [116,119,101,108,118,101,32,98,121,116,101,115])),(([]:List YB)++Eg (Bq [116,119,101,108,118,101,32,98,121,116,101,115])),(5:Int),r11.1,r11.1,(0:Int),(0:Int),([]:List YB),([]:List YB),())) fun r14=>
 .br (r14.1==(0:Int)) (
 .br (r12.1==(2:Int)) (
 .leaf (true,())) (
 .ob (Aht (r2.2.1,()) r10 ((1:Int),()) ((([]:List YB)++Eg (Bq [116,119,101,108,118,101,32,98,121,116,101,115])),()) ((([]:List YB)++Eg (Bq [116,119,101,108,118,101,32,98,121,116,101,115])),()) ((5:Int),())) fun r15=>
 .ob (Aht (r3.1.2.1,()) r10 ((1:Int),()) ((([]:List YB)++Eg (Bq [116,119,101,108,118,101,32,98,121,116,101,115])),()) ((([]:List YB)++Eg (Bq [116,119,101,108,118,101,32,98,121,116,101,115])),()) ((5:Int),())) fun r16=>
 .ob (Fl r15 r16) fun r17=>
 .leaf r17)) (
 .leaf (false,()))) (
 .leaf (false,()))) (
 .leaf (false,()))) (
 .leaf (false,()))) (
 .leaf (false,()))))))
def Apr (a0:YBs):Option ((Bool×Unit)):=(Nt a0).val
def Kz (a0:YBs):Tree (Az×YI):=
 .ob (Tq a0) fun r1=>
 .ob (Qe r1) fun r2=>
 .ob (A7 (r1.1,r2.2.2.1,r2.2.2.2.1,()) ((i64.wrap ((r2.1.2.2.2.2.2.1.length:Int)+(2:Int))),())) fun r3=>
 .leaf (r2.1,((i64.wrap (r3.1.1-(1:Int))),()))
def K0 (a0:YBs):Option (Az×YI):=(Kz a0).val
def Ag0 (a0:Ad):Tree (Ad):=
 .ob (J5 a0) fun r1=>
 .br (!r1.1) (
 .ob (Gd a0) fun r2=>
 .leaf r2) (
 .ob (Br (a0.2.1,())) fun r3=>
 .ob (Br (a0.2.2.1,())) fun r4=>
 .leaf (a0.1,r3.1,r4.1,(0:Int),([]:List YB),(0:Int),([]:List YB),(0:Int),(0:Int),([]:List YI),(0:Int),([]:List YB),(0:Int),(0:Int),([]:List YI),false,(0:Int),([]:List YB),(0:Int),(0:Int),([]:List Ap),a0.2.2.2.2.2.2.2.2.2.2.2.2.2.2.2.2.2.2.2.2.2.1,(0:Int),true,()))
def Rs (a0:Ad):Option (Ad):=(Ag0 a0).val
def Acq (a0:Bp) (a1:YI) (a2:Ad):Tree (Bp×(Bool×Unit)):=
 .ob (He a0) fun r1=>
 .ob (L3 a0) fun r2=>
 .br (!r2.1) (
 .leaf (r1,(false,()))) (
 .br (decide (a1.1<(0:Int))) (
 .leaf (r1,(false,()))) (
 .br (decide (a1.1≥(a0.2.1.length:Int))) (
 .leaf (r1,(false,()))) (
 .ob (Gd a2) fun r3=>
 .ob (idx r1.2.1 a1.1) fun e4=>
 let q5:=(r1.2.1.set (a1.1).toNat r3)
 .ob (L3 (r1.1,q5,())) fun r6=>
 .br (!r6.1) (
 .ob (He a0) fun r7=>
 .leaf (r7,(false,()))) (
 .leaf ((r1.1,q5,()),(true,()))))))
def S5 (a0:Bp) (a1:YI) (a2:Ad):Option (Bp×(Bool×Unit)):=(Acq a0 a1 a2).val
def Aaa (a0:YI) (a1:YI) (a2:YBs):Tree (A6):=
 .ob (Br a2) fun r1=>
 .leaf ((11:Int),a0.1,a1.1,([]:List YB),r1.1,(0:Int),(0:Int),([]:List YB),([]:List YB),(0:Int),(0:Int),(0:Int),())
def Pa (a0:YI) (a1:YI) (a2:YBs):Option (A6):=(Aaa a0 a1 a2).val
def K4 (a0:Az) (a1:YI):Tree (Az×((List A6)×Unit)×YI):=
 letI u1:=a0.2.2.2.2;.ob (Ho a0) fun r1=>
 .ob (Eb a0) fun r2=>
 .br (!r2.1) (
 .leaf (r1,(([]:List A6),()),((1:Int),()))) (
 .br (decide (a1.1<(0:Int))) (
 .leaf (r1,(([]:List A6),()),((8:Int),()))) (
 .br (decide (a1.1≥(a0.2.2.2.2.2.1.length:Int))) (
 .leaf (r1,(([]:List A6),()),((8:Int),()))) (
 .ob (idx u1.2.1 a1.1) fun e3=>
 .br e3.2.2.2.2.2.2.2.2.2.2.2.2.2.2.2.2.2.2.2.2.2.2.2.1 (
 .leaf (r1,(([]:List A6),()),((8:Int),()))) (
 .ob (idx u1.2.1 a1.1) fun e4=>
 .ob (Rs e4) fun r5=>
 .ob (S5 (u1.1,u1.2.1,()) a1 r5) fun r6=>
 .ob (Pa (e4.1,()) ((1:Int),()) (e4.2.2.1,())) fun r7=>
 .leaf ((r1.1,r1.2.1,r1.2.2.1,r1.2.2.2.1,r6.1.1,r6.1.2.1,r1.2.2.2.2.2.2.1,()),([r7],()),((0:Int),()))))))
def It (a0:Az) (a1:YI):Option (Az×((List A6)×Unit)×YI):=(K4 a0 a1).val
def Ag1 (a0:Ad):Tree (A6):=
 .chk (decide (([]:List YB).length+a0.2.2.1.length≤4294967296)) <|
 .leaf ((11:Int),a0.1,(1:Int),([]:List YB),(([]:List YB)++a0.2.2.1),(0:Int),(0:Int),([]:List YB),([]:List YB),(0:Int),(0:Int),(0:Int),())
def Aty (a0:Ad):Option (A6):=(Ag1 a0).val
def P7 (a0:Az) (a1:YI):Tree (Az×((List A6)×Unit)×YI):=
 letI u1:=a0.2.2.2.2.2;.ob (S4 a0) fun r1=>letI u2:=r1.2.2.2;
 .ob (Lx a0) fun r2=>
 .br (!r2.1) (
 .leaf (r1,(([]:List A6),()),((1:Int),()))) (
 .ob (Bc a1 ((0:Int),()) ((i64.wrap ((a0.2.2.2.2.2.1.length:Int)-(1:Int))),())) fun r3=>
 .br (!r3.1) (
 .leaf (r1,(([]:List A6),()),((8:Int),()))) (
 .ob (idx u1.1 a1.1) fun e4=>
 .br e4.2.2.2.2.2.2.2.2.2.2.2.2.2.2.2.2.2.2.2.2.2.2.2.1 (
 .leaf (r1,(([]:List A6),()),((8:Int),()))) (
 .ob (idx u1.1 a1.1) fun e5=>
 .ob (I7 e5) fun r6=>
 .ob (idx u2.2.2.1 a1.1) fun e7=>
 let q8:=(r1.2.2.2.2.2.1.set (a1.1).toNat r6)
 .ob (idx u1.1 a1.1) fun e9=>
 .ob (Aty e9) fun r10=>
 .leaf ((r1.1,r1.2.1,r1.2.2.1,u2.1,u2.2.1,q8,u2.2.2.2.1,()),([r10],()),((0:Int),())))))
def Qo (a0:Az) (a1:YI):Option (Az×((List A6)×Unit)×YI):=(P7 a0 a1).val
def Ls (a0:YBs):Tree (Az×YI):=
 .ob (Tq a0) fun r1=>
 .ob (Qe r1) fun r2=>
 .ob (Bf (r1.1,r2.2.2.1,r2.2.2.2.1,()) ([((0:Int),()),((6:Int),()),((61:Int),()),((62:Int),()),((66:Int),()),((151:Int),()),((152:Int),()),((310:Int),()),((1000000:Int),()),((1000001:Int),()),((-1:Int),())],())) fun r3=>
 .leaf (r2.1,r3.1)
def L5 (a0:YBs):Option (Az×YI):=(Ls a0).val
def W8 (a0:Bt) (a1:YI):Tree (Bt):=
 letI u1:=a0.2.2.2.2.2.2.2.2.2.2.2.2;.ob (Lz a0) fun r1=>letI u2:=r1.2.2.2;
 .ob (Qi a0) fun r2=>
 .br r2.1 (
 .ob (A0 a1 ((0:Int),()) ((1000000:Int),())) fun r3=>
 .br r3.1 (
 .br u1.1 (
 .br (u1.2.1 != (-1:Int)) (
 .br (decide (a1.1>u1.2.1)) (
 .leaf (r1.1,r1.2.1,r1.2.2.1,u2.1,u2.2.1,u2.2.2.1,u2.2.2.2.1,(0:Int),([]:List YB),(0:Int),(0:Int),([]:List YI),false,(0:Int),u2.2.2.2.2.2.2.2.2.2.2.2.1,())) (
 .leaf r1)) (
 .leaf r1)) (
 .leaf r1)) (
 .leaf r1)) (
 .leaf r1)
def X0 (a0:Bt) (a1:YI):Option (Bt):=(W8 a0 a1).val
def D9 (x2:Int×(List Ap)×Int×Int×Int×Int×(List Ap)×Int×Int×(List Ap)×Unit):Option ((Int×(List Ap)×Int×Int×Int×Int×(List Ap)×Int×Int×(List Ap)×Unit)⊕((Int×Int×(List Ap)×Int×Int×(List Ap)×Unit))):=
 letI u1:=x2.2.2.2;letI u2:=u1.2.2;letI u3:=u2.2.2;Tree.val (α:=(Int×(List Ap)×Int×Int×Int×Int×(List Ap)×Int×Int×(List Ap)×Unit)⊕((Int×Int×(List Ap)×Int×Int×(List Ap)×Unit))) <|
 .br (decide (u1.1<x2.2.2.1)) (
 .chk (Nat.beq (Int.toNat u1.1) (Int.toNat u1.1)) <|
 .ob (idx x2.2.1 u1.1) fun e3=>
 .br (decide (e3.2.2.2.1≥x2.1)) (
 .chk (decide (x2.2.2.2.2.2.2.2.2.2.1.length+[e3].length≤4294967296)) <|
 .chk (Nat.ble (Int.toNat u1.1+1) (Int.toNat (i64.wrap (u1.1+(1:Int))))) <|
 .leaf (.inl (x2.1,x2.2.1,x2.2.2.1,(i64.wrap (u1.1+(1:Int))),u1.2.1,u2.1,u2.2.1,u3.1,u3.2.1,(u3.2.2.1++[e3]),()))) (
 .chk (Nat.ble (Int.toNat u1.1+1) (Int.toNat (i64.wrap (u1.1+(1:Int))))) <|
 .leaf (.inl (x2.1,x2.2.1,x2.2.2.1,(i64.wrap (u1.1+(1:Int))),u1.2.1,u2.1,u2.2.1,u3.1,u3.2.1,u3.2.2.1,())))) (
 .leaf (.inr (u1.2.1,u2.1,u2.2.1,u3.1,u3.2.1,u3.2.2.1,())))
def Iq (a0:Bb) (a1:YI):Tree (Bb):=
 .ob (Dk a0) fun r1=>
 .ob (As D9 (a1.1,r1.2.2.1,(r1.2.2.1.length:Int),(0:Int),(0:Int),(0:Int),([]:List Ap),a0.1,a0.2.1,([]:List Ap),())) fun o4=>
 .leaf (o4.2.2.2.1,o4.2.2.2.2.1,o4.2.2.2.2.2.1,())
def Iu (a0:Bb) (a1:YI):Option (Bb):=(Iq a0 a1).val
def W9 (a0:Bb) (a1:YI):Tree (Bb):=
 .ob (Nz a0) fun r1=>
 .br (!r1.1) (
 .ob (Dk a0) fun r2=>
 .leaf r2) (
 .ob (A0 a1 ((0:Int),()) ((1000000:Int),())) fun r3=>
 .br (!r3.1) (
 .ob (Dk a0) fun r4=>
 .leaf r4) (
 .ob (Iu a0 a1) fun r5=>
 .leaf r5))
def Qp (a0:Bb) (a1:YI):Option (Bb):=(W9 a0 a1).val
def Xa (a0:Ad) (a1:YI):Tree (Ad):=
 letI u1:=a0.2.2.2;letI u2:=u1.2.2.2;letI u3:=u2.2.2.2;letI u4:=u3.2.2.2;letI u5:=u4.2.2.2;letI u6:=u5.2.2.2;.ob (Gd a0) fun r1=>letI u7:=r1.2.2.2.2.2.2.2.2.2.2.2.2.2.2.2.2.2.2.2.2.2;
 .ob (J5 a0) fun r2=>
 .br (!r2.1) (
 .leaf r1) (
 .br u6.2.2.2.2.2.1 (
 .leaf r1) (
 .ob (A0 a1 ((0:Int),()) ((1000000:Int),())) fun r3=>
 .br (!r3.1) (
 .leaf r1) (
 .br (decide ((i64.wrap (a1.1-u6.2.2.2.2.1))>(60:Int))) (
 .ob (Rs a0) fun r4=>
 .leaf r4) (
 .ob (X0 (u1.1,u1.2.1,u1.2.2.1,u2.1,u2.2.1,u2.2.2.1,u3.1,u3.2.1,u3.2.2.1,u4.1,u4.2.1,u4.2.2.1,u5.1,u5.2.1,u5.2.2.1,()) a1) fun r5=>letI u8:=r5.2.2.2;letI u9:=u8.2.2.2;letI u10:=u9.2.2.2.2;
 .ob (Qp (u6.1,u6.2.1,u6.2.2.1,()) a1) fun r6=>
 .leaf (r1.1,r1.2.1,r1.2.2.1,r5.1,r5.2.1,r5.2.2.1,u8.1,u8.2.1,u8.2.2.1,u9.1,u9.2.1,u9.2.2.1,u9.2.2.2.1,u10.1,u10.2.1,u10.2.2.1,u10.2.2.2.1,u10.2.2.2.2.1,r6.1,r6.2.1,r6.2.2.1,u7.1,u7.2.1,u7.2.2.1,())))))
def L6 (a0:Ad) (a1:YI):Option (Ad):=(Xa a0 a1).val
def Id (x5:Int×(List Ad)×Int×Int×Int×(List Ad)×Int×(List Ad)×Unit):Option ((Int×(List Ad)×Int×Int×Int×(List Ad)×Int×(List Ad)×Unit)⊕((Int×(List Ad)×Int×(List Ad)×Unit))):=
 letI u1:=x5.2.2;letI u2:=u1.2.2;letI u3:=u2.2.2;Tree.val (α:=(Int×(List Ad)×Int×Int×Int×(List Ad)×Int×(List Ad)×Unit)⊕((Int×(List Ad)×Int×(List Ad)×Unit))) <|
 .br (decide (u1.2.1<u1.1)) (
 .ob (idx x5.2.1 u1.2.1) fun e6=>
 .ob (L6 e6 (x5.1,())) fun r7=>letI u4:=r7.2.2.2.2.2.2.2.2.2.2.2.2.2.2.2.2.2.2.2.2.2;
 .br (!u4.2.2.1) (
 .chk (decide (x5.2.2.2.2.2.2.2.1.length+[r7].length≤4294967296)) <|
 .leaf (.inl (x5.1,x5.2.1,u1.1,(i64.wrap (u1.2.1+(1:Int))),u2.1,u2.2.1,u3.1,(u3.2.1++[r7]),()))) (
 .br (decide ((i64.wrap (x5.1-u4.1))≤(10:Int))) (
 .chk (decide (x5.2.2.2.2.2.2.2.1.length+[r7].length≤4294967296)) <|
 .leaf (.inl (x5.1,x5.2.1,u1.1,(i64.wrap (u1.2.1+(1:Int))),u2.1,u2.2.1,u3.1,(u3.2.1++[r7]),()))) (
 .leaf (.inl (x5.1,x5.2.1,u1.1,(i64.wrap (u1.2.1+(1:Int))),u2.1,u2.2.1,u3.1,u3.2.1,()))))) (
 .leaf (.inr (u2.1,u2.2.1,u3.1,u3.2.1,())))
def Acr (a0:Bp) (a1:YI):Tree (Bp):=
 .ob (L3 a0) fun r1=>
 .br (!r1.1) (
 .ob (He a0) fun r2=>
 .leaf r2) (
 .ob (A0 a1 ((0:Int),()) ((1000000:Int),())) fun r3=>
 .br (!r3.1) (
 .ob (He a0) fun r4=>
 .leaf r4) (
 .ob (As Id (a1.1,a0.2.1,(a0.2.1.length:Int),(0:Int),(0:Int),([]:List Ad),a0.1,([]:List Ad),())) fun o8=>
 .leaf (o8.2.2.1,o8.2.2.2.1,())))
def Ac7 (a0:Bp) (a1:YI):Option (Bp):=(Acr a0 a1).val
end
end Go.Proofs.YtfljmgnghlpapaaGreat

/-
  What the functions of the seat answer, as plain terms (printed by a program, proved in the texts P); nothing is assumed.
-/
import Derived.Test.YtmhhajdeafijmaaGreatEv2
namespace Go.Proofs.YtmhhajdeafijmaaGreat
open Go.RowKit IntKind
set_option linter.unusedVariables false
set_option maxRecDepth 100000
set_option maxHeartbeats 4000000
noncomputable section
abbrev YB:Type:=Int×Unit
abbrev YI:Type:=Int×Unit
abbrev YBs:Type:=List YB×Unit
abbrev A2c:Type:=ByteArray×Int×Unit
abbrev B7:Type:=Int×Int×Unit
abbrev A6d:Type:=(List YB)×Int×Unit
abbrev B5:Type:=Int×(List YI)×Unit
abbrev A7n:Type:=Int×Int×Bool×Int×Unit
abbrev A88:Type:=Bool×Int×Int×Int×Unit
abbrev Az:Type:=(List YB)×Int×Int×Unit
abbrev A6i:Type:=Int×Int×Int×Int×Unit
abbrev J8:Type:=(List YI)×(List YB)×Int×Unit
abbrev Ap:Type:=Int×Int×(List YB)×Int×Unit
abbrev YEp:Type:=Int×(List YB)×Int×Int×(List YI)×Unit
abbrev Bb:Type:=Int×Int×(List Ap)×Unit
abbrev B8:Type:=Int×Int×Int×(List YB)×(List YB)×Int×Int×(List YB)×(List YB)×Int×Int×Int×Unit
abbrev Au:Type:=Int×Int×(List YB)×(List YB)×Int×(List YB)×(List YB)×Int×Int×(List YB)×(List YB)×Unit
abbrev Cv:Type:=Int×Int×Int×Int×(List YB)×(List YB)×Int×(List YB)×(List YB)×Int×Int×(List YB)×(List YB)×Unit
abbrev Al:Type:=Int×(List YB)×Int×(List YB)×Int×Int×(List YI)×Int×(List YB)×Int×Int×(List YI)×Bool×Int×(List YB)×Unit
abbrev Bp:Type:=Int×(List YB)×(List YB)×Int×(List YB)×Int×(List YB)×Int×Int×(List YI)×Int×(List YB)×Int×Int×(List YI)×Bool×Int×(List YB)×Int×Int×(List Ap)×Int×Int×Bool×Unit
abbrev A89:Type:=Int×(List Bp)×Unit
abbrev A87:Type:=(List YBs)×(List YB)×(List YB)×Int×Int×(List Bp)×(List A6i)×Unit
abbrev A6j:Type:=Int×(List YB)×Int×Int×Int×(List YB)×Int×Int×(List YB)×(List YB)×Int×(List YB)×(List YB)×Int×Int×(List YB)×(List YB)×Int×(List YB)×Int×(List YB)×Int×Int×(List YI)×Int×(List YB)×Int×Int×(List YI)×Bool×Int×(List YB)×Bool×Int×Int×Int×Bool×Int×Int×Int×Int×Unit
def Ayr (a0:YBs):Tree ((Bool×Unit)):=
 .leaf ((decide ((a0.1.length:Int)>(1048576:Int))),())
def Ays (a0:YBs):Option ((Bool×Unit)):=(Ayr a0).val
def Sf (x1:Az):Option (Az⊕(A6d)):=
 Tree.val (α:=Az⊕(A6d)) <|
 .br (decide (x1.2.2.1<(x1.1.length:Int))) (
 .br (decide (x1.2.2.1<(4000:Int))) (
 .ob (idx x1.1 x1.2.2.1) fun e2=>
 .leaf (.inl (x1.1,(i64.wrap ((BitVec.ofInt (i64.bits) ((i64.wrap ((i64.wrap ((i64.wrap (x1.2.1*(137:Int)))+(i64.wrap (e2.1))))+(11:Int)))) &&& BitVec.ofInt (i64.bits) ((1073741823:Int))).toNat:Nat)),(i64.wrap (x1.2.2.1+(1:Int))),()))) (
 .leaf (.inr (x1.1,x1.2.1,())))) (
 .leaf (.inr (x1.1,x1.2.1,())))
def Agn (a0:YBs):Tree (Az):=
 .ob (Ay Sf (a0.1,(i64.wrap ((127812:Int)+(a0.1.length:Int))),(0:Int),())) fun o3=>
 .leaf (o3.1,(0:Int),o3.2.1,())
def Ago (a0:YBs):Option (Az):=(Agn a0).val
def Acn (a0:Az):Tree (YI×Az):=
 letI u1:=a0.2.2;.br (decide (a0.2.1<(a0.1.length:Int))) (
 .ob (idx a0.1 a0.2.1) fun e1=>
 .leaf (((i64.wrap ((BitVec.ofInt (i64.bits) ((i64.wrap ((i64.wrap ((BitVec.ofInt (i64.bits) ((i64.wrap ((BitVec.ofInt (i64.bits) ((Int.fdiv (i64.wrap ((i64.wrap (u1.1*(6364136223846793005:Int)))+(1442695040888963407:Int))) (2^(min ((33:Int)).toNat i64.bits)))) ^^^ BitVec.ofInt (i64.bits) ((Int.fdiv (i64.wrap ((i64.wrap (u1.1*(6364136223846793005:Int)))+(1442695040888963407:Int))) (2^(min ((47:Int)).toNat i64.bits))))).toNat:Nat))) &&& BitVec.ofInt (i64.bits) ((255:Int))).toNat:Nat))+(i64.wrap (e1.1))))) &&& BitVec.ofInt (i64.bits) ((255:Int))).toNat:Nat)),()),(a0.1,(i64.wrap (a0.2.1+(1:Int))),(i64.wrap ((i64.wrap (u1.1*(6364136223846793005:Int)))+(1442695040888963407:Int))),()))) (
 .leaf (((i64.wrap ((BitVec.ofInt (i64.bits) ((i64.wrap ((BitVec.ofInt (i64.bits) ((Int.fdiv (i64.wrap ((i64.wrap (u1.1*(6364136223846793005:Int)))+(1442695040888963407:Int))) (2^(min ((33:Int)).toNat i64.bits)))) ^^^ BitVec.ofInt (i64.bits) ((Int.fdiv (i64.wrap ((i64.wrap (u1.1*(6364136223846793005:Int)))+(1442695040888963407:Int))) (2^(min ((47:Int)).toNat i64.bits))))).toNat:Nat))) &&& BitVec.ofInt (i64.bits) ((255:Int))).toNat:Nat)),()),(a0.1,a0.2.1,(i64.wrap ((i64.wrap (u1.1*(6364136223846793005:Int)))+(1442695040888963407:Int))),())))
def Hb (a0:Az):Option (YI×Az):=(Acn a0).val
def Kr (x1:Int×(List YB)×Int×(List YB)×Int×Int×Unit):Option ((Int×(List YB)×Int×(List YB)×Int×Int×Unit)⊕(((List YB)×(List YB)×Int×Int×Unit))):=
 letI u1:=x1.2.2.2;Tree.val (α:=(Int×(List YB)×Int×(List YB)×Int×Int×Unit)⊕(((List YB)×(List YB)×Int×Int×Unit))) <|
 .br (decide (x1.2.2.1<x1.1)) (
 .ob (Hb (u1.1,u1.2.1,u1.2.2.1,())) fun r2=>
 .chk (decide (x1.2.1.length+[((u8.wrap (r2.1.1)),())].length≤4294967296)) <|
 .leaf (.inl (x1.1,(x1.2.1++[((u8.wrap (r2.1.1)),())]),(i64.wrap (x1.2.2.1+(1:Int))),u1.1,r2.2.2.1,r2.2.2.2.1,()))) (
 .leaf (.inr (x1.2.1,u1.1,u1.2.1,u1.2.2.1,())))
def Zt (a0:Az) (a1:YI):Tree (YBs×Az):=
 .ob (Ay Kr (a1.1,([]:List YB),(0:Int),a0.1,a0.2.1,a0.2.2.1,())) fun o3=>
 .leaf ((o3.1,()),(o3.2.1,o3.2.2.1,o3.2.2.2.1,()))
def Dr (a0:Az) (a1:YI):Option (YBs×Az):=(Zt a0 a1).val
def Zu (a0:Az) (a1:YI):Tree (YI×Az):=
 .br (decide (a1.1≤(0:Int))) (
 .leaf (((0:Int),()),a0)) (
 .br (decide (a1.1≤(256:Int))) (
 .ob (Hb a0) fun r1=>
 .chk (decide ((0:Int)<a1.1)) <|
 .chk (decide ((0:Int)≤r1.1.1)) <|
 .leaf (((r1.1.1%a1.1),()),(a0.1,r1.2.2.1,r1.2.2.2.1,()))) (
 .ob (Hb a0) fun r2=>
 .ob (Hb (a0.1,r2.2.2.1,r2.2.2.2.1,())) fun r3=>
 .ob (Hb (a0.1,r3.2.2.1,r3.2.2.2.1,())) fun r4=>
 .chk (decide ((0:Int)<a1.1)) <|
 .chk (decide ((0:Int)≤(i64.wrap ((i64.wrap ((i64.wrap (r2.1.1*(65536:Int)))+(i64.wrap (r3.1.1*(256:Int)))))+r4.1.1)))) <|
 .leaf ((((i64.wrap ((i64.wrap ((i64.wrap (r2.1.1*(65536:Int)))+(i64.wrap (r3.1.1*(256:Int)))))+r4.1.1))%a1.1),()),(a0.1,r4.2.2.1,r4.2.2.2.1,()))))
def Bj (a0:Az) (a1:YI):Option (YI×Az):=(Zu a0 a1).val
def N4 (a0:Az):Tree (Au×Az):=
 .ob (Dr a0 ((12:Int),())) fun r1=>
 .ob (Dr (a0.1,r1.2.2.1,r1.2.2.2.1,()) ((12:Int),())) fun r2=>
 .ob (Bj (a0.1,r2.2.2.1,r2.2.2.2.1,()) ((300:Int),())) fun r3=>
 .ob (Dr (a0.1,r3.2.2.1,r3.2.2.2.1,()) ((16:Int),())) fun r4=>
 .leaf (((2:Int),(0:Int),r1.1.1,r2.1.1,r3.1.1,r4.1.1,([]:List YB),(0:Int),(0:Int),([]:List YB),([]:List YB),()),(a0.1,r4.2.2.1,r4.2.2.2.1,()))
def Ks (a0:Az):Option (Au×Az):=(N4 a0).val
def Alc (a0:YI) (a1:YI) (a2:YI):Tree ((Bool×Unit)):=
 .br (decide (a0.1≥a1.1)) (
 .leaf ((decide (a0.1≤a2.1)),())) (
 .leaf (false,()))
def By (a0:YI) (a1:YI) (a2:YI):Option ((Bool×Unit)):=(Alc a0 a1 a2).val
def Aco (a0:YI):Tree ((Bool×Unit)):=
 .ob (By a0 ((4:Int),()) ((8:Int),())) fun r1=>
 .leaf r1
def Pi (a0:YI):Option ((Bool×Unit)):=(Aco a0).val
def Acp (a0:YI) (a1:YI):Tree ((Bool×Unit)):=
 .br (a0.1==(4:Int)) (
 .leaf ((decide (a1.1≤(40:Int))),())) (
 .br (a0.1==(5:Int)) (
 .leaf ((a1.1==(12:Int)),())) (
 .br (a0.1==(6:Int)) (
 .leaf ((a1.1==(12:Int)),())) (
 .leaf ((a1.1==(4:Int)),()))))
def Uk (a0:YI) (a1:YI):Option ((Bool×Unit)):=(Acp a0 a1).val
def Zv (a0:Au):Tree ((Bool×Unit)):=
 letI u1:=a0.2.2.2.2;letI u2:=u1.2.2.2;.ob (Pi (a0.1,())) fun r1=>
 .br r1.1 (
 .br (a0.2.1==(0:Int)) (
 .br ((a0.2.2.1.length:Int)==(0:Int)) (
 .br ((a0.2.2.2.1.length:Int)==(12:Int)) (
 .br (u1.1==(0:Int)) (
 .br ((a0.2.2.2.2.2.1.length:Int)==(0:Int)) (
 .br ((a0.2.2.2.2.2.2.1.length:Int)==(0:Int)) (
 .ob (By (u2.1,()) ((0:Int),()) ((4294967295:Int),())) fun r2=>
 .br r2.1 (
 .ob (By (u2.2.1,()) ((0:Int),()) ((281474976710655:Int),())) fun r3=>
 .br r3.1 (
 .ob (Uk (a0.1,()) ((a0.2.2.2.2.2.2.2.2.2.1.length:Int),())) fun r4=>
 .br r4.1 (
 .leaf (((a0.2.2.2.2.2.2.2.2.2.2.1.length:Int)==(16:Int)),())) (
 .leaf (false,()))) (
 .leaf (false,()))) (
 .leaf (false,()))) (
 .leaf (false,()))) (
 .leaf (false,()))) (
 .leaf (false,()))) (
 .leaf (false,()))) (
 .leaf (false,()))) (
 .leaf (false,()))) (
 .br (u2.1 != (0:Int)) (
 .leaf (false,())) (
 .br (u2.2.1 != (0:Int)) (
 .leaf (false,())) (
 .br ((a0.2.2.2.2.2.2.2.2.2.1.length:Int) != (0:Int)) (
 .leaf (false,())) (
 .br ((a0.2.2.2.2.2.2.2.2.2.2.1.length:Int) != (0:Int)) (
 .leaf (false,())) (
 .br ((a0.2.2.1.length:Int) != (12:Int)) (
 .leaf (false,())) (
 .br (a0.1==(1:Int)) (
 .ob (By (a0.2.1,()) ((1:Int),()) ((9:Int),())) fun r5=>
 .br r5.1 (
 .br ((a0.2.2.2.1.length:Int)==(0:Int)) (
 .br (u1.1==(0:Int)) (
 .br ((a0.2.2.2.2.2.1.length:Int)==(0:Int)) (
 .leaf (((a0.2.2.2.2.2.2.1.length:Int)==(0:Int)),())) (
 .leaf (false,()))) (
 .leaf (false,()))) (
 .leaf (false,()))) (
 .leaf (false,()))) (
 .br (a0.1==(2:Int)) (
 .br (a0.2.1==(0:Int)) (
 .br ((a0.2.2.2.1.length:Int)==(12:Int)) (
 .ob (By (u1.1,()) ((0:Int),()) ((1000000:Int),())) fun r6=>
 .br r6.1 (
 .br ((a0.2.2.2.2.2.1.length:Int)==(16:Int)) (
 .leaf (((a0.2.2.2.2.2.2.1.length:Int)==(0:Int)),())) (
 .leaf (false,()))) (
 .leaf (false,()))) (
 .leaf (false,()))) (
 .leaf (false,()))) (
 .br (a0.1==(3:Int)) (
 .ob (By (a0.2.1,()) ((1:Int),()) ((9:Int),())) fun r7=>
 .br r7.1 (
 .br ((a0.2.2.2.1.length:Int)==(12:Int)) (
 .ob (By (u1.1,()) ((0:Int),()) ((1000000:Int),())) fun r8=>
 .br r8.1 (
 .br ((a0.2.2.2.2.2.1.length:Int)==(16:Int)) (
 .leaf (((a0.2.2.2.2.2.2.1.length:Int)==(16:Int)),())) (
 .leaf (false,()))) (
 .leaf (false,()))) (
 .leaf (false,()))) (
 .leaf (false,()))) (
 .leaf (false,()))))))))))
def Nd (a0:Au):Option ((Bool×Unit)):=(Zv a0).val
def Agp (a0:YBs):Tree ((Bool×Unit)):=
 .ob (By ((a0.1.length:Int),()) ((1:Int),()) ((32:Int),())) fun r1=>
 .leaf r1
def Ov (a0:YBs):Option ((Bool×Unit)):=(Agp a0).val
def Pj (x1:Int×(List YB)×Int×Unit):Option ((Int×(List YB)×Int×Unit)⊕(YBs)):=
 letI u1:=x1.2.2;Tree.val (α:=(Int×(List YB)×Int×Unit)⊕(YBs)) <|
 .br (decide (u1.1≥(0:Int))) (
 .chk (decide ((0:Int)≤(i64.wrap ((8:Int)*u1.1)))) <|
 .chk (decide (x1.2.1.length+[((u8.wrap ((i64.wrap ((BitVec.ofInt (i64.bits) ((Int.fdiv x1.1 (2^(min ((i64.wrap ((8:Int)*u1.1))).toNat i64.bits)))) &&& BitVec.ofInt (i64.bits) ((255:Int))).toNat:Nat)))),())].length≤4294967296)) <|
 .leaf (.inl (x1.1,(x1.2.1++[((u8.wrap ((i64.wrap ((BitVec.ofInt (i64.bits) ((Int.fdiv x1.1 (2^(min ((i64.wrap ((8:Int)*u1.1))).toNat i64.bits)))) &&& BitVec.ofInt (i64.bits) ((255:Int))).toNat:Nat)))),())]),(i64.wrap (u1.1-(1:Int))),()))) (
 .leaf (.inr (x1.2.1,())))
def Ald (a0:YBs) (a1:YI) (a2:YI):Tree (YBs):=
 .chk (decide (([]:List YB).length+a0.1.length≤4294967296)) <|
 .br (decide (a2.1<(1:Int))) (
 .leaf ((([]:List YB)++a0.1),())) (
 .br (decide (a2.1>(6:Int))) (
 .leaf ((([]:List YB)++a0.1),())) (
 .ob (Ay Pj (a1.1,(([]:List YB)++a0.1),(i64.wrap (a2.1-(1:Int))),())) fun o2=>
 .leaf o2))
def Fy (a0:YBs) (a1:YI) (a2:YI):Option (YBs):=(Ald a0 a1 a2).val
def Agq (x1:Int×(List YB)×Unit):Option ((Int×(List YB)×Unit)⊕((Int×(List YB)×Unit))):=
 Tree.val (α:=(Int×(List YB)×Unit)⊕((Int×(List YB)×Unit))) <|
 .chk (decide ((0:Int)≤(i64.wrap ((i64.wrap (x1.1+(x1.2.1.length:Int)))+(8:Int))))) <|
 .br (((i64.wrap ((i64.wrap (x1.1+(x1.2.1.length:Int)))+(8:Int)))%(64:Int)) != (0:Int)) (
 .chk (decide (x1.2.1.length+[((0:Int),())].length≤4294967296)) <|
 .leaf (.inl (x1.1,(x1.2.1++[((0:Int),())]),()))) (
 .leaf (.inr x1))
def Api (a0:YI):Tree (YBs):=
 .br (decide (a0.1<(0:Int))) (
 .leaf (([]:List YB),())) (
 .br (decide (a0.1>(1048576:Int))) (
 .leaf (([]:List YB),())) (
 .ob (Ay Agq (a0.1,[((128:Int),())],())) fun o2=>
 .ob (Fy (o2.2.1,()) ((0:Int),()) ((4:Int),())) fun r3=>
 .ob (Fy r3 ((i64.wrap ((8:Int)*o2.1)),()) ((4:Int),())) fun r4=>
 .leaf r4))
def Apj (a0:YI):Option (YBs):=(Api a0).val
def Are:Tree (((List YI)×Unit)):=
 .leaf ([((1779033703:Int),()),((3144134277:Int),()),((1013904242:Int),()),((2773480762:Int),()),((1359893119:Int),()),((2600822924:Int),()),((528734635:Int),()),((1541459225:Int),())],())
def Arf:Option (((List YI)×Unit)):=(Are).val
def Kt (x1:(List YI)×Int×Unit):Option (((List YI)×Int×Unit)⊕((Bool×Unit)⊕((List YI)×Unit))):=
 Tree.val (α:=((List YI)×Int×Unit)⊕((Bool×Unit)⊕((List YI)×Unit))) <|
 .br (decide (x1.2.1<(x1.1.length:Int))) (
 .ob (idx x1.1 x1.2.1) fun e2=>
 .ob (By e2 ((0:Int),()) ((4294967295:Int),())) fun r3=>
 .br (!r3.1) (
 .leaf (.inr (.inl (false,())))) (
 .leaf (.inl (x1.1,(i64.wrap (x1.2.1+(1:Int))),())))) (
 .leaf (.inr (.inr (x1.1,()))))
def Zw (a0:(List YI)×Unit):Tree ((Bool×Unit)):=
 .ob (Ay Kt (a0.1,(0:Int),())) fun o4=>
 .sm o4 (fun o5=>
 .leaf o5) (fun o6=>
 .leaf (((o6.1.length:Int)==(8:Int)),()))
def Zx (a0:(List YI)×Unit):Option ((Bool×Unit)):=(Zw a0).val
def Ayt:Tree (((List YI)×Unit)):=
 .leaf ([((1116352408:Int),()),((1899447441:Int),()),((3049323471:Int),()),((3921009573:Int),()),((961987163:Int),()),((1508970993:Int),()),((2453635748:Int),()),((2870763221:Int),()),((3624381080:Int),()),((310598401:Int),()),((607225278:Int),()),((1426881987:Int),()),((1925078388:Int),()),((2162078206:Int),()),((2614888103:Int),()),((3248222580:Int),()),((3835390401:Int),()),((4022224774:Int),()),((264347078:Int),()),((604807628:Int),()),((770255983:Int),()),((1249150122:Int),()),((1555081692:Int),()),((1996064986:Int),()),((2554220882:Int),()),((2821834349:Int),()),((2952996808:Int),()),((3210313671:Int),()),((3336571891:Int),()),((3584528711:Int),()),((113926993:Int),()),((338241895:Int),()),((666307205:Int),()),((773529912:Int),()),((1294757372:Int),()),((1396182291:Int),()),((1695183700:Int),()),((1986661051:Int),()),((2177026350:Int),()),((2456956037:Int),()),((2730485921:Int),()),((2820302411:Int),()),((3259730800:Int),()),((3345764771:Int),()),((3516065817:Int),()),((3600352804:Int),()),((4094571909:Int),()),((275423344:Int),()),((430227734:Int),()),((506948616:Int),()),((659060556:Int),()),((883997877:Int),()),((958139571:Int),()),((1322822218:Int),()),((1537002063:Int),()),((1747873779:Int),()),((1955562222:Int),()),((2024104815:Int),()),((2227730452:Int),()),((2361852424:Int),()),((2428436474:Int),()),((2756734187:Int),()),((3204031479:Int),()),((3329325298:Int),())],())
def Ayu:Option (((List YI)×Unit)):=(Ayt).val
def Mn (x1:(List YB)×Int×Int×Int×Int×Unit):Option (((List YB)×Int×Int×Int×Int×Unit)⊕((Int×Int×Int×Unit))):=
 letI u1:=x1.2.2;Tree.val (α:=((List YB)×Int×Int×Int×Int×Unit)⊕((Int×Int×Int×Unit))) <|
 .br (decide (u1.2.2.1<u1.1)) (
 .ob (idx x1.1 (i64.wrap (x1.2.1+u1.2.2.1))) fun e2=>
 .leaf (.inl (x1.1,x1.2.1,u1.1,(i64.wrap ((i64.wrap (u1.2.1*(256:Int)))+(i64.wrap (e2.1)))),(i64.wrap (u1.2.2.1+(1:Int))),()))) (
 .leaf (.inr (x1.2.1,u1.1,u1.2.1,())))
def Ale (a0:YBs) (a1:YI) (a2:YI):Tree (YI×YI×(Bool×Unit)):=
 .br (decide (a2.1<(1:Int))) (
 .leaf (((0:Int),()),((0:Int),()),(false,()))) (
 .br (decide (a2.1>(6:Int))) (
 .leaf (((0:Int),()),((0:Int),()),(false,()))) (
 .br (decide (a1.1<(0:Int))) (
 .leaf (((0:Int),()),((0:Int),()),(false,()))) (
 .br (decide (a1.1>(i64.wrap ((a0.1.length:Int)-a2.1)))) (
 .leaf (((0:Int),()),((0:Int),()),(false,()))) (
 .ob (Ay Mn (a0.1,a1.1,a2.1,(0:Int),(0:Int),())) fun o3=>
 .leaf ((o3.2.2.1,()),((i64.wrap (o3.1+o3.2.1)),()),(true,()))))))
def Alf (a0:YBs) (a1:YI) (a2:YI):Option (YI×YI×(Bool×Unit)):=(Ale a0 a1 a2).val
def Apk (a0:YI) (a1:YI):Tree (YI):=
 .br (decide (a1.1<(1:Int))) (
 .leaf ((i64.wrap ((BitVec.ofInt (i64.bits) (a0.1) &&& BitVec.ofInt (i64.bits) ((4294967295:Int))).toNat:Nat)),())) (
 .br (decide (a1.1>(31:Int))) (
 .leaf ((i64.wrap ((BitVec.ofInt (i64.bits) (a0.1) &&& BitVec.ofInt (i64.bits) ((4294967295:Int))).toNat:Nat)),())) (
 .chk (decide ((0:Int)≤a1.1)) <|
 .chk (decide ((0:Int)≤(i64.wrap ((32:Int)-a1.1)))) <|
 .leaf ((i64.wrap ((BitVec.ofInt (i64.bits) ((i64.wrap ((BitVec.ofInt (i64.bits) ((Int.fdiv (i64.wrap ((BitVec.ofInt (i64.bits) (a0.1) &&& BitVec.ofInt (i64.bits) ((4294967295:Int))).toNat:Nat)) (2^(min (a1.1).toNat i64.bits)))) ||| BitVec.ofInt (i64.bits) ((i64.wrap ((i64.wrap ((BitVec.ofInt (i64.bits) (a0.1) &&& BitVec.ofInt (i64.bits) ((4294967295:Int))).toNat:Nat))*2^(min ((i64.wrap ((32:Int)-a1.1))).toNat i64.bits))))).toNat:Nat))) &&& BitVec.ofInt (i64.bits) ((4294967295:Int))).toNat:Nat)),())))
def H8 (a0:YI) (a1:YI):Option (YI):=(Apk a0 a1).val
def Hn (x1:(List YB)×(List YI)×Int×Unit):Option (((List YB)×(List YI)×Int×Unit)⊕(((List YI)×Unit))):=
 Tree.val (α:=((List YB)×(List YI)×Int×Unit)⊕(((List YI)×Unit))) <|
 .br (decide (x1.2.2.1<(16:Int))) (
 .ob (Alf (x1.1,()) ((i64.wrap ((4:Int)*x1.2.2.1)),()) ((4:Int),())) fun r2=>
 .chk (decide (x1.2.1.length+[r2.1].length≤4294967296)) <|
 .leaf (.inl (x1.1,(x1.2.1++[r2.1]),(i64.wrap (x1.2.2.1+(1:Int))),()))) (
 .leaf (.inr (x1.2.1,())))
def Gn (x4:(List YI)×Int×Unit):Option (((List YI)×Int×Unit)⊕(((List YI)×Unit))):=
 Tree.val (α:=((List YI)×Int×Unit)⊕(((List YI)×Unit))) <|
 .br (decide (x4.2.1<(64:Int))) (
 .ob (idx x4.1 (i64.wrap (x4.2.1-(15:Int)))) fun e5=>
 .ob (idx x4.1 (i64.wrap (x4.2.1-(2:Int)))) fun e6=>
 .ob (H8 e5 ((7:Int),())) fun r7=>
 .ob (H8 e5 ((18:Int),())) fun r8=>
 .ob (H8 e6 ((17:Int),())) fun r9=>
 .ob (H8 e6 ((19:Int),())) fun r10=>
 .ob (idx x4.1 (i64.wrap (x4.2.1-(7:Int)))) fun e11=>
 .ob (idx x4.1 (i64.wrap (x4.2.1-(16:Int)))) fun e12=>
 .chk (decide (x4.1.length+[((i64.wrap ((BitVec.ofInt (i64.bits) ((i64.wrap ((i64.wrap ((i64.wrap (e11.1+e12.1))+(i64.wrap ((BitVec.ofInt (i64.bits) ((i64.wrap ((BitVec.ofInt (i64.bits) (r7.1) ^^^ BitVec.ofInt (i64.bits) (r8.1)).toNat:Nat))) ^^^ BitVec.ofInt (i64.bits) ((Int.fdiv e5.1 (2^(min ((3:Int)).toNat i64.bits))))).toNat:Nat))))+(i64.wrap ((BitVec.ofInt (i64.bits) ((i64.wrap ((BitVec.ofInt (i64.bits) (r9.1) ^^^ BitVec.ofInt (i64.bits) (r10.1)).toNat:Nat))) ^^^ BitVec.ofInt (i64.bits) ((Int.fdiv e6.1 (2^(min ((10:Int)).toNat i64.bits))))).toNat:Nat))))) &&& BitVec.ofInt (i64.bits) ((4294967295:Int))).toNat:Nat)),())].length≤4294967296)) <|
 .leaf (.inl ((x4.1++[((i64.wrap ((BitVec.ofInt (i64.bits) ((i64.wrap ((i64.wrap ((i64.wrap (e11.1+e12.1))+(i64.wrap ((BitVec.ofInt (i64.bits) ((i64.wrap ((BitVec.ofInt (i64.bits) (r7.1) ^^^ BitVec.ofInt (i64.bits) (r8.1)).toNat:Nat))) ^^^ BitVec.ofInt (i64.bits) ((Int.fdiv e5.1 (2^(min ((3:Int)).toNat i64.bits))))).toNat:Nat))))+(i64.wrap ((BitVec.ofInt (i64.bits) ((i64.wrap ((BitVec.ofInt (i64.bits) (r9.1) ^^^ BitVec.ofInt (i64.bits) (r10.1)).toNat:Nat))) ^^^ BitVec.ofInt (i64.bits) ((Int.fdiv e6.1 (2^(min ((10:Int)).toNat i64.bits))))).toNat:Nat))))) &&& BitVec.ofInt (i64.bits) ((4294967295:Int))).toNat:Nat)),())]),(i64.wrap (x4.2.1+(1:Int))),()))) (
 .leaf (.inr (x4.1,())))
def Pk (a0:YBs):Tree (((List YI)×Unit)):=
 .br ((a0.1.length:Int) != (64:Int)) (
 .leaf (([]:List YI),())) (
 .ob (Ay Hn (a0.1,([]:List YI),(0:Int),())) fun o3=>
 .ob (Ay Gn (o3.1,(16:Int),())) fun o13=>
 .leaf o13)
def Vj (a0:YBs):Option (((List YI)×Unit)):=(Pk a0).val
def Fz (x12:(List YI)×(List YI)×(List YI)×(List YI)×Int×Int×Int×Int×Int×Int×Int×Int×Int×Unit):Option (((List YI)×(List YI)×(List YI)×(List YI)×Int×Int×Int×Int×Int×Int×Int×Int×Int×Unit)⊕(((List YI)×(List YI)×Int×Int×Int×Int×Int×Int×Int×Int×Unit))):=
 letI u1:=x12.2.2;letI u2:=u1.2.2;letI u3:=u2.2.2;letI u4:=u3.2.2;letI u5:=u4.2.2;Tree.val (α:=((List YI)×(List YI)×(List YI)×(List YI)×Int×Int×Int×Int×Int×Int×Int×Int×Int×Unit)⊕(((List YI)×(List YI)×Int×Int×Int×Int×Int×Int×Int×Int×Unit))) <|
 .br (decide (u5.2.2.1<(64:Int))) (
 .ob (H8 (u4.1,()) ((6:Int),())) fun r13=>
 .ob (H8 (u4.1,()) ((11:Int),())) fun r14=>
 .ob (H8 (u4.1,()) ((25:Int),())) fun r15=>
 .ob (idx u1.1 u5.2.2.1) fun e16=>
 .ob (idx u1.2.1 u5.2.2.1) fun e17=>
 .ob (H8 (u2.1,()) ((2:Int),())) fun r18=>
 .ob (H8 (u2.1,()) ((13:Int),())) fun r19=>
 .ob (H8 (u2.1,()) ((22:Int),())) fun r20=>
 .leaf (.inl (x12.1,x12.2.1,u1.1,u1.2.1,(i64.wrap ((BitVec.ofInt (i64.bits) ((i64.wrap ((i64.wrap ((BitVec.ofInt (i64.bits) ((i64.wrap ((i64.wrap ((i64.wrap ((i64.wrap (u5.2.1+(i64.wrap ((BitVec.ofInt (i64.bits) ((i64.wrap ((BitVec.ofInt (i64.bits) (r13.1) ^^^ BitVec.ofInt (i64.bits) (r14.1)).toNat:Nat))) ^^^ BitVec.ofInt (i64.bits) (r15.1)).toNat:Nat))))+(i64.wrap ((BitVec.ofInt (i64.bits) ((i64.wrap ((BitVec.ofInt (i64.bits) (u4.1) &&& BitVec.ofInt (i64.bits) (u4.2.1)).toNat:Nat))) ^^^ BitVec.ofInt (i64.bits) ((i64.wrap ((BitVec.ofInt (i64.bits) ((i64.wrap ((BitVec.ofInt (i64.bits) (u4.1) ^^^ BitVec.ofInt (i64.bits) ((4294967295:Int))).toNat:Nat))) &&& BitVec.ofInt (i64.bits) (u5.1)).toNat:Nat)))).toNat:Nat))))+e16.1))+e17.1))) &&& BitVec.ofInt (i64.bits) ((4294967295:Int))).toNat:Nat))+(i64.wrap ((BitVec.ofInt (i64.bits) ((i64.wrap ((i64.wrap ((BitVec.ofInt (i64.bits) ((i64.wrap ((BitVec.ofInt (i64.bits) (r18.1) ^^^ BitVec.ofInt (i64.bits) (r19.1)).toNat:Nat))) ^^^ BitVec.ofInt (i64.bits) (r20.1)).toNat:Nat))+(i64.wrap ((BitVec.ofInt (i64.bits) ((i64.wrap ((BitVec.ofInt (i64.bits) ((i64.wrap ((BitVec.ofInt (i64.bits) (u2.1) &&& BitVec.ofInt (i64.bits) (u2.2.1)).toNat:Nat))) ^^^ BitVec.ofInt (i64.bits) ((i64.wrap ((BitVec.ofInt (i64.bits) (u2.1) &&& BitVec.ofInt (i64.bits) (u3.1)).toNat:Nat)))).toNat:Nat))) ^^^ BitVec.ofInt (i64.bits) ((i64.wrap ((BitVec.ofInt (i64.bits) (u2.2.1) &&& BitVec.ofInt (i64.bits) (u3.1)).toNat:Nat)))).toNat:Nat))))) &&& BitVec.ofInt (i64.bits) ((4294967295:Int))).toNat:Nat))))) &&& BitVec.ofInt (i64.bits) ((4294967295:Int))).toNat:Nat)),u2.1,u2.2.1,u3.1,(i64.wrap ((BitVec.ofInt (i64.bits) ((i64.wrap (u3.2.1+(i64.wrap ((BitVec.ofInt (i64.bits) ((i64.wrap ((i64.wrap ((i64.wrap ((i64.wrap (u5.2.1+(i64.wrap ((BitVec.ofInt (i64.bits) ((i64.wrap ((BitVec.ofInt (i64.bits) (r13.1) ^^^ BitVec.ofInt (i64.bits) (r14.1)).toNat:Nat))) ^^^ BitVec.ofInt (i64.bits) (r15.1)).toNat:Nat))))+(i64.wrap ((BitVec.ofInt (i64.bits) ((i64.wrap ((BitVec.ofInt (i64.bits) (u4.1) &&& BitVec.ofInt (i64.bits) (u4.2.1)).toNat:Nat))) ^^^ BitVec.ofInt (i64.bits) ((i64.wrap ((BitVec.ofInt (i64.bits) ((i64.wrap ((BitVec.ofInt (i64.bits) (u4.1) ^^^ BitVec.ofInt (i64.bits) ((4294967295:Int))).toNat:Nat))) &&& BitVec.ofInt (i64.bits) (u5.1)).toNat:Nat)))).toNat:Nat))))+e16.1))+e17.1))) &&& BitVec.ofInt (i64.bits) ((4294967295:Int))).toNat:Nat))))) &&& BitVec.ofInt (i64.bits) ((4294967295:Int))).toNat:Nat)),u4.1,u4.2.1,u5.1,(i64.wrap (u5.2.2.1+(1:Int))),()))) (
 .leaf (.inr (x12.1,x12.2.1,u2.1,u2.2.1,u3.1,u3.2.1,u4.1,u4.2.1,u5.1,u5.2.1,())))
def Fj (x22:(List YI)×(List YI)×(List YI)×Int×Unit):Option (((List YI)×(List YI)×(List YI)×Int×Unit)⊕(((List YI)×Unit))):=
 letI u1:=x22.2.2.2;Tree.val (α:=((List YI)×(List YI)×(List YI)×Int×Unit)⊕(((List YI)×Unit))) <|
 .br (decide (u1.1<(8:Int))) (
 .ob (idx x22.1 u1.1) fun e23=>
 .ob (idx x22.2.2.1 u1.1) fun e24=>
 .ob (idx x22.2.1 u1.1) fun e25=>
 let q26:=(x22.2.1.set (u1.1).toNat ((i64.wrap ((BitVec.ofInt (i64.bits) ((i64.wrap (e23.1+e24.1))) &&& BitVec.ofInt (i64.bits) ((4294967295:Int))).toNat:Nat)),()))
 .leaf (.inl (x22.1,q26,x22.2.2.1,(i64.wrap (u1.1+(1:Int))),()))) (
 .leaf (.inr (x22.2.1,())))
def Pm (a0:(List YI)×Unit) (a1:YBs):Tree (((List YI)×Unit)):=
 .chk (decide (([]:List YI).length+a0.1.length≤4294967296)) <|
 .ob (Zx a0) fun r1=>
 .br (!r1.1) (
 .leaf ((([]:List YI)++a0.1),())) (
 .br ((a1.1.length:Int) != (64:Int)) (
 .leaf ((([]:List YI)++a0.1),())) (
 .ob Ayu fun r2=>
 .ob (Vj a1) fun r3=>
 .ob (idx a0.1 (0:Int)) fun e4=>
 .ob (idx a0.1 (1:Int)) fun e5=>
 .ob (idx a0.1 (2:Int)) fun e6=>
 .ob (idx a0.1 (3:Int)) fun e7=>
 .ob (idx a0.1 (4:Int)) fun e8=>
 .ob (idx a0.1 (5:Int)) fun e9=>
 .ob (idx a0.1 (6:Int)) fun e10=>
 .ob (idx a0.1 (7:Int)) fun e11=>
 .ob (Ay Fz (a0.1,(([]:List YI)++a0.1),r2.1,r3.1,e4.1,e5.1,e6.1,e7.1,e8.1,e9.1,e10.1,e11.1,(0:Int),())) fun o21=>letI u1:=o21.2.2.2;letI u2:=u1.2.2.2;
 .ob (Ay Fj (o21.1,o21.2.1,[(o21.2.2.1,()),(u1.1,()),(u1.2.1,()),(u1.2.2.1,()),(u2.1,()),(u2.2.1,()),(u2.2.2.1,()),(u2.2.2.2.1,())],(0:Int),())) fun o27=>
 .leaf o27))
def Pn (a0:(List YI)×Unit) (a1:YBs):Option (((List YI)×Unit)):=(Pm a0 a1).val
def K5 (x1:J8):Option (J8⊕(YBs)):=
 Tree.val (α:=J8⊕(YBs)) <|
 .br (decide (x1.2.2.1<(8:Int))) (
 .ob (idx x1.1 x1.2.2.1) fun e2=>
 .ob (Fy (x1.2.1,()) e2 ((4:Int),())) fun r3=>
 .leaf (.inl (x1.1,r3.1,(i64.wrap (x1.2.2.1+(1:Int))),()))) (
 .leaf (.inr (x1.2.1,())))
def Agr (a0:(List YI)×Unit):Tree (YBs):=
 .ob (Ay K5 (a0.1,([]:List YB),(0:Int),())) fun o4=>
 .leaf o4
def Ags (a0:(List YI)×Unit):Option (YBs):=(Agr a0).val
def Ow (x3:(List YB)×(List YI)×Int×Unit):Option (((List YB)×(List YI)×Int×Unit)⊕(((List YI)×Unit))):=
 letI u1:=x3.2.2;Tree.val (α:=((List YB)×(List YI)×Int×Unit)⊕(((List YI)×Unit))) <|
 .br (decide (u1.1<(x3.1.length:Int))) (
 .chk (decide ((0:Int)≤u1.1)) <|
 .chk (decide (u1.1≤(i64.wrap (u1.1+(64:Int))))) <|
 .chk (decide ((i64.wrap (u1.1+(64:Int)))≤(x3.1.length:Int))) <|
 .ob (Pn (x3.2.1,()) (((x3.1.take ((i64.wrap (u1.1+(64:Int)))).toNat).drop (u1.1).toNat),())) fun r4=>
 .leaf (.inl (x3.1,r4.1,(i64.wrap (u1.1+(64:Int))),()))) (
 .leaf (.inr (x3.2.1,())))
def Apl (a0:YBs):Tree (YBs):=
 .br (decide ((a0.1.length:Int)>(1048576:Int))) (
 .leaf (([]:List YB),())) (
 .chk (decide (([]:List YB).length+a0.1.length≤4294967296)) <|
 .ob (Apj ((a0.1.length:Int),())) fun r1=>
 .chk (decide ((([]:List YB)++a0.1).length+r1.1.length≤4294967296)) <|
 .ob Arf fun r2=>
 .ob (Ay Ow (((([]:List YB)++a0.1)++r1.1),r2.1,(0:Int),())) fun o5=>
 .ob (Ags o5) fun r6=>
 .leaf r6)
def Abh (a0:YBs):Option (YBs):=(Apl a0).val
def Mo (x2:YBs):Option (YBs⊕(YBs)):=
 Tree.val (α:=YBs⊕(YBs)) <|
 .br (decide ((x2.1.length:Int)<(64:Int))) (
 .chk (decide (x2.1.length+[((0:Int),())].length≤4294967296)) <|
 .leaf (.inl ((x2.1++[((0:Int),())]),()))) (
 .leaf (.inr x2))
def Vk (a0:YBs):Tree (YBs):=
 .br (decide ((a0.1.length:Int)>(1048576:Int))) (
 .leaf (([]:List YB),())) (
 .chk (decide (([]:List YB).length+a0.1.length≤4294967296)) <|
 .br (decide ((a0.1.length:Int)>(64:Int))) (
 .ob (Abh a0) fun r1=>
 .ob (Ay Mo r1) fun o3=>
 .leaf o3) (
 .ob (Ay Mo ((([]:List YB)++a0.1),())) fun o4=>
 .leaf o4))
def Vl (a0:YBs):Option (YBs):=(Vk a0).val
def Mp (x2:(List YB)×(List YB)×(List YB)×(List YB)×Int×Unit):Option (((List YB)×(List YB)×(List YB)×(List YB)×Int×Unit)⊕(((List YB)×(List YB)×(List YB)×Unit))):=
 letI u1:=x2.2.2.2;Tree.val (α:=((List YB)×(List YB)×(List YB)×(List YB)×Int×Unit)⊕(((List YB)×(List YB)×(List YB)×Unit))) <|
 .br (decide (u1.2.1<(64:Int))) (
 .ob (idx x2.2.1 u1.2.1) fun e3=>
 .chk (decide (x2.2.2.1.length+[((u8.wrap ((BitVec.ofInt (u8.bits) (e3.1) ^^^ BitVec.ofInt (u8.bits) ((54:Int))).toNat:Nat)),())].length≤4294967296)) <|
 .ob (idx x2.2.1 u1.2.1) fun e4=>
 .chk (decide (x2.2.2.2.1.length+[((u8.wrap ((BitVec.ofInt (u8.bits) (e4.1) ^^^ BitVec.ofInt (u8.bits) ((92:Int))).toNat:Nat)),())].length≤4294967296)) <|
 .leaf (.inl (x2.1,x2.2.1,(x2.2.2.1++[((u8.wrap ((BitVec.ofInt (u8.bits) (e3.1) ^^^ BitVec.ofInt (u8.bits) ((54:Int))).toNat:Nat)),())]),(u1.1++[((u8.wrap ((BitVec.ofInt (u8.bits) (e4.1) ^^^ BitVec.ofInt (u8.bits) ((92:Int))).toNat:Nat)),())]),(i64.wrap (u1.2.1+(1:Int))),()))) (
 .leaf (.inr (x2.1,x2.2.2.1,u1.1,())))
def Alg (a0:YBs) (a1:YBs):Tree (YBs):=
 .br (decide ((a0.1.length:Int)>(1048576:Int))) (
 .leaf (([]:List YB),())) (
 .br (decide ((a1.1.length:Int)>(1048512:Int))) (
 .leaf (([]:List YB),())) (
 .ob (Vl a0) fun r1=>
 .ob (Ay Mp (a1.1,r1.1,([]:List YB),([]:List YB),(0:Int),())) fun o5=>
 .chk (decide (o5.2.1.length+o5.1.length≤4294967296)) <|
 .ob (Abh ((o5.2.1++o5.1),())) fun r6=>
 .chk (decide (o5.2.2.1.length+r6.1.length≤4294967296)) <|
 .ob (Abh ((o5.2.2.1++r6.1),())) fun r7=>
 .leaf r7))
def Ri (a0:YBs) (a1:YBs):Option (YBs):=(Alg a0 a1).val
def Si (a0:YBs) (a1:YBs):Tree (YBs):=
 .ob (Ri a0 a1) fun r1=>
 .leaf r1
def Sj (a0:YBs) (a1:YBs):Option (YBs):=(Si a0 a1).val
def I9 (x2:(List YB)×(List YB)×Int×(List YB)×(List YB)×Int×Unit):Option (((List YB)×(List YB)×Int×(List YB)×(List YB)×Int×Unit)⊕((Int×(List YB)×Unit))):=
 letI u1:=x2.2.2;letI u2:=u1.2.2;Tree.val (α:=((List YB)×(List YB)×Int×(List YB)×(List YB)×Int×Unit)⊕((Int×(List YB)×Unit))) <|
 .br (decide ((x2.2.2.2.1.length:Int)<u1.1)) (
 .chk (decide (([]:List YB).length+x2.2.2.2.2.1.length≤4294967296)) <|
 .chk (decide ((([]:List YB)++u2.1).length+x2.2.1.length≤4294967296)) <|
 .chk (decide (((([]:List YB)++u2.1)++x2.2.1).length+[((u8.wrap (u2.2.1)),())].length≤4294967296)) <|
 .ob (Ri (x2.1,()) ((((([]:List YB)++u2.1)++x2.2.1)++[((u8.wrap (u2.2.1)),())]),())) fun r3=>
 .chk (decide (x2.2.2.2.1.length+r3.1.length≤4294967296)) <|
 .leaf (.inl (x2.1,x2.2.1,u1.1,(u1.2.1++r3.1),r3.1,(i64.wrap (u2.2.1+(1:Int))),()))) (
 .leaf (.inr (u1.1,u1.2.1,())))
def Acq (a0:YBs) (a1:YBs) (a2:YI):Tree (YBs×(Bool×Unit)):=
 .ob (By a2 ((0:Int),()) ((8160:Int),())) fun r1=>
 .br (!r1.1) (
 .leaf ((([]:List YB),()),(false,()))) (
 .br (decide ((a1.1.length:Int)>(100:Int))) (
 .leaf ((([]:List YB),()),(false,()))) (
 .br (decide ((a0.1.length:Int)>(1048576:Int))) (
 .leaf ((([]:List YB),()),(false,()))) (
 .ob (Ay I9 (a0.1,a1.1,a2.1,([]:List YB),([]:List YB),(1:Int),())) fun o4=>
 .chk (decide ((0:Int)≤o4.1)) <|
 .chk (decide (o4.1≤(o4.2.1.length:Int))) <|
 .chk (decide (([]:List YB).length+((o4.2.1.take (o4.1).toNat).drop ((0:Int)).toNat).length≤4294967296)) <|
 .leaf (((([]:List YB)++((o4.2.1.take (o4.1).toNat).drop ((0:Int)).toNat)),()),(true,())))))
def Acr (a0:YBs) (a1:YBs) (a2:YI):Option (YBs×(Bool×Unit)):=(Acq a0 a1 a2).val
def Acs (a0:YBs) (a1:ByteArray×Unit):Tree (YBs):=
 .chk (decide (a1.1.size≤4294967296)) <|
 .ob (Acr a0 ((Po a1.1),()) ((32:Int),())) fun r1=>
 .leaf r1.1
def Ct (a0:YBs) (a1:ByteArray×Unit):Option (YBs):=(Acs a0 a1).val
def Tx (a0:YBs):Tree (YBs):=
 .ob (Ov a0) fun r1=>
 .br (!r1.1) (
 .leaf (([]:List YB),())) (
 .ob (Sj ([((114:Int),()),((111:Int),()),((97:Int),()),((109:Int),())],()) a0) fun r2=>
 .ob (Ct r2 ((C6 [102,105,110,105,115,104]),())) fun r3=>
 .leaf r3)
def Tz (a0:YBs):Option (YBs):=(Tx a0).val
def T0 (a0:YI) (a1:YBs) (a2:YBs) (a3:YI) (a4:YBs):Tree (YBs):=
 .ob (By a0 ((1:Int),()) ((9:Int),())) fun r1=>
 .br (!r1.1) (
 .leaf (([]:List YB),())) (
 .br ((a1.1.length:Int) != (12:Int)) (
 .leaf (([]:List YB),())) (
 .br ((a2.1.length:Int) != (12:Int)) (
 .leaf (([]:List YB),())) (
 .ob (By a3 ((0:Int),()) ((1000000:Int),())) fun r2=>
 .br (!r2.1) (
 .leaf (([]:List YB),())) (
 .br ((a4.1.length:Int) != (16:Int)) (
 .leaf (([]:List YB),())) (
 .chk (decide ([((102:Int),()),((u8.wrap (a0.1)),())].length+a1.1.length≤4294967296)) <|
 .chk (decide (([((102:Int),()),((u8.wrap (a0.1)),())]++a1.1).length+a2.1.length≤4294967296)) <|
 .ob (Fy ((([((102:Int),()),((u8.wrap (a0.1)),())]++a1.1)++a2.1),()) a3 ((4:Int),())) fun r3=>
 .chk (decide (r3.1.length+a4.1.length≤4294967296)) <|
 .leaf ((r3.1++a4.1),()))))))
def T4 (a0:YI) (a1:YBs) (a2:YBs) (a3:YI) (a4:YBs):Option (YBs):=(T0 a0 a1 a2 a3 a4).val
def Apm (a0:YBs) (a1:YBs):Tree (YBs):=
 .ob (Ri a0 a1) fun r1=>
 .br (decide ((r1.1.length:Int)<(16:Int))) (
 .leaf (([]:List YB),())) (
 .chk (decide ((16:Int)≤(r1.1.length:Int))) <|
 .chk (decide (([]:List YB).length+((r1.1.take ((16:Int)).toNat).drop ((0:Int)).toNat).length≤4294967296)) <|
 .leaf ((([]:List YB)++((r1.1.take ((16:Int)).toNat).drop ((0:Int)).toNat)),()))
def Aja (a0:YBs) (a1:YBs):Option (YBs):=(Apm a0 a1).val
def Agt (a0:YBs) (a1:YI) (a2:YBs) (a3:YBs) (a4:YI) (a5:YBs):Tree (YBs):=
 .ob (Tz a0) fun r1=>
 .ob (T4 a1 a2 a3 a4 a5) fun r2=>
 .br ((r1.1.length:Int)==(0:Int)) (
 .leaf (([]:List YB),())) (
 .br ((r2.1.length:Int)==(0:Int)) (
 .leaf (([]:List YB),())) (
 .ob (Aja r1 r2) fun r3=>
 .leaf r3))
def Xg (a0:YBs) (a1:YI) (a2:YBs) (a3:YBs) (a4:YI) (a5:YBs):Option (YBs):=(Agt a0 a1 a2 a3 a4 a5).val
def Acu (a0:Au):Tree (Au):=
 letI u1:=a0.2.2.2;letI u2:=u1.2.2.2;.chk (decide (([]:List YB).length+a0.2.2.1.length≤4294967296)) <|
 .chk (decide (([]:List YB).length+a0.2.2.2.1.length≤4294967296)) <|
 .chk (decide (([]:List YB).length+a0.2.2.2.2.2.1.length≤4294967296)) <|
 .chk (decide (([]:List YB).length+a0.2.2.2.2.2.2.1.length≤4294967296)) <|
 .chk (decide (([]:List YB).length+a0.2.2.2.2.2.2.2.2.2.1.length≤4294967296)) <|
 .chk (decide (([]:List YB).length+a0.2.2.2.2.2.2.2.2.2.2.1.length≤4294967296)) <|
 .leaf (a0.1,a0.2.1,(([]:List YB)++a0.2.2.1),(([]:List YB)++u1.1),u1.2.1,(([]:List YB)++u1.2.2.1),(([]:List YB)++u2.1),u2.2.1,u2.2.2.1,(([]:List YB)++u2.2.2.2.1),(([]:List YB)++u2.2.2.2.2.1),())
def Ul (a0:Au):Option (Au):=(Acu a0).val
def Pp (a0:YBs) (a1:YI) (a2:Au):Tree (Au×(Bool×Unit)):=
 .ob (Nd a2) fun r1=>
 .br (!r1.1) (
 .leaf (((0:Int),(0:Int),([]:List YB),([]:List YB),(0:Int),([]:List YB),([]:List YB),(0:Int),(0:Int),([]:List YB),([]:List YB),()),(false,()))) (
 .br (a2.1 != (2:Int)) (
 .leaf (((0:Int),(0:Int),([]:List YB),([]:List YB),(0:Int),([]:List YB),([]:List YB),(0:Int),(0:Int),([]:List YB),([]:List YB),()),(false,()))) (
 .ob (Xg a0 a1 (a2.2.2.1,()) (a2.2.2.2.1,()) (a2.2.2.2.2.1,()) (a2.2.2.2.2.2.1,())) fun r2=>
 .br ((r2.1.length:Int)==(0:Int)) (
 .leaf (((0:Int),(0:Int),([]:List YB),([]:List YB),(0:Int),([]:List YB),([]:List YB),(0:Int),(0:Int),([]:List YB),([]:List YB),()),(false,()))) (
 .ob (Ul a2) fun r3=>letI u1:=r3.2.2.2;letI u2:=u1.2.2.2.2;
 .leaf (((3:Int),a1.1,r3.2.2.1,u1.1,u1.2.1,u1.2.2.1,r2.1,u2.1,u2.2.1,u2.2.2.1,u2.2.2.2.1,()),(true,())))))
def Ja (a0:YBs) (a1:YI) (a2:Au):Option (Au×(Bool×Unit)):=(Pp a0 a1 a2).val
def Agu (a0:Az) (a1:(List YI)×Unit):Tree (YI×Az):=
 .ob (Bj a0 ((a1.1.length:Int),())) fun r1=>
 .ob (idx a1.1 r1.1.1) fun e2=>
 .leaf (e2,(a0.1,r1.2.2.1,r1.2.2.2.1,()))
def Bz (a0:Az) (a1:(List YI)×Unit):Option (YI×Az):=(Agu a0 a1).val
def Vm (a0:YI):Tree (B7):=
 .ob (By a0 ((0:Int),()) ((255:Int),())) fun r1=>
 .br (!r1.1) (
 .leaf ((0:Int),(0:Int),())) (
 .leaf ((i64.wrap ((167772160:Int)+a0.1)),(i64.wrap ((7000:Int)+a0.1)),()))
def Hv (a0:YI):Option (B7):=(Vm a0).val
def Acv (a0:B7):Tree ((Bool×Unit)):=
 .ob (By (a0.1,()) ((0:Int),()) ((4294967295:Int),())) fun r1=>
 .br r1.1 (
 .ob (By (a0.2.1,()) ((0:Int),()) ((65535:Int),())) fun r2=>
 .leaf r2) (
 .leaf (false,()))
def J9 (a0:B7):Option ((Bool×Unit)):=(Acv a0).val
def Zy (a0:YBs) (a1:YBs) (a2:YBs):Tree (YBs):=
 .ob (Ov a0) fun r1=>
 .br (!r1.1) (
 .leaf (([]:List YB),())) (
 .br ((a1.1.length:Int) != (12:Int)) (
 .leaf (([]:List YB),())) (
 .br ((a2.1.length:Int) != (12:Int)) (
 .leaf (([]:List YB),())) (
 .chk (decide (([]:List YB).length+a1.1.length≤4294967296)) <|
 .chk (decide ((([]:List YB)++a1.1).length+a2.1.length≤4294967296)) <|
 .ob (Sj (((([]:List YB)++a1.1)++a2.1),()) a0) fun r2=>
 .leaf r2)))
def Zz (a0:YBs) (a1:YBs) (a2:YBs):Option (YBs):=(Zy a0 a1 a2).val
def Vn (a0:YBs):Tree (YBs):=
 .br ((a0.1.length:Int) != (32:Int)) (
 .leaf (([]:List YB),())) (
 .ob (Ct a0 ((C6 [101,112,111,99,104]),())) fun r1=>
 .leaf r1)
def Vo (a0:YBs):Option (YBs):=(Vn a0).val
def K6 (x2:Int×(List YB)×Int×Unit):Option ((Int×(List YB)×Int×Unit)⊕(YBs)):=
 Tree.val (α:=(Int×(List YB)×Int×Unit)⊕(YBs)) <|
 .br (decide (x2.2.2.1<x2.1)) (
 .ob (Ct (x2.2.1,()) ((C6 [114,101,107,101,121]),())) fun r3=>
 .leaf (.inl (x2.1,r3.1,(i64.wrap (x2.2.2.1+(1:Int))),()))) (
 .leaf (.inr (x2.2.1,())))
def Agv (a0:YBs) (a1:YI):Tree (YBs):=
 .ob (By a1 ((0:Int),()) ((64:Int),())) fun r1=>
 .br (!r1.1) (
 .leaf (([]:List YB),())) (
 .chk (decide (([]:List YB).length+a0.1.length≤4294967296)) <|
 .ob (Ay K6 (a1.1,(([]:List YB)++a0.1),(0:Int),())) fun o4=>
 .leaf o4)
def Agw (a0:YBs) (a1:YI):Option (YBs):=(Agv a0 a1).val
def Vp (a0:YBs) (a1:YBs) (a2:YBs) (a3:YI):Tree (YBs):=
 .ob (Zz a0 a1 a2) fun r1=>
 .ob (Vo r1) fun r2=>
 .br ((r2.1.length:Int)==(0:Int)) (
 .leaf r2) (
 .ob (Agw r2 a3) fun r3=>
 .leaf r3)
def Vq (a0:YBs) (a1:YBs) (a2:YBs) (a3:YI):Option (YBs):=(Vp a0 a1 a2 a3).val
def Jb (x1:Int×Int×(List YI)×Int×(List YI)×Unit):Option ((Int×Int×(List YI)×Int×(List YI)×Unit)⊕((Int×(List YI)×Int×(List YI)×Unit))):=
 letI u1:=x1.2.2;Tree.val (α:=(Int×Int×(List YI)×Int×(List YI)×Unit)⊕((Int×(List YI)×Int×(List YI)×Unit))) <|
 .br (decide (x1.1<(32:Int))) (
 .chk (decide (x1.2.2.2.2.1.length+[((0:Int),())].length≤4294967296)) <|
 .leaf (.inl ((i64.wrap (x1.1+(1:Int))),x1.2.1,u1.1,u1.2.1,(u1.2.2.1++[((0:Int),())]),()))) (
 .leaf (.inr (x1.2.1,u1.1,u1.2.1,u1.2.2.1,())))
def Acw:Tree (B5):=
 .ob (Ay Jb ((0:Int),(0:Int),([]:List YI),(-1:Int),([]:List YI),())) fun o2=>
 .leaf (o2.2.2.1,o2.2.2.2.1,())
def Um:Option (B5):=(Acw).val
def S7 (a0:YI) (a1:YBs):Tree (YEp):=
 .ob (By a0 ((0:Int),()) ((4294967295:Int),())) fun r1=>
 .br (!r1.1) (
 .leaf ((0:Int),([]:List YB),(0:Int),(0:Int),([]:List YI),())) (
 .br ((a1.1.length:Int) != (32:Int)) (
 .leaf ((0:Int),([]:List YB),(0:Int),(0:Int),([]:List YI),())) (
 .chk (decide (([]:List YB).length+a1.1.length≤4294967296)) <|
 .ob Um fun r2=>
 .leaf (a0.1,(([]:List YB)++a1.1),(0:Int),r2.1,r2.2.1,())))
def Ev (a0:YI) (a1:YBs):Option (YEp):=(S7 a0 a1).val
def Sl (a0:YI) (a1:YBs) (a2:YBs):Tree (Al):=
 .ob (By a0 ((0:Int),()) ((1:Int),())) fun r1=>
 .br (!r1.1) (
 .leaf ((0:Int),([]:List YB),(0:Int),([]:List YB),(0:Int),(0:Int),([]:List YI),(0:Int),([]:List YB),(0:Int),(0:Int),([]:List YI),false,(0:Int),([]:List YB),())) (
 .br ((a1.1.length:Int) != (12:Int)) (
 .leaf ((0:Int),([]:List YB),(0:Int),([]:List YB),(0:Int),(0:Int),([]:List YI),(0:Int),([]:List YB),(0:Int),(0:Int),([]:List YI),false,(0:Int),([]:List YB),())) (
 .br ((a2.1.length:Int) != (32:Int)) (
 .leaf ((0:Int),([]:List YB),(0:Int),([]:List YB),(0:Int),(0:Int),([]:List YI),(0:Int),([]:List YB),(0:Int),(0:Int),([]:List YI),false,(0:Int),([]:List YB),())) (
 .chk (decide (([]:List YB).length+a1.1.length≤4294967296)) <|
 .ob (Ev ((0:Int),()) a2) fun r2=>
 .leaf (a0.1,(([]:List YB)++a1.1),r2.1,r2.2.1,r2.2.2.1,r2.2.2.2.1,r2.2.2.2.2.1,(0:Int),([]:List YB),(0:Int),(0:Int),([]:List YI),false,(0:Int),([]:List YB),()))))
def Hi (a0:YI) (a1:YBs) (a2:YBs):Option (Al):=(Sl a0 a1 a2).val
def Agx (a0:B7):Tree (Bb):=
 .leaf (a0.1,a0.2.1,([]:List Ap),())
def Lq (a0:B7):Option (Bb):=(Agx a0).val
def Sm (a0:YBs) (a1:YI) (a2:B7) (a3:Au):Tree (Bp):=
 letI u1:=a3.2.2;.ob (Ov a0) fun r1=>
 .br (!r1.1) (
 .leaf ((0:Int),([]:List YB),([]:List YB),(0:Int),([]:List YB),(0:Int),([]:List YB),(0:Int),(0:Int),([]:List YI),(0:Int),([]:List YB),(0:Int),(0:Int),([]:List YI),false,(0:Int),([]:List YB),(0:Int),(0:Int),([]:List Ap),(0:Int),(0:Int),false,())) (
 .ob (By a1 ((0:Int),()) ((1000000:Int),())) fun r2=>
 .br (!r2.1) (
 .leaf ((0:Int),([]:List YB),([]:List YB),(0:Int),([]:List YB),(0:Int),([]:List YB),(0:Int),(0:Int),([]:List YI),(0:Int),([]:List YB),(0:Int),(0:Int),([]:List YI),false,(0:Int),([]:List YB),(0:Int),(0:Int),([]:List Ap),(0:Int),(0:Int),false,())) (
 .ob (J9 a2) fun r3=>
 .br (!r3.1) (
 .leaf ((0:Int),([]:List YB),([]:List YB),(0:Int),([]:List YB),(0:Int),([]:List YB),(0:Int),(0:Int),([]:List YI),(0:Int),([]:List YB),(0:Int),(0:Int),([]:List YI),false,(0:Int),([]:List YB),(0:Int),(0:Int),([]:List Ap),(0:Int),(0:Int),false,())) (
 .ob (Nd a3) fun r4=>
 .br (!r4.1) (
 .leaf ((0:Int),([]:List YB),([]:List YB),(0:Int),([]:List YB),(0:Int),([]:List YB),(0:Int),(0:Int),([]:List YI),(0:Int),([]:List YB),(0:Int),(0:Int),([]:List YI),false,(0:Int),([]:List YB),(0:Int),(0:Int),([]:List Ap),(0:Int),(0:Int),false,())) (
 .br (a3.1 != (3:Int)) (
 .leaf ((0:Int),([]:List YB),([]:List YB),(0:Int),([]:List YB),(0:Int),([]:List YB),(0:Int),(0:Int),([]:List YI),(0:Int),([]:List YB),(0:Int),(0:Int),([]:List YI),false,(0:Int),([]:List YB),(0:Int),(0:Int),([]:List Ap),(0:Int),(0:Int),false,())) (
 .chk (decide (([]:List YB).length+a3.2.2.1.length≤4294967296)) <|
 .chk (decide (([]:List YB).length+a3.2.2.2.1.length≤4294967296)) <|
 .ob (Vq a0 (u1.1,()) (u1.2.1,()) ((0:Int),())) fun r5=>
 .ob (Hi ((1:Int),()) (u1.2.1,()) r5) fun r6=>letI u2:=r6.2.2.2;letI u3:=u2.2.2.2;letI u4:=u3.2.2.2.2;
 .ob (Lq a2) fun r7=>
 .leaf (a3.2.1,(([]:List YB)++u1.1),(([]:List YB)++u1.2.1),r6.1,r6.2.1,r6.2.2.1,u2.1,u2.2.1,u2.2.2.1,u3.1,u3.2.1,u3.2.2.1,u3.2.2.2.1,u4.1,u4.2.1,u4.2.2.1,u4.2.2.2.1,u4.2.2.2.2.1,r7.1,r7.2.1,r7.2.2.1,u1.2.2.1,a1.1,false,()))))))
def Nf (a0:YBs) (a1:YI) (a2:B7) (a3:Au):Option (Bp):=(Sm a0 a1 a2 a3).val
def Acx (a0:Az) (a1:YI):Tree ((Bool×Unit)×Az):=
 .ob (Bj a0 a1) fun r1=>
 .leaf (((r1.1.1==(0:Int)),()),(a0.1,r1.2.2.1,r1.2.2.2.1,()))
def Ao (a0:Az) (a1:YI):Option ((Bool×Unit)×Az):=(Acx a0 a1).val
def Pq (x3:(List YI)×Int×Int×(List YB)×Int×Int×Unit):Option (((List YI)×Int×Int×(List YB)×Int×Int×Unit)⊕(((List YI)×(List YB)×Int×Int×Unit))):=
 letI u1:=x3.2.2.2;Tree.val (α:=((List YI)×Int×Int×(List YB)×Int×Int×Unit)⊕(((List YI)×(List YB)×Int×Int×Unit))) <|
 .br (decide (x3.2.2.1>(0:Int))) (
 .ob (Ao (u1.1,u1.2.1,u1.2.2.1,()) ((6:Int),())) fun r4=>
 .br r4.1.1 (
 .ob (Bz (u1.1,r4.2.2.1,r4.2.2.2.1,()) ([((1:Int),()),((32:Int),()),((900:Int),()),((1023:Int),()),((1024:Int),()),((1025:Int),()),((3000:Int),())],())) fun r5=>
 .ob (Bj (u1.1,r5.2.2.1,r5.2.2.2.1,()) ((40:Int),())) fun r6=>
 .ob (Bz (u1.1,r6.2.2.1,r6.2.2.2.1,()) ([((0:Int),()),((0:Int),()),((20:Int),()),((1000:Int),())],())) fun r7=>
 .chk (decide (x3.1.length+[((i64.wrap ((i64.wrap ((i64.wrap (x3.2.1+r5.1.1))+r6.1.1))-r7.1.1)),())].length≤4294967296)) <|
 .leaf (.inl ((x3.1++[((i64.wrap ((i64.wrap ((i64.wrap (x3.2.1+r5.1.1))+r6.1.1))-r7.1.1)),())]),(i64.wrap (x3.2.1+r5.1.1)),(i64.wrap (x3.2.2.1-(1:Int))),u1.1,r7.2.2.1,r7.2.2.2.1,()))) (
 .ob (Bj (u1.1,r4.2.2.1,r4.2.2.2.1,()) ((40:Int),())) fun r8=>
 .ob (Bz (u1.1,r8.2.2.1,r8.2.2.2.1,()) ([((0:Int),()),((0:Int),()),((20:Int),()),((1000:Int),())],())) fun r9=>
 .chk (decide (x3.1.length+[((i64.wrap ((i64.wrap (x3.2.1+r8.1.1))-r9.1.1)),())].length≤4294967296)) <|
 .leaf (.inl ((x3.1++[((i64.wrap ((i64.wrap (x3.2.1+r8.1.1))-r9.1.1)),())]),x3.2.1,(i64.wrap (x3.2.2.1-(1:Int))),u1.1,r9.2.2.1,r9.2.2.2.1,())))) (
 .leaf (.inr (x3.1,u1.1,u1.2.1,u1.2.2.1,())))
def Acy (a0:Az) (a1:YI):Tree (((List YI)×Unit)×Az):=
 .ob (Bz a0 ([((0:Int),()),((0:Int),()),((0:Int),()),((1000:Int),()),((5000:Int),()),((281474976710000:Int),())],())) fun r1=>
 .ob (Bj (a0.1,r1.2.2.1,r1.2.2.2.1,()) ((i64.wrap (a1.1+(1:Int))),())) fun r2=>
 .ob (Ay Pq (([]:List YI),r1.1.1,r2.1.1,a0.1,r2.2.2.1,r2.2.2.2.1,())) fun o10=>
 .ob (Ao (o10.2.1,o10.2.2.1,o10.2.2.2.1,()) ((5:Int),())) fun r11=>
 .br r11.1.1 (
 .ob (Bz (o10.2.1,r11.2.2.1,r11.2.2.2.1,()) ([((-1:Int),()),((281474976710655:Int),()),((281474976710656:Int),())],())) fun r12=>
 .chk (decide (o10.1.length+[r12.1].length≤4294967296)) <|
 .leaf (((o10.1++[r12.1]),()),(o10.2.1,r12.2.2.1,r12.2.2.2.1,()))) (
 .leaf ((o10.1,()),(o10.2.1,r11.2.2.1,r11.2.2.2.1,())))
def Acz (a0:Az) (a1:YI):Option (((List YI)×Unit)×Az):=(Acy a0 a1).val
def Amz (a0:B5):Tree (B5):=
 .chk (decide (([]:List YI).length+a0.2.1.length≤4294967296)) <|
 .leaf (a0.1,(([]:List YI)++a0.2.1),())
def Am0 (a0:B5):Option (B5):=(Amz a0).val
def Agy (a0:B5) (a1:YI):Tree ((Bool×Unit)):=
 .chk (decide ((0:Int)≤a1.1)) <|
 .chk (decide ((0:Int)≤(a1.1%(1024:Int)))) <|
 .ob (idx a0.2.1 ((a1.1%(1024:Int))/(32:Int))) fun e1=>
 .chk (decide ((0:Int)≤(a1.1%(1024:Int)))) <|
 .chk (decide ((0:Int)≤((a1.1%(1024:Int))%(32:Int)))) <|
 .leaf (((i64.wrap ((BitVec.ofInt (i64.bits) ((Int.fdiv e1.1 (2^(min (((a1.1%(1024:Int))%(32:Int))).toNat i64.bits)))) &&& BitVec.ofInt (i64.bits) ((1:Int))).toNat:Nat))==(1:Int)),())
def S8 (a0:B5) (a1:YI):Option ((Bool×Unit)):=(Agy a0 a1).val
def I1 (x2:Int×Int×(List YI)×Unit):Option ((Int×Int×(List YI)×Unit)⊕((Bool×Unit)⊕B5)):=
 Tree.val (α:=(Int×Int×(List YI)×Unit)⊕((Bool×Unit)⊕B5)) <|
 .br (decide (x2.1<(32:Int))) (
 .ob (idx x2.2.2.1 x2.1) fun e3=>
 .ob (By e3 ((0:Int),()) ((4294967295:Int),())) fun r4=>
 .br (!r4.1) (
 .leaf (.inr (.inl (false,())))) (
 .leaf (.inl ((i64.wrap (x2.1+(1:Int))),x2.2.1,x2.2.2.1,())))) (
 .leaf (.inr (.inr (x2.2.1,x2.2.2.1,()))))
def Ge (x9:Int×Int×(List YI)×Unit):Option ((Int×Int×(List YI)×Unit)⊕((Bool×Unit)⊕(Unit))):=
 Tree.val (α:=(Int×Int×(List YI)×Unit)⊕((Bool×Unit)⊕(Unit))) <|
 .br (decide (x9.1<(1024:Int))) (
 .ob (S8 (x9.2.1,x9.2.2.1,()) (x9.1,())) fun r10=>
 .br r10.1 (
 .leaf (.inr (.inl (false,())))) (
 .leaf (.inl ((i64.wrap (x9.1+(1:Int))),x9.2.1,x9.2.2.1,())))) (
 .leaf (.inr (.inr ())))
def Xh (a0:B5):Tree ((Bool×Unit)):=
 .br ((a0.2.1.length:Int) != (32:Int)) (
 .leaf (false,())) (
 .ob (By (a0.1,()) ((-1:Int),()) ((281474976710655:Int),())) fun r1=>
 .br (!r1.1) (
 .leaf (false,())) (
 .ob (Ay I1 ((0:Int),a0.1,a0.2.1,())) fun o5=>
 .sm o5 (fun o6=>
 .leaf o6) (fun o7=>
 .br (decide (o7.1≥(0:Int))) (
 .ob (S8 o7 (o7.1,())) fun r8=>
 .br (!r8.1) (
 .leaf (false,())) (
 .ob (Ay Ge ((i64.wrap (o7.1+(1:Int))),o7.1,o7.2.1,())) fun o11=>
 .sm o11 (fun o12=>
 .leaf o12) (fun o13=>
 .leaf (true,())))) (
 .ob (Ay Ge ((i64.wrap (o7.1+(1:Int))),o7.1,o7.2.1,())) fun o14=>
 .sm o14 (fun o15=>
 .leaf o15) (fun o16=>
 .leaf (true,()))))))
def Agz (a0:B5):Option ((Bool×Unit)):=(Xh a0).val
def Z0 (a0:YI):Tree (YI):=
 .br (decide (a0.1<(1024:Int))) (
 .leaf ((0:Int),())) (
 .leaf ((i64.wrap ((i64.wrap (a0.1-(1024:Int)))+(1:Int))),()))
def Ajz (a0:YI):Option (YI):=(Z0 a0).val
def Ac0 (a0:B5) (a1:YI):Tree ((Bool×Unit)):=
 .ob (Agz a0) fun r1=>
 .br (!r1.1) (
 .leaf (false,())) (
 .ob (By a1 ((0:Int),()) ((281474976710655:Int),())) fun r2=>
 .br (!r2.1) (
 .leaf (false,())) (
 .br (decide (a1.1>a0.1)) (
 .leaf (true,())) (
 .ob (Ajz (a0.1,())) fun r3=>
 .br (decide (a1.1≥r3.1)) (
 .ob (S8 a0 a1) fun r4=>
 .leaf ((!r4.1),())) (
 .leaf (false,())))))
def Ac1 (a0:B5) (a1:YI):Option ((Bool×Unit)):=(Ac0 a0 a1).val
def Jc (x3:Int×Int×Int×Int×(List YI)×Int×(List YI)×Int×(List YI)×Unit):Option ((Int×Int×Int×Int×(List YI)×Int×(List YI)×Int×(List YI)×Unit)⊕((Int×Int×(List YI)×Int×(List YI)×Int×(List YI)×Unit))):=
 letI u1:=x3.2.2;letI u2:=u1.2.2;letI u3:=u2.2.2;Tree.val (α:=(Int×Int×Int×Int×(List YI)×Int×(List YI)×Int×(List YI)×Unit)⊕((Int×Int×(List YI)×Int×(List YI)×Int×(List YI)×Unit))) <|
 .br (decide (u1.1≤x3.1)) (
 .br (decide (x3.2.1<(1024:Int))) (
 .chk (decide ((0:Int)≤u1.1)) <|
 .chk (decide ((0:Int)≤(u1.1%(1024:Int)))) <|
 .chk (decide ((0:Int)≤(u1.1%(1024:Int)))) <|
 .ob (idx u3.2.2.1 ((u1.1%(1024:Int))/(32:Int))) fun e4=>
 .chk (decide ((0:Int)≤(u1.1%(1024:Int)))) <|
 .chk (decide ((0:Int)≤((u1.1%(1024:Int))%(32:Int)))) <|
 .ob (idx u3.2.2.1 ((u1.1%(1024:Int))/(32:Int))) fun e5=>
 let q6:=(x3.2.2.2.2.2.2.2.2.1.set (((u1.1%(1024:Int))/(32:Int))).toNat ((i64.wrap ((BitVec.ofInt (i64.bits) (e4.1) &&& ~~~ BitVec.ofInt (i64.bits) ((i64.wrap ((1:Int)*2^(min (((u1.1%(1024:Int))%(32:Int))).toNat i64.bits))))).toNat:Nat)),()))
 .leaf (.inl (x3.1,(i64.wrap (x3.2.1+(1:Int))),(i64.wrap (u1.1+(1:Int))),u1.2.1,u2.1,u2.2.1,u3.1,u3.2.1,q6,()))) (
 .leaf (.inr (x3.1,u1.2.1,u2.1,u2.2.1,u3.1,u3.2.1,u3.2.2.1,())))) (
 .leaf (.inr (x3.1,u1.2.1,u2.1,u2.2.1,u3.1,u3.2.1,u3.2.2.1,())))
def Ac2 (a0:B5) (a1:YI):Tree (B5×(Bool×Unit)):=
 .ob (Am0 a0) fun r1=>
 .ob (Ac1 a0 a1) fun r2=>
 .br (!r2.1) (
 .leaf (r1,(false,()))) (
 .ob (Ay Jc (a1.1,(0:Int),(i64.wrap (a0.1+(1:Int))),a0.1,a0.2.1,(0:Int),([]:List YI),r1.1,r1.2.1,())) fun o7=>letI u1:=o7.2.2.2.2.2;
 .chk (decide ((0:Int)≤o7.1)) <|
 .chk (decide ((0:Int)≤(o7.1%(1024:Int)))) <|
 .chk (decide ((0:Int)≤(o7.1%(1024:Int)))) <|
 .ob (idx u1.2.1 ((o7.1%(1024:Int))/(32:Int))) fun e8=>
 .chk (decide ((0:Int)≤(o7.1%(1024:Int)))) <|
 .chk (decide ((0:Int)≤((o7.1%(1024:Int))%(32:Int)))) <|
 .ob (idx u1.2.1 ((o7.1%(1024:Int))/(32:Int))) fun e9=>
 let q10:=(o7.2.2.2.2.2.2.1.set (((o7.1%(1024:Int))/(32:Int))).toNat ((i64.wrap ((BitVec.ofInt (i64.bits) (e8.1) ||| BitVec.ofInt (i64.bits) ((i64.wrap ((1:Int)*2^(min (((o7.1%(1024:Int))%(32:Int))).toNat i64.bits))))).toNat:Nat)),()))
 .br (decide (o7.1>o7.2.1)) (
 .leaf ((o7.1,q10,()),(true,()))) (
 .leaf ((u1.1,q10,()),(true,()))))
def Un (a0:B5) (a1:YI):Option (B5×(Bool×Unit)):=(Ac2 a0 a1).val
def Ng (x2:(List YI)×Int×Int×(List YI)×Int×(List YI)×Unit):Option (((List YI)×Int×Int×(List YI)×Int×(List YI)×Unit)⊕((Int×(List YI)×Int×(List YI)×Unit))):=
 letI u1:=x2.2.2.2;Tree.val (α:=((List YI)×Int×Int×(List YI)×Int×(List YI)×Unit)⊕((Int×(List YI)×Int×(List YI)×Unit))) <|
 .br (decide (x2.2.1<(x2.1.length:Int))) (
 .ob (idx x2.1 x2.2.1) fun e3=>
 .ob (Un (u1.2.1,u1.2.2.1,()) e3) fun r4=>
 .leaf (.inl (x2.1,(i64.wrap (x2.2.1+(1:Int))),x2.2.2.1,u1.1,r4.1.1,r4.1.2.1,()))) (
 .leaf (.inr (x2.2.2.1,u1.1,u1.2.1,u1.2.2.1,())))
def Xi (a0:(List YI)×Unit):Tree (B5):=
 .ob Um fun r1=>
 .ob (Ay Ng (a0.1,(0:Int),(0:Int),([]:List YI),r1.1,r1.2.1,())) fun o5=>
 .leaf (o5.2.2.1,o5.2.2.2.1,())
def S9 (a0:(List YI)×Unit):Option (B5):=(Xi a0).val
def Uo (a0:Az):Tree (B5×Az):=
 .ob (Acz a0 ((12:Int),())) fun r1=>
 .ob (S9 r1.1) fun r2=>
 .leaf (r2,(a0.1,r1.2.2.1,r1.2.2.2.1,()))
def Pr (a0:Az):Option (B5×Az):=(Uo a0).val
def So (a0:Az) (a1:YI):Tree (Al×Az):=
 .ob (Dr a0 ((12:Int),())) fun r1=>
 .ob (Dr (a0.1,r1.2.2.1,r1.2.2.2.1,()) ((32:Int),())) fun r2=>
 .ob (Hi a1 r1.1 r2.1) fun r3=>letI u1:=r3.2.2.2;letI u2:=u1.2.2;letI u3:=u2.2.2;letI u4:=u3.2.2;letI u5:=u4.2.2;letI u6:=u5.2.2.2;
 .ob (Bz (a0.1,r2.2.2.1,r2.2.2.2.1,()) ([((0:Int),()),((0:Int),()),((3:Int),()),((281474976709656:Int),()),((281474976710656:Int),())],())) fun r4=>
 .ob (Ao (a0.1,r4.2.2.1,r4.2.2.2.1,()) ((3:Int),())) fun r5=>
 .br r5.1.1 (
 .ob (Pr (a0.1,r5.2.2.1,r5.2.2.2.1,())) fun r6=>
 .ob (Ao (a0.1,r6.2.2.1,r6.2.2.2.1,()) ((2:Int),())) fun r7=>letI u7:=r7.2.2;
 .br r7.1.1 (
 .ob (Bz (a0.1,u7.1,u7.2.1,()) ([((1:Int),()),((1:Int),()),((2:Int),()),((4294967295:Int),())],())) fun r8=>
 .ob (Ct (u1.1,()) ((C6 [114,101,107,101,121]),())) fun r9=>
 .ob (Ev r8.1 r9) fun r10=>letI u8:=r10.2.2;letI u9:=u8.2.2;
 .ob (Bz (a0.1,r8.2.2.1,r8.2.2.2.1,()) ([((-1:Int),()),((0:Int),()),((5:Int),()),((7:Int),()),((1000005:Int),())],())) fun r11=>letI u10:=r11.2.2;
 .br (a1.1==(0:Int)) (
 .br (decide (r11.1.1<(0:Int))) (
 .br (a1.1==(0:Int)) (
 .br (decide (r10.1<(4294967295:Int))) (
 .ob (Ao (a0.1,u10.1,u10.2.1,()) ((2:Int),())) fun r12=>
 .br r12.1.1 (
 .ob (Ct (r10.2.1,()) ((C6 [114,101,107,101,121]),())) fun r13=>
 .leaf ((r3.1,r3.2.1,r10.1,r10.2.1,u8.1,u8.2.1,u9.1,(i64.wrap (r10.1-(1:Int))),u1.1,r4.1.1,r6.1.1,r6.1.2.1,true,(5:Int),r13.1,()),(a0.1,r12.2.2.1,r12.2.2.2.1,()))) (
 .leaf ((r3.1,r3.2.1,r10.1,r10.2.1,u8.1,u8.2.1,u9.1,(i64.wrap (r10.1-(1:Int))),u1.1,r4.1.1,r6.1.1,r6.1.2.1,true,(5:Int),u6.1,()),(a0.1,r12.2.2.1,r12.2.2.2.1,())))) (
 .leaf ((r3.1,r3.2.1,r10.1,r10.2.1,u8.1,u8.2.1,u9.1,(i64.wrap (r10.1-(1:Int))),u1.1,r4.1.1,r6.1.1,r6.1.2.1,true,(5:Int),u6.1,()),(a0.1,u10.1,u10.2.1,())))) (
 .leaf ((r3.1,r3.2.1,r10.1,r10.2.1,u8.1,u8.2.1,u9.1,(i64.wrap (r10.1-(1:Int))),u1.1,r4.1.1,r6.1.1,r6.1.2.1,true,(5:Int),u6.1,()),(a0.1,u10.1,u10.2.1,())))) (
 .br (a1.1==(0:Int)) (
 .br (decide (r10.1<(4294967295:Int))) (
 .ob (Ao (a0.1,u10.1,u10.2.1,()) ((2:Int),())) fun r14=>
 .br r14.1.1 (
 .ob (Ct (r10.2.1,()) ((C6 [114,101,107,101,121]),())) fun r15=>
 .leaf ((r3.1,r3.2.1,r10.1,r10.2.1,u8.1,u8.2.1,u9.1,(i64.wrap (r10.1-(1:Int))),u1.1,r4.1.1,r6.1.1,r6.1.2.1,true,r11.1.1,r15.1,()),(a0.1,r14.2.2.1,r14.2.2.2.1,()))) (
 .leaf ((r3.1,r3.2.1,r10.1,r10.2.1,u8.1,u8.2.1,u9.1,(i64.wrap (r10.1-(1:Int))),u1.1,r4.1.1,r6.1.1,r6.1.2.1,true,r11.1.1,u6.1,()),(a0.1,r14.2.2.1,r14.2.2.2.1,())))) (
 .leaf ((r3.1,r3.2.1,r10.1,r10.2.1,u8.1,u8.2.1,u9.1,(i64.wrap (r10.1-(1:Int))),u1.1,r4.1.1,r6.1.1,r6.1.2.1,true,r11.1.1,u6.1,()),(a0.1,u10.1,u10.2.1,())))) (
 .leaf ((r3.1,r3.2.1,r10.1,r10.2.1,u8.1,u8.2.1,u9.1,(i64.wrap (r10.1-(1:Int))),u1.1,r4.1.1,r6.1.1,r6.1.2.1,true,r11.1.1,u6.1,()),(a0.1,u10.1,u10.2.1,()))))) (
 .br (a1.1==(0:Int)) (
 .br (decide (r10.1<(4294967295:Int))) (
 .ob (Ao (a0.1,u10.1,u10.2.1,()) ((2:Int),())) fun r16=>
 .br r16.1.1 (
 .ob (Ct (r10.2.1,()) ((C6 [114,101,107,101,121]),())) fun r17=>
 .leaf ((r3.1,r3.2.1,r10.1,r10.2.1,u8.1,u8.2.1,u9.1,(i64.wrap (r10.1-(1:Int))),u1.1,r4.1.1,r6.1.1,r6.1.2.1,true,r11.1.1,r17.1,()),(a0.1,r16.2.2.1,r16.2.2.2.1,()))) (
 .leaf ((r3.1,r3.2.1,r10.1,r10.2.1,u8.1,u8.2.1,u9.1,(i64.wrap (r10.1-(1:Int))),u1.1,r4.1.1,r6.1.1,r6.1.2.1,true,r11.1.1,u6.1,()),(a0.1,r16.2.2.1,r16.2.2.2.1,())))) (
 .leaf ((r3.1,r3.2.1,r10.1,r10.2.1,u8.1,u8.2.1,u9.1,(i64.wrap (r10.1-(1:Int))),u1.1,r4.1.1,r6.1.1,r6.1.2.1,true,r11.1.1,u6.1,()),(a0.1,u10.1,u10.2.1,())))) (
 .leaf ((r3.1,r3.2.1,r10.1,r10.2.1,u8.1,u8.2.1,u9.1,(i64.wrap (r10.1-(1:Int))),u1.1,r4.1.1,r6.1.1,r6.1.2.1,true,r11.1.1,u6.1,()),(a0.1,u10.1,u10.2.1,()))))) (
 .br (a1.1==(0:Int)) (
 .br (decide (r3.2.2.1<(4294967295:Int))) (
 .ob (Ao (a0.1,u7.1,u7.2.1,()) ((2:Int),())) fun r18=>
 .br r18.1.1 (
 .ob (Ct (u1.1,()) ((C6 [114,101,107,101,121]),())) fun r19=>
 .leaf ((r3.1,r3.2.1,r3.2.2.1,u1.1,r4.1.1,r6.1.1,r6.1.2.1,u3.1,u3.2.1,u4.1,u4.2.1,u5.1,u5.2.1,u5.2.2.1,r19.1,()),(a0.1,r18.2.2.1,r18.2.2.2.1,()))) (
 .leaf ((r3.1,r3.2.1,r3.2.2.1,u1.1,r4.1.1,r6.1.1,r6.1.2.1,u3.1,u3.2.1,u4.1,u4.2.1,u5.1,u5.2.1,u5.2.2.1,u6.1,()),(a0.1,r18.2.2.1,r18.2.2.2.1,())))) (
 .leaf ((r3.1,r3.2.1,r3.2.2.1,u1.1,r4.1.1,r6.1.1,r6.1.2.1,u3.1,u3.2.1,u4.1,u4.2.1,u5.1,u5.2.1,u5.2.2.1,u6.1,()),(a0.1,u7.1,u7.2.1,())))) (
 .leaf ((r3.1,r3.2.1,r3.2.2.1,u1.1,r4.1.1,r6.1.1,r6.1.2.1,u3.1,u3.2.1,u4.1,u4.2.1,u5.1,u5.2.1,u5.2.2.1,u6.1,()),(a0.1,u7.1,u7.2.1,()))))) (
 .ob (Ao (a0.1,r5.2.2.1,r5.2.2.2.1,()) ((2:Int),())) fun r20=>letI u11:=r20.2.2;
 .br r20.1.1 (
 .ob (Bz (a0.1,u11.1,u11.2.1,()) ([((1:Int),()),((1:Int),()),((2:Int),()),((4294967295:Int),())],())) fun r21=>
 .ob (Ct (u1.1,()) ((C6 [114,101,107,101,121]),())) fun r22=>
 .ob (Ev r21.1 r22) fun r23=>letI u12:=r23.2.2;letI u13:=u12.2.2;
 .ob (Bz (a0.1,r21.2.2.1,r21.2.2.2.1,()) ([((-1:Int),()),((0:Int),()),((5:Int),()),((7:Int),()),((1000005:Int),())],())) fun r24=>letI u14:=r24.2.2;
 .br (a1.1==(0:Int)) (
 .br (decide (r24.1.1<(0:Int))) (
 .br (a1.1==(0:Int)) (
 .br (decide (r23.1<(4294967295:Int))) (
 .ob (Ao (a0.1,u14.1,u14.2.1,()) ((2:Int),())) fun r25=>
 .br r25.1.1 (
 .ob (Ct (r23.2.1,()) ((C6 [114,101,107,101,121]),())) fun r26=>
 .leaf ((r3.1,r3.2.1,r23.1,r23.2.1,u12.1,u12.2.1,u13.1,(i64.wrap (r23.1-(1:Int))),u1.1,r4.1.1,u2.1,u2.2.1,true,(5:Int),r26.1,()),(a0.1,r25.2.2.1,r25.2.2.2.1,()))) (
 .leaf ((r3.1,r3.2.1,r23.1,r23.2.1,u12.1,u12.2.1,u13.1,(i64.wrap (r23.1-(1:Int))),u1.1,r4.1.1,u2.1,u2.2.1,true,(5:Int),u6.1,()),(a0.1,r25.2.2.1,r25.2.2.2.1,())))) (
 .leaf ((r3.1,r3.2.1,r23.1,r23.2.1,u12.1,u12.2.1,u13.1,(i64.wrap (r23.1-(1:Int))),u1.1,r4.1.1,u2.1,u2.2.1,true,(5:Int),u6.1,()),(a0.1,u14.1,u14.2.1,())))) (
 .leaf ((r3.1,r3.2.1,r23.1,r23.2.1,u12.1,u12.2.1,u13.1,(i64.wrap (r23.1-(1:Int))),u1.1,r4.1.1,u2.1,u2.2.1,true,(5:Int),u6.1,()),(a0.1,u14.1,u14.2.1,())))) (
 .br (a1.1==(0:Int)) (
 .br (decide (r23.1<(4294967295:Int))) (
 .ob (Ao (a0.1,u14.1,u14.2.1,()) ((2:Int),())) fun r27=>
 .br r27.1.1 (
 .ob (Ct (r23.2.1,()) ((C6 [114,101,107,101,121]),())) fun r28=>
 .leaf ((r3.1,r3.2.1,r23.1,r23.2.1,u12.1,u12.2.1,u13.1,(i64.wrap (r23.1-(1:Int))),u1.1,r4.1.1,u2.1,u2.2.1,true,r24.1.1,r28.1,()),(a0.1,r27.2.2.1,r27.2.2.2.1,()))) (
 .leaf ((r3.1,r3.2.1,r23.1,r23.2.1,u12.1,u12.2.1,u13.1,(i64.wrap (r23.1-(1:Int))),u1.1,r4.1.1,u2.1,u2.2.1,true,r24.1.1,u6.1,()),(a0.1,r27.2.2.1,r27.2.2.2.1,())))) (
 .leaf ((r3.1,r3.2.1,r23.1,r23.2.1,u12.1,u12.2.1,u13.1,(i64.wrap (r23.1-(1:Int))),u1.1,r4.1.1,u2.1,u2.2.1,true,r24.1.1,u6.1,()),(a0.1,u14.1,u14.2.1,())))) (
 .leaf ((r3.1,r3.2.1,r23.1,r23.2.1,u12.1,u12.2.1,u13.1,(i64.wrap (r23.1-(1:Int))),u1.1,r4.1.1,u2.1,u2.2.1,true,r24.1.1,u6.1,()),(a0.1,u14.1,u14.2.1,()))))) (
 .br (a1.1==(0:Int)) (
 .br (decide (r23.1<(4294967295:Int))) (
 .ob (Ao (a0.1,u14.1,u14.2.1,()) ((2:Int),())) fun r29=>
 .br r29.1.1 (
 .ob (Ct (r23.2.1,()) ((C6 [114,101,107,101,121]),())) fun r30=>
 .leaf ((r3.1,r3.2.1,r23.1,r23.2.1,u12.1,u12.2.1,u13.1,(i64.wrap (r23.1-(1:Int))),u1.1,r4.1.1,u2.1,u2.2.1,true,r24.1.1,r30.1,()),(a0.1,r29.2.2.1,r29.2.2.2.1,()))) (
 .leaf ((r3.1,r3.2.1,r23.1,r23.2.1,u12.1,u12.2.1,u13.1,(i64.wrap (r23.1-(1:Int))),u1.1,r4.1.1,u2.1,u2.2.1,true,r24.1.1,u6.1,()),(a0.1,r29.2.2.1,r29.2.2.2.1,())))) (
 .leaf ((r3.1,r3.2.1,r23.1,r23.2.1,u12.1,u12.2.1,u13.1,(i64.wrap (r23.1-(1:Int))),u1.1,r4.1.1,u2.1,u2.2.1,true,r24.1.1,u6.1,()),(a0.1,u14.1,u14.2.1,())))) (
 .leaf ((r3.1,r3.2.1,r23.1,r23.2.1,u12.1,u12.2.1,u13.1,(i64.wrap (r23.1-(1:Int))),u1.1,r4.1.1,u2.1,u2.2.1,true,r24.1.1,u6.1,()),(a0.1,u14.1,u14.2.1,()))))) (
 .br (a1.1==(0:Int)) (
 .br (decide (r3.2.2.1<(4294967295:Int))) (
 .ob (Ao (a0.1,u11.1,u11.2.1,()) ((2:Int),())) fun r31=>
 .br r31.1.1 (
 .ob (Ct (u1.1,()) ((C6 [114,101,107,101,121]),())) fun r32=>
 .leaf ((r3.1,r3.2.1,r3.2.2.1,u1.1,r4.1.1,u2.1,u2.2.1,u3.1,u3.2.1,u4.1,u4.2.1,u5.1,u5.2.1,u5.2.2.1,r32.1,()),(a0.1,r31.2.2.1,r31.2.2.2.1,()))) (
 .leaf ((r3.1,r3.2.1,r3.2.2.1,u1.1,r4.1.1,u2.1,u2.2.1,u3.1,u3.2.1,u4.1,u4.2.1,u5.1,u5.2.1,u5.2.2.1,u6.1,()),(a0.1,r31.2.2.1,r31.2.2.2.1,())))) (
 .leaf ((r3.1,r3.2.1,r3.2.2.1,u1.1,r4.1.1,u2.1,u2.2.1,u3.1,u3.2.1,u4.1,u4.2.1,u5.1,u5.2.1,u5.2.2.1,u6.1,()),(a0.1,u11.1,u11.2.1,())))) (
 .leaf ((r3.1,r3.2.1,r3.2.2.1,u1.1,r4.1.1,u2.1,u2.2.1,u3.1,u3.2.1,u4.1,u4.2.1,u5.1,u5.2.1,u5.2.2.1,u6.1,()),(a0.1,u11.1,u11.2.1,())))))
def Nh (a0:Az) (a1:YI):Option (Al×Az):=(So a0 a1).val
def F0 (x6:Int×Int×Int×Int×(List Ap)×Int×Int×(List YB)×Int×Unit):Option ((Int×Int×Int×Int×(List Ap)×Int×Int×(List YB)×Int×Unit)⊕((Bool×Unit)⊕(Int×Int×Int×(List Ap)×Unit))):=
 letI u1:=x6.2.2;letI u2:=u1.2.2;Tree.val (α:=(Int×Int×Int×Int×(List Ap)×Int×Int×(List YB)×Int×Unit)⊕((Bool×Unit)⊕(Int×Int×Int×(List Ap)×Unit))) <|
 .br (decide (x6.2.1<x6.1)) (
 .ob (idx u2.1 x6.2.1) fun e7=>
 .br (and (e7.1==u2.2.1) (and (e7.2.1==u2.2.2.1) true)) (
 .leaf (.inr (.inl (false,())))) (
 .leaf (.inl (x6.1,(i64.wrap (x6.2.1+(1:Int))),u1.1,u1.2.1,u2.1,u2.2.1,u2.2.2.1,u2.2.2.2.1,u2.2.2.2.2.1,())))) (
 .leaf (.inr (.inr (x6.1,u1.1,u1.2.1,u2.1,()))))
def H9 (x2:Int×Int×Int×(List Ap)×Unit):Option ((Int×Int×Int×(List Ap)×Unit)⊕((Bool×Unit)⊕(Unit))):=
 Tree.val (α:=(Int×Int×Int×(List Ap)×Unit)⊕((Bool×Unit)⊕(Unit))) <|
 .br (decide (x2.1<(x2.2.2.2.1.length:Int))) (
 .ob (idx x2.2.2.2.1 x2.1) fun e3=>
 .ob (J9 (e3.1,e3.2.1,())) fun r4=>
 .br (!r4.1) (
 .leaf (.inr (.inl (false,())))) (
 .br ((e3.2.2.1.length:Int) != (12:Int)) (
 .leaf (.inr (.inl (false,())))) (
 .ob (By (e3.2.2.2.1,()) ((0:Int),()) ((1000006:Int),())) fun r5=>
 .br (!r5.1) (
 .leaf (.inr (.inl (false,())))) (
 .br (and (e3.1==x2.2.1) (and (e3.2.1==x2.2.2.1) true)) (
 .leaf (.inr (.inl (false,())))) (
 .ob (Ay F0 (x2.1,(0:Int),x2.2.1,x2.2.2.1,x2.2.2.2.1,e3.1,e3.2.1,e3.2.2.1,e3.2.2.2.1,())) fun o8=>
 .sm o8 (fun o9=>
 .leaf (.inr (.inl o9))) (fun o10=>
 .leaf (.inl ((i64.wrap (o10.1+(1:Int))),o10.2.1,o10.2.2.1,o10.2.2.2.1,())))))))) (
 .leaf (.inr (.inr ())))
def Sp (a0:Bb):Tree ((Bool×Unit)):=
 .ob (J9 (a0.1,a0.2.1,())) fun r1=>
 .br (!r1.1) (
 .leaf (false,())) (
 .br (decide ((a0.2.2.1.length:Int)>(3:Int))) (
 .leaf (false,())) (
 .ob (Ay H9 ((0:Int),a0.1,a0.2.1,a0.2.2.1,())) fun o11=>
 .sm o11 (fun o12=>
 .leaf o12) (fun o13=>
 .leaf (true,()))))
def Sq (a0:Bb):Option ((Bool×Unit)):=(Sp a0).val
def Z1 (a0:Ap):Tree (Ap):=
 .chk (decide (([]:List YB).length+a0.2.2.1.length≤4294967296)) <|
 .leaf (a0.1,a0.2.1,(([]:List YB)++a0.2.2.1),a0.2.2.2.1,())
def Sr (a0:Ap):Option (Ap):=(Z1 a0).val
def Ia (x1:Int×Int×Int×(List Ap)×Int×Int×(List Ap)×Int×Int×(List Ap)×Unit):Option ((Int×Int×Int×(List Ap)×Int×Int×(List Ap)×Int×Int×(List Ap)×Unit)⊕((Int×Int×(List Ap)×Int×Int×(List Ap)×Unit))):=
 letI u1:=x1.2.2.2;letI u2:=u1.2.2;letI u3:=u2.2.2;Tree.val (α:=(Int×Int×Int×(List Ap)×Int×Int×(List Ap)×Int×Int×(List Ap)×Unit)⊕((Int×Int×(List Ap)×Int×Int×(List Ap)×Unit))) <|
 .br (decide (x1.1<(x1.2.2.2.1.length:Int))) (
 .ob (idx u1.1 x1.1) fun e2=>
 .ob (Sr e2) fun r3=>
 .chk (decide (x1.2.2.2.2.2.2.2.2.2.1.length+[r3].length≤4294967296)) <|
 .leaf (.inl ((i64.wrap (x1.1+(1:Int))),x1.2.1,x1.2.2.1,u1.1,u1.2.1,u2.1,u2.2.1,u3.1,u3.2.1,(u3.2.2.1++[r3]),()))) (
 .leaf (.inr (u1.2.1,u2.1,u2.2.1,u3.1,u3.2.1,u3.2.2.1,())))
def Z2 (a0:Bb):Tree (Bb):=
 .ob (Ay Ia ((0:Int),a0.1,a0.2.1,a0.2.2.1,(0:Int),(0:Int),([]:List Ap),a0.1,a0.2.1,([]:List Ap),())) fun o4=>
 .leaf (o4.2.2.2.1,o4.2.2.2.2.1,o4.2.2.2.2.2.1,())
def D3 (a0:Bb):Option (Bb):=(Z2 a0).val
def Ho (x5:Int×Int×Int×Int×(List Ap)×Int×Int×(List Ap)×Int×Int×(List Ap)×Unit):Option ((Int×Int×Int×Int×(List Ap)×Int×Int×(List Ap)×Int×Int×(List Ap)×Unit)⊕((Int×Int×(List Ap)×Int×Int×(List Ap)×Unit))):=
 letI u1:=x5.2.2;letI u2:=u1.2.2;letI u3:=u2.2.2;letI u4:=u3.2.2;Tree.val (α:=(Int×Int×Int×Int×(List Ap)×Int×Int×(List Ap)×Int×Int×(List Ap)×Unit)⊕((Int×Int×(List Ap)×Int×Int×(List Ap)×Unit))) <|
 .br (decide (x5.2.1<(x5.2.2.2.2.1.length:Int))) (
 .ob (idx u2.1 x5.2.1) fun e6=>
 .br (decide (e6.2.2.2.1≥x5.1)) (
 .ob (idx u2.1 x5.2.1) fun e7=>
 .ob (Sr e7) fun r8=>
 .chk (decide (x5.2.2.2.2.2.2.2.2.2.2.1.length+[r8].length≤4294967296)) <|
 .leaf (.inl (x5.1,(i64.wrap (x5.2.1+(1:Int))),u1.1,u1.2.1,u2.1,u2.2.1,u3.1,u3.2.1,u4.1,u4.2.1,(u4.2.2.1++[r8]),()))) (
 .leaf (.inl (x5.1,(i64.wrap (x5.2.1+(1:Int))),u1.1,u1.2.1,u2.1,u2.2.1,u3.1,u3.2.1,u4.1,u4.2.1,u4.2.2.1,())))) (
 .leaf (.inr (u2.2.1,u3.1,u3.2.1,u4.1,u4.2.1,u4.2.2.1,())))
def Vr (a0:Bb) (a1:YI):Tree (Bb):=
 .ob (Sq a0) fun r1=>
 .br (!r1.1) (
 .ob (D3 a0) fun r2=>
 .leaf r2) (
 .ob (By a1 ((0:Int),()) ((1000000:Int),())) fun r3=>
 .br (!r3.1) (
 .ob (D3 a0) fun r4=>
 .leaf r4) (
 .ob (Ay Ho (a1.1,(0:Int),a0.1,a0.2.1,a0.2.2.1,(0:Int),(0:Int),([]:List Ap),a0.1,a0.2.1,([]:List Ap),())) fun o9=>
 .leaf (o9.2.2.2.1,o9.2.2.2.2.1,o9.2.2.2.2.2.1,())))
def Vs (a0:Bb) (a1:YI):Option (Bb):=(Vr a0 a1).val
def K7 (x10:Int×(List YB)×Int×Int×Int×(List Ap)×Int×Int×Int×Int×(List Ap)×Int×Int×(List Ap)×Unit):Option ((Int×(List YB)×Int×Int×Int×(List Ap)×Int×Int×Int×Int×(List Ap)×Int×Int×(List Ap)×Unit)⊕((Bool×Int×Int×(List Ap)×Unit)⊕(Int×(List YB)×Int×Int×(List Ap)×Int×Int×Int×Int×(List Ap)×Int×Int×(List Ap)×Unit))):=
 letI u1:=x10.2.2;letI u2:=u1.2.2;letI u3:=u2.2.2;letI u4:=u3.2.2;letI u5:=u4.2.2;letI u6:=u5.2.2;Tree.val (α:=(Int×(List YB)×Int×Int×Int×(List Ap)×Int×Int×Int×Int×(List Ap)×Int×Int×(List Ap)×Unit)⊕((Bool×Int×Int×(List Ap)×Unit)⊕(Int×(List YB)×Int×Int×(List Ap)×Int×Int×Int×Int×(List Ap)×Int×Int×(List Ap)×Unit))) <|
 .br (decide (u1.1<(x10.2.2.2.2.2.2.2.2.2.2.2.2.2.1.length:Int))) (
 .ob (idx u6.2.1 u1.1) fun e11=>
 .br (and (e11.1==u3.1) (and (e11.2.1==u3.2.1) true)) (
 .ob (D3 (u1.2.1,u2.1,u2.2.1,())) fun r12=>
 .leaf (.inr (.inl (false,r12.1,r12.2.1,r12.2.2.1,())))) (
 .leaf (.inl (x10.1,x10.2.1,(i64.wrap (u1.1+(1:Int))),u1.2.1,u2.1,u2.2.1,u3.1,u3.2.1,u4.1,u4.2.1,u5.1,u5.2.1,u6.1,u6.2.1,())))) (
 .leaf (.inr (.inr (x10.1,x10.2.1,u1.2.1,u2.1,u2.2.1,u3.1,u3.2.1,u4.1,u4.2.1,u5.1,u5.2.1,u6.1,u6.2.1,()))))
def Ag0 (a0:Bb) (a1:YI) (a2:B7) (a3:YBs):Tree (Bb×(Bool×Unit)):=
 .ob (Sq a0) fun r1=>
 .br (!r1.1) (
 .ob (D3 a0) fun r2=>
 .leaf (r2,(false,()))) (
 .ob (By a1 ((0:Int),()) ((1000000:Int),())) fun r3=>
 .br (!r3.1) (
 .ob (D3 a0) fun r4=>
 .leaf (r4,(false,()))) (
 .ob (J9 a2) fun r5=>
 .br (!r5.1) (
 .ob (D3 a0) fun r6=>
 .leaf (r6,(false,()))) (
 .br ((a3.1.length:Int) != (12:Int)) (
 .ob (D3 a0) fun r7=>
 .leaf (r7,(false,()))) (
 .br (and (a2.1==a0.1) (and (a2.2.1==a0.2.1) true)) (
 .ob (D3 a0) fun r8=>
 .leaf (r8,(false,()))) (
 .ob (Vs a0 a1) fun r9=>
 .ob (Ay K7 (a1.1,a3.1,(0:Int),a0.1,a0.2.1,a0.2.2.1,a2.1,a2.2.1,(0:Int),(0:Int),([]:List Ap),r9.1,r9.2.1,r9.2.2.1,())) fun o13=>
 .sm o13 (fun o14=>
 .leaf ((o14.2.1,o14.2.2.1,o14.2.2.2.1,()),(o14.1,()))) (fun o15=>letI u1:=o15.2.2;letI u2:=u1.2.2.2;letI u3:=u2.2.2.2.2.2;
 .br ((o15.2.2.2.2.2.2.2.2.2.2.2.2.1.length:Int)==(3:Int)) (
 .ob (D3 (u1.1,u1.2.1,u1.2.2.1,())) fun r16=>
 .leaf (r16,(false,()))) (
 .chk (decide (([]:List YB).length+o15.2.1.length≤4294967296)) <|
 .chk (decide (o15.2.2.2.2.2.2.2.2.2.2.2.2.1.length+[(u2.1,u2.2.1,(([]:List YB)++o15.2.1),(i64.wrap (o15.1+(6:Int))),())].length≤4294967296)) <|
 .leaf ((u3.1,u3.2.1,(u3.2.2.1++[(u2.1,u2.2.1,(([]:List YB)++o15.2.1),(i64.wrap (o15.1+(6:Int))),())]),()),(true,())))))))))
def Fa (a0:Bb) (a1:YI) (a2:B7) (a3:YBs):Option (Bb×(Bool×Unit)):=(Ag0 a0 a1 a2 a3).val
def N5 (x6:Int×Int×(List YB)×Int×Int×Int×Int×(List Ap)×Int×Int×(List Ap)×Unit):Option ((Int×Int×(List YB)×Int×Int×Int×Int×(List Ap)×Int×Int×(List Ap)×Unit)⊕(((List YB)×Int×Int×Int×Int×(List Ap)×Int×Int×(List Ap)×Unit))):=
 letI u1:=x6.2.2;letI u2:=u1.2.2;letI u3:=u2.2.2;letI u4:=u3.2.2;Tree.val (α:=(Int×Int×(List YB)×Int×Int×Int×Int×(List Ap)×Int×Int×(List Ap)×Unit)⊕(((List YB)×Int×Int×Int×Int×(List Ap)×Int×Int×(List Ap)×Unit))) <|
 .br (decide (x6.2.1>(0:Int))) (
 .ob (Bj (u1.1,u1.2.1,u2.1,()) ((7:Int),())) fun r7=>
 .ob (Hv r7.1) fun r8=>
 .ob (Dr (u1.1,r7.2.2.1,r7.2.2.2.1,()) ((12:Int),())) fun r9=>
 .ob (Fa (u4.1,u4.2.1,u4.2.2.1,()) (x6.1,()) r8 r9.1) fun r10=>
 .ob (Bj (u1.1,r9.2.2.1,r9.2.2.2.1,()) ((3:Int),())) fun r11=>
 .leaf (.inl ((i64.wrap (x6.1+r11.1.1)),(i64.wrap (x6.2.1-(1:Int))),u1.1,r11.2.2.1,r11.2.2.2.1,u2.2.1,u3.1,u3.2.1,r10.1.1,r10.1.2.1,r10.1.2.2.1,()))) (
 .leaf (.inr (u1.1,u1.2.1,u2.1,u2.2.1,u3.1,u3.2.1,u4.1,u4.2.1,u4.2.2.1,())))
def Ss (a0:Az):Tree (Bb×Az):=
 .ob (Bj a0 ((5:Int),())) fun r1=>
 .ob (Hv r1.1) fun r2=>
 .ob (Lq r2) fun r3=>
 .ob (Bj (a0.1,r1.2.2.1,r1.2.2.2.1,()) ((6:Int),())) fun r4=>
 .ob (Bj (a0.1,r4.2.2.1,r4.2.2.2.1,()) ((5:Int),())) fun r5=>
 .ob (Ay N5 (r4.1.1,r5.1.1,a0.1,r5.2.2.1,r5.2.2.2.1,(0:Int),(0:Int),([]:List Ap),r3.1,r3.2.1,r3.2.2.1,())) fun o12=>letI u1:=o12.2.2.2.2.2.2;
 .leaf ((u1.1,u1.2.1,u1.2.2.1,()),(o12.1,o12.2.1,o12.2.2.1,()))
def K8 (a0:Az):Option (Bb×Az):=(Ss a0).val
def Su (a0:Az):Tree (Bp×Az):=
 .ob (Dr a0 ((16:Int),())) fun r1=>
 .ob (Bj (a0.1,r1.2.2.1,r1.2.2.2.1,()) ((2:Int),())) fun r2=>
 .ob (Ks (a0.1,r2.2.2.1,r2.2.2.2.1,())) fun r3=>
 .ob (Ja r1.1 ((i64.wrap ((1:Int)+r2.1.1)),()) r3.1) fun r4=>
 .ob (Dr (a0.1,r3.2.2.1,r3.2.2.2.1,()) ((16:Int),())) fun r5=>
 .ob (Bz (a0.1,r5.2.2.1,r5.2.2.2.1,()) ([((0:Int),()),((5:Int),()),((90:Int),())],())) fun r6=>
 .ob (Bj (a0.1,r6.2.2.1,r6.2.2.2.1,()) ((5:Int),())) fun r7=>
 .ob (Hv ((i64.wrap ((1:Int)+r7.1.1)),())) fun r8=>
 .ob (Nf r5.1 r6.1 r8 r4.1) fun r9=>letI u1:=r9.2.2.2;letI u2:=u1.2.2.2;letI u3:=u2.2.2.2;letI u4:=u3.2.2.2;letI u5:=u4.2.2.2;letI u6:=u5.2.2.2;letI u7:=u6.2.2.2;
 .ob (Ao (a0.1,r7.2.2.1,r7.2.2.2.1,()) ((2:Int),())) fun r10=>
 .br r10.1.1 (
 .ob (Nh (a0.1,r10.2.2.1,r10.2.2.2.1,()) ((1:Int),())) fun r11=>letI u8:=r11.1.2.2;letI u9:=u8.2.2;letI u10:=u9.2.2;letI u11:=u10.2.2;letI u12:=u11.2.2;letI u13:=u12.2.2;
 .ob (Ao (a0.1,r11.2.2.1,r11.2.2.2.1,()) ((2:Int),())) fun r12=>
 .br r12.1.1 (
 .ob (K8 (a0.1,r12.2.2.1,r12.2.2.2.1,())) fun r13=>
 .leaf ((r9.1,r9.2.1,r11.1.2.1,r11.1.1,r11.1.2.1,u8.1,u8.2.1,u9.1,u9.2.1,u10.1,u10.2.1,u11.1,u11.2.1,u12.1,u12.2.1,u13.1,u13.2.1,u13.2.2.1,r13.1.1,r13.1.2.1,r13.1.2.2.1,u7.1,u7.2.1,u7.2.2.1,()),(a0.1,r13.2.2.1,r13.2.2.2.1,()))) (
 .leaf ((r9.1,r9.2.1,r11.1.2.1,r11.1.1,r11.1.2.1,u8.1,u8.2.1,u9.1,u9.2.1,u10.1,u10.2.1,u11.1,u11.2.1,u12.1,u12.2.1,u13.1,u13.2.1,u13.2.2.1,u6.1,u6.2.1,u6.2.2.1,u7.1,u7.2.1,u7.2.2.1,()),(a0.1,r12.2.2.1,r12.2.2.2.1,())))) (
 .ob (Ao (a0.1,r10.2.2.1,r10.2.2.2.1,()) ((2:Int),())) fun r14=>
 .br r14.1.1 (
 .ob (K8 (a0.1,r14.2.2.1,r14.2.2.2.1,())) fun r15=>
 .leaf ((r9.1,r9.2.1,r9.2.2.1,u1.1,u1.2.1,u1.2.2.1,u2.1,u2.2.1,u2.2.2.1,u3.1,u3.2.1,u3.2.2.1,u4.1,u4.2.1,u4.2.2.1,u5.1,u5.2.1,u5.2.2.1,r15.1.1,r15.1.2.1,r15.1.2.2.1,u7.1,u7.2.1,u7.2.2.1,()),(a0.1,r15.2.2.1,r15.2.2.2.1,()))) (
 .leaf (r9,(a0.1,r14.2.2.1,r14.2.2.2.1,()))))
def Ni (a0:Az):Option (Bp×Az):=(Su a0).val
def Ac3 (a0:Az):Tree (YI×YBs×Az):=
 .ob (Bj a0 ((6:Int),())) fun r1=>letI u1:=r1.2.2;
 .br (r1.1.1==(0:Int)) (
 .ob (Bj (a0.1,u1.1,u1.2.1,()) ((2:Int),())) fun r2=>
 .ob (Dr (a0.1,r2.2.2.1,r2.2.2.2.1,()) ((12:Int),())) fun r3=>
 .leaf (((i64.wrap ((5:Int)+r2.1.1)),()),r3.1,(a0.1,r3.2.2.1,r3.2.2.2.1,()))) (
 .br (r1.1.1==(1:Int)) (
 .ob (Bj (a0.1,u1.1,u1.2.1,()) ((2:Int),())) fun r4=>
 .ob (Dr (a0.1,r4.2.2.1,r4.2.2.2.1,()) ((4:Int),())) fun r5=>
 .leaf (((i64.wrap ((7:Int)+r4.1.1)),()),r5.1,(a0.1,r5.2.2.1,r5.2.2.2.1,()))) (
 .ob (Bz (a0.1,u1.1,u1.2.1,()) ([((0:Int),()),((1:Int),()),((3:Int),()),((12:Int),()),((33:Int),()),((40:Int),())],())) fun r6=>
 .ob (Dr (a0.1,r6.2.2.1,r6.2.2.2.1,()) r6.1) fun r7=>
 .leaf (((4:Int),()),r7.1,(a0.1,r7.2.2.1,r7.2.2.2.1,()))))
def Ac4 (a0:Az):Option (YI×YBs×Az):=(Ac3 a0).val
def Ac5 (a0:YI) (a1:YBs) (a2:YI) (a3:YI):Tree (YBs):=
 .ob (By a0 ((0:Int),()) ((1:Int),())) fun r1=>
 .br (!r1.1) (
 .leaf (([]:List YB),())) (
 .br ((a1.1.length:Int) != (12:Int)) (
 .leaf (([]:List YB),())) (
 .ob (By a2 ((0:Int),()) ((4294967295:Int),())) fun r2=>
 .br (!r2.1) (
 .leaf (([]:List YB),())) (
 .ob (By a3 ((0:Int),()) ((281474976710655:Int),())) fun r3=>
 .br (!r3.1) (
 .leaf (([]:List YB),())) (
 .chk (decide ([((u8.wrap (a0.1)),())].length+a1.1.length≤4294967296)) <|
 .ob (Fy (([((u8.wrap (a0.1)),())]++a1.1),()) a2 ((4:Int),())) fun r4=>
 .ob (Fy r4 a3 ((6:Int),())) fun r5=>
 .leaf r5))))
def Up (a0:YI) (a1:YBs) (a2:YI) (a3:YI):Option (YBs):=(Ac5 a0 a1 a2 a3).val
def Z3 (a0:YBs) (a1:YBs) (a2:YI):Tree (YBs):=
 .ob (By a2 ((0:Int),()) ((6:Int),())) fun r1=>
 .br (!r1.1) (
 .leaf (([]:List YB),())) (
 .br (decide ((a1.1.length:Int)>(100:Int))) (
 .leaf (([]:List YB),())) (
 .chk (decide ([((115:Int),())].length+a1.1.length≤4294967296)) <|
 .ob (Fy (([((115:Int),())]++a1.1),()) a2 ((4:Int),())) fun r2=>
 .ob (Ri a0 r2) fun r3=>
 .leaf r3))
def Z4 (a0:YBs) (a1:YBs) (a2:YI):Option (YBs):=(Z3 a0 a1 a2).val
def Jd (x2:(List YB)×(List YB)×Int×(List YB)×Int×Unit):Option (((List YB)×(List YB)×Int×(List YB)×Int×Unit)⊕((Int×(List YB)×Unit))):=
 letI u1:=x2.2.2;Tree.val (α:=((List YB)×(List YB)×Int×(List YB)×Int×Unit)⊕((Int×(List YB)×Unit))) <|
 .br (decide ((x2.2.2.2.1.length:Int)<u1.1)) (
 .ob (Z4 (x2.1,()) (x2.2.1,()) (u1.2.2.1,())) fun r3=>
 .chk (decide (x2.2.2.2.1.length+r3.1.length≤4294967296)) <|
 .leaf (.inl (x2.1,x2.2.1,u1.1,(u1.2.1++r3.1),(i64.wrap (u1.2.2.1+(1:Int))),()))) (
 .leaf (.inr (u1.1,u1.2.1,())))
def Ac6 (a0:YBs) (a1:YBs) (a2:YI):Tree (YBs):=
 .ob (By a2 ((0:Int),()) ((200:Int),())) fun r1=>
 .br (!r1.1) (
 .leaf (([]:List YB),())) (
 .br (decide ((a1.1.length:Int)>(100:Int))) (
 .leaf (([]:List YB),())) (
 .br (decide ((a0.1.length:Int)>(1048576:Int))) (
 .leaf (([]:List YB),())) (
 .ob (Ay Jd (a0.1,a1.1,a2.1,([]:List YB),(0:Int),())) fun o4=>
 .chk (decide ((0:Int)≤o4.1)) <|
 .chk (decide (o4.1≤(o4.2.1.length:Int))) <|
 .chk (decide (([]:List YB).length+((o4.2.1.take (o4.1).toNat).drop ((0:Int)).toNat).length≤4294967296)) <|
 .leaf ((([]:List YB)++((o4.2.1.take (o4.1).toNat).drop ((0:Int)).toNat)),()))))
def Ac7 (a0:YBs) (a1:YBs) (a2:YI):Option (YBs):=(Ac6 a0 a1 a2).val
def Ox (x2:(List YB)×(List YB)×(List YB)×Int×Unit):Option (((List YB)×(List YB)×(List YB)×Int×Unit)⊕(YBs)):=
 letI u1:=x2.2.2;Tree.val (α:=((List YB)×(List YB)×(List YB)×Int×Unit)⊕(YBs)) <|
 .br (decide (u1.2.1<(x2.1.length:Int))) (
 .ob (idx x2.1 u1.2.1) fun e3=>
 .ob (idx u1.1 u1.2.1) fun e4=>
 .chk (decide (x2.2.1.length+[((u8.wrap ((BitVec.ofInt (u8.bits) (e3.1) ^^^ BitVec.ofInt (u8.bits) (e4.1)).toNat:Nat)),())].length≤4294967296)) <|
 .leaf (.inl (x2.1,(x2.2.1++[((u8.wrap ((BitVec.ofInt (u8.bits) (e3.1) ^^^ BitVec.ofInt (u8.bits) (e4.1)).toNat:Nat)),())]),u1.1,(i64.wrap (u1.2.1+(1:Int))),()))) (
 .leaf (.inr (x2.2.1,())))
def Apn (a0:YBs) (a1:YBs) (a2:YBs):Tree (YBs):=
 .br (decide ((a2.1.length:Int)>(200:Int))) (
 .leaf (([]:List YB),())) (
 .br (decide ((a1.1.length:Int)>(100:Int))) (
 .leaf (([]:List YB),())) (
 .br (decide ((a0.1.length:Int)>(1048576:Int))) (
 .leaf (([]:List YB),())) (
 .ob (Ac7 a0 a1 ((a2.1.length:Int),())) fun r1=>
 .ob (Ay Ox (a2.1,([]:List YB),r1.1,(0:Int),())) fun o5=>
 .leaf o5)))
def Apo (a0:YBs) (a1:YBs) (a2:YBs):Option (YBs):=(Apn a0 a1 a2).val
def Vt (a0:YI) (a1:Au):Tree (YBs):=
 letI u1:=a1.2.2.2.2.2.2.2;.ob (By a0 ((0:Int),()) ((1:Int),())) fun r1=>
 .br (!r1.1) (
 .leaf (([]:List YB),())) (
 .ob (Nd a1) fun r2=>
 .br (!r2.1) (
 .leaf (([]:List YB),())) (
 .ob (Pi (a1.1,())) fun r3=>
 .br (!r3.1) (
 .leaf (([]:List YB),())) (
 .ob (Up a0 (a1.2.2.2.1,()) (u1.1,()) (u1.2.1,())) fun r4=>
 .chk (decide ([((116:Int),())].length+r4.1.length≤4294967296)) <|
 .chk (decide (([((116:Int),())]++r4.1).length+[((u8.wrap (a1.1)),())].length≤4294967296)) <|
 .chk (decide ((([((116:Int),())]++r4.1)++[((u8.wrap (a1.1)),())]).length+a1.2.2.2.2.2.2.2.2.2.1.length≤4294967296)) <|
 .leaf (((([((116:Int),())]++r4.1)++[((u8.wrap (a1.1)),())])++u1.2.2.1),()))))
def Vu (a0:YI) (a1:Au):Option (YBs):=(Vt a0 a1).val
def Ka (x5:(List YB)×Int×Int×Int×Int×(List YB)×(List YB)×Int×(List YB)×(List YB)×Int×Int×(List YB)×(List YB)×Int×Int×(List YB)×(List YB)×Int×(List YB)×(List YB)×Int×Int×(List YB)×(List YB)×Unit):Option (((List YB)×Int×Int×Int×Int×(List YB)×(List YB)×Int×(List YB)×(List YB)×Int×Int×(List YB)×(List YB)×Int×Int×(List YB)×(List YB)×Int×(List YB)×(List YB)×Int×Int×(List YB)×(List YB)×Unit)⊕(((List YB)×Int×Int×Int×(List YB)×(List YB)×Int×(List YB)×(List YB)×Int×Int×(List YB)×(List YB)×Int×Int×(List YB)×(List YB)×Int×(List YB)×(List YB)×Int×Int×(List YB)×(List YB)×Unit))):=
 letI u1:=x5.2.2;letI u2:=u1.2.2;letI u3:=u2.2.2;letI u4:=u3.2.2;letI u5:=u4.2.2;letI u6:=u5.2.2;letI u7:=u6.2.2;letI u8:=u7.2.2;letI u9:=u8.2.2;letI u10:=u9.2.2;letI u11:=u10.2.2;Tree.val (α:=((List YB)×Int×Int×Int×Int×(List YB)×(List YB)×Int×(List YB)×(List YB)×Int×Int×(List YB)×(List YB)×Int×Int×(List YB)×(List YB)×Int×(List YB)×(List YB)×Int×Int×(List YB)×(List YB)×Unit)⊕(((List YB)×Int×Int×Int×(List YB)×(List YB)×Int×(List YB)×(List YB)×Int×Int×(List YB)×(List YB)×Int×Int×(List YB)×(List YB)×Int×(List YB)×(List YB)×Int×Int×(List YB)×(List YB)×Unit))) <|
 .br (decide (u1.1<(16:Int))) (
 .chk (decide (x5.2.2.2.2.2.2.2.2.2.2.2.2.2.2.2.2.2.2.2.2.2.2.2.2.1.length+[((0:Int),())].length≤4294967296)) <|
 .leaf (.inl (x5.1,x5.2.1,(i64.wrap (u1.1+(1:Int))),u1.2.1,u2.1,u2.2.1,u3.1,u3.2.1,u4.1,u4.2.1,u5.1,u5.2.1,u6.1,u6.2.1,u7.1,u7.2.1,u8.1,u8.2.1,u9.1,u9.2.1,u10.1,u10.2.1,u11.1,u11.2.1,(u11.2.2.1++[((0:Int),())]),()))) (
 .leaf (.inr (x5.1,x5.2.1,u1.2.1,u2.1,u2.2.1,u3.1,u3.2.1,u4.1,u4.2.1,u5.1,u5.2.1,u6.1,u6.2.1,u7.1,u7.2.1,u8.1,u8.2.1,u9.1,u9.2.1,u10.1,u10.2.1,u11.1,u11.2.1,u11.2.2.1,())))
def Ac8 (a0:YBs) (a1:YI) (a2:YBs) (a3:YI) (a4:YI) (a5:YI) (a6:YBs):Tree (Au×(Bool×Unit)):=
 .ob (Up a1 a2 a3 a4) fun r1=>
 .br ((a0.1.length:Int) != (32:Int)) (
 .leaf (((0:Int),(0:Int),([]:List YB),([]:List YB),(0:Int),([]:List YB),([]:List YB),(0:Int),(0:Int),([]:List YB),([]:List YB),()),(false,()))) (
 .br ((r1.1.length:Int)==(0:Int)) (
 .leaf (((0:Int),(0:Int),([]:List YB),([]:List YB),(0:Int),([]:List YB),([]:List YB),(0:Int),(0:Int),([]:List YB),([]:List YB),()),(false,()))) (
 .ob (Pi a5) fun r2=>
 .br (!r2.1) (
 .leaf (((0:Int),(0:Int),([]:List YB),([]:List YB),(0:Int),([]:List YB),([]:List YB),(0:Int),(0:Int),([]:List YB),([]:List YB),()),(false,()))) (
 .ob (Uk a5 ((a6.1.length:Int),())) fun r3=>
 .br (!r3.1) (
 .leaf (((0:Int),(0:Int),([]:List YB),([]:List YB),(0:Int),([]:List YB),([]:List YB),(0:Int),(0:Int),([]:List YB),([]:List YB),()),(false,()))) (
 .chk (decide (([]:List YB).length+a2.1.length≤4294967296)) <|
 .ob (Apo a0 r1 a6) fun r4=>
 .ob (Ay Ka (a0.1,a1.1,(0:Int),(0:Int),(0:Int),([]:List YB),([]:List YB),(0:Int),([]:List YB),([]:List YB),(0:Int),(0:Int),([]:List YB),([]:List YB),a5.1,(0:Int),([]:List YB),(([]:List YB)++a2.1),(0:Int),([]:List YB),([]:List YB),a3.1,a4.1,r4.1,([]:List YB),())) fun o6=>letI u1:=o6.2.2.2.2.2.2.2.2.2.2.2.2.2;letI u2:=u1.2.2;letI u3:=u2.2.2;letI u4:=u3.2.2;letI u5:=u4.2.2;
 .ob (Vu (o6.2.1,()) (u1.1,u1.2.1,u2.1,u2.2.1,u3.1,u3.2.1,u4.1,u4.2.1,u5.1,u5.2.1,u5.2.2.1,())) fun r7=>
 .ob (Aja (o6.1,()) r7) fun r8=>
 .leaf ((u1.1,u1.2.1,u2.1,u2.2.1,u3.1,u3.2.1,u4.1,u4.2.1,u5.1,u5.2.1,r8.1,()),(true,()))))))
def Bg (a0:YBs) (a1:YI) (a2:YBs) (a3:YI) (a4:YI) (a5:YI) (a6:YBs):Option (Au×(Bool×Unit)):=(Ac8 a0 a1 a2 a3 a4 a5 a6).val
def Ac9 (a0:Az) (a1:YBs):Tree (YBs×Az):=
 .chk (decide (([]:List YB).length+a1.1.length≤4294967296)) <|
 .ob (Bj a0 ((8:Int),())) fun r1=>letI u1:=r1.2.2;
 .br (r1.1.1==(0:Int)) (
 .br (decide (((([]:List YB)++a1.1).length:Int)>(0:Int))) (
 .ob (Bj (a0.1,u1.1,u1.2.1,()) (((([]:List YB)++a1.1).length:Int),())) fun r2=>
 .ob (idx (([]:List YB)++a1.1) r2.1.1) fun e3=>
 .ob (Bj (a0.1,r2.2.2.1,r2.2.2.2.1,()) ((255:Int),())) fun r4=>
 .ob (idx (([]:List YB)++a1.1) r2.1.1) fun e5=>
 let q6:=((([]:List YB)++a1.1).set (r2.1.1).toNat ((u8.wrap ((BitVec.ofInt (u8.bits) (e3.1) ^^^ BitVec.ofInt (u8.bits) ((u8.wrap ((i64.wrap ((1:Int)+r4.1.1)))))).toNat:Nat)),()))
 .leaf ((q6,()),(a0.1,r4.2.2.1,r4.2.2.2.1,()))) (
 .leaf (((([]:List YB)++a1.1),()),(a0.1,u1.1,u1.2.1,())))) (
 .br (r1.1.1==(1:Int)) (
 .br (decide (((([]:List YB)++a1.1).length:Int)>(0:Int))) (
 .ob (Bj (a0.1,u1.1,u1.2.1,()) (((([]:List YB)++a1.1).length:Int),())) fun r7=>
 .chk (decide ((0:Int)≤r7.1.1)) <|
 .chk (decide (r7.1.1≤((([]:List YB)++a1.1).length:Int))) <|
 .leaf (((((([]:List YB)++a1.1).take (r7.1.1).toNat).drop ((0:Int)).toNat),()),(a0.1,r7.2.2.1,r7.2.2.2.1,()))) (
 .leaf (((([]:List YB)++a1.1),()),(a0.1,u1.1,u1.2.1,())))) (
 .br (r1.1.1==(2:Int)) (
 .ob (Hb (a0.1,u1.1,u1.2.1,())) fun r8=>
 .chk (decide ((([]:List YB)++a1.1).length+[((u8.wrap (r8.1.1)),())].length≤4294967296)) <|
 .leaf ((((([]:List YB)++a1.1)++[((u8.wrap (r8.1.1)),())]),()),(a0.1,r8.2.2.1,r8.2.2.2.1,()))) (
 .leaf (((([]:List YB)++a1.1),()),(a0.1,u1.1,u1.2.1,())))))
def Kb (a0:Az) (a1:YBs):Option (YBs×Az):=(Ac9 a0 a1).val
def Ada (a0:Az) (a1:Au):Tree (Au×Az):=
 .ob (Ul a1) fun r1=>letI u1:=r1.2.2;letI u2:=u1.2.2;letI u3:=u2.2.2;letI u4:=u3.2.2;letI u5:=u4.2.2;
 .ob (Bj a0 ((14:Int),())) fun r2=>letI u6:=r2.2.2;
 .br (r2.1.1==(0:Int)) (
 .ob (Bz (a0.1,u6.1,u6.2.1,()) ([((1:Int),()),((-1:Int),()),((7:Int),())],())) fun r3=>
 .leaf ((r1.1,r1.2.1,u1.1,u1.2.1,u2.1,u2.2.1,u3.1,u3.2.1,(i64.wrap (u4.1+r3.1.1)),u4.2.1,u5.1,()),(a0.1,r3.2.2.1,r3.2.2.2.1,()))) (
 .br (r2.1.1==(1:Int)) (
 .ob (Bz (a0.1,u6.1,u6.2.1,()) ([((1:Int),()),((-1:Int),())],())) fun r4=>
 .leaf ((r1.1,r1.2.1,u1.1,u1.2.1,u2.1,u2.2.1,u3.1,(i64.wrap (u3.2.1+r4.1.1)),u4.1,u4.2.1,u5.1,()),(a0.1,r4.2.2.1,r4.2.2.2.1,()))) (
 .br (r2.1.1==(2:Int)) (
 .ob (Kb (a0.1,u6.1,u6.2.1,()) (u1.2.1,())) fun r5=>
 .leaf ((r1.1,r1.2.1,u1.1,r5.1.1,u2.1,u2.2.1,u3.1,u3.2.1,u4.1,u4.2.1,u5.1,()),(a0.1,r5.2.2.1,r5.2.2.2.1,()))) (
 .br (r2.1.1==(3:Int)) (
 .ob (Kb (a0.1,u6.1,u6.2.1,()) (u4.2.1,())) fun r6=>
 .leaf ((r1.1,r1.2.1,u1.1,u1.2.1,u2.1,u2.2.1,u3.1,u3.2.1,u4.1,r6.1.1,u5.1,()),(a0.1,r6.2.2.1,r6.2.2.2.1,()))) (
 .br (r2.1.1==(4:Int)) (
 .ob (Kb (a0.1,u6.1,u6.2.1,()) (u4.2.1,())) fun r7=>
 .leaf ((r1.1,r1.2.1,u1.1,u1.2.1,u2.1,u2.2.1,u3.1,u3.2.1,u4.1,r7.1.1,u5.1,()),(a0.1,r7.2.2.1,r7.2.2.2.1,()))) (
 .br (r2.1.1==(5:Int)) (
 .ob (Kb (a0.1,u6.1,u6.2.1,()) (u5.1,())) fun r8=>
 .leaf ((r1.1,r1.2.1,u1.1,u1.2.1,u2.1,u2.2.1,u3.1,u3.2.1,u4.1,u4.2.1,r8.1.1,()),(a0.1,r8.2.2.1,r8.2.2.2.1,()))) (
 .br (r2.1.1==(6:Int)) (
 .ob (Kb (a0.1,u6.1,u6.2.1,()) (u5.1,())) fun r9=>
 .leaf ((r1.1,r1.2.1,u1.1,u1.2.1,u2.1,u2.2.1,u3.1,u3.2.1,u4.1,u4.2.1,r9.1.1,()),(a0.1,r9.2.2.1,r9.2.2.2.1,()))) (
 .br (r2.1.1==(7:Int)) (
 .ob (Bj (a0.1,u6.1,u6.2.1,()) ((10:Int),())) fun r10=>
 .leaf ((r10.1.1,r1.2.1,u1.1,u1.2.1,u2.1,u2.2.1,u3.1,u3.2.1,u4.1,u4.2.1,u5.1,()),(a0.1,r10.2.2.1,r10.2.2.2.1,()))) (
 .leaf (r1,(a0.1,u6.1,u6.2.1,()))))))))))
def Bi (a0:Az) (a1:Au):Option (Au×Az):=(Ada a0 a1).val
def Vv (a0:Az) (a1:Al):Tree (Au×Az):=
 letI u1:=a1.2.2;letI u2:=u1.2.2.2;letI u3:=u2.2.2;letI u4:=u3.2.2.2;letI u5:=u4.2.2.2.2;.ob (Ac4 a0) fun r1=>letI u6:=r1.2.2.2;
 .br u4.2.2.1 (
 .ob (Ao (a0.1,u6.1,u6.2.1,()) ((3:Int),())) fun r2=>letI u7:=r2.2.2;
 .br r2.1.1 (
 .br (decide ((a1.2.2.2.2.2.2.2.2.2.2.2.2.2.2.1.length:Int)>(0:Int))) (
 .ob (Ao (a0.1,u7.1,u7.2.1,()) ((2:Int),())) fun r3=>
 .br r3.1.1 (
 .ob (Ev ((i64.wrap (u1.1+(1:Int))),()) (u5.1,())) fun r4=>
 .ob (Bz (a0.1,r3.2.2.1,r3.2.2.2.1,()) ([((1:Int),()),((1:Int),()),((2:Int),()),((0:Int),()),((-1:Int),()),((5:Int),())],())) fun r5=>
 .br (decide ((i64.wrap (r4.2.2.2.1+r5.1.1))<(0:Int))) (
 .ob (Ao (a0.1,r5.2.2.1,r5.2.2.2.1,()) ((10:Int),())) fun r6=>
 .br r6.1.1 (
 .ob (Bg (r4.2.1,()) (a1.1,()) (a1.2.1,()) (r4.1,()) ((0:Int),()) r1.1 r1.2.1) fun r7=>
 .ob (Ao (a0.1,r6.2.2.1,r6.2.2.2.1,()) ((5:Int),())) fun r8=>
 .br r8.1.1 (
 .ob (Bi (a0.1,r8.2.2.1,r8.2.2.2.1,()) r7.1) fun r9=>
 .leaf (r9.1,(a0.1,r9.2.2.1,r9.2.2.2.1,()))) (
 .leaf (r7.1,(a0.1,r8.2.2.1,r8.2.2.2.1,())))) (
 .ob (Bg (r4.2.1,()) ((i64.wrap ((1:Int)-a1.1)),()) (a1.2.1,()) (r4.1,()) ((0:Int),()) r1.1 r1.2.1) fun r10=>
 .ob (Ao (a0.1,r6.2.2.1,r6.2.2.2.1,()) ((5:Int),())) fun r11=>
 .br r11.1.1 (
 .ob (Bi (a0.1,r11.2.2.1,r11.2.2.2.1,()) r10.1) fun r12=>
 .leaf (r12.1,(a0.1,r12.2.2.1,r12.2.2.2.1,()))) (
 .leaf (r10.1,(a0.1,r11.2.2.1,r11.2.2.2.1,()))))) (
 .ob (Ao (a0.1,r5.2.2.1,r5.2.2.2.1,()) ((10:Int),())) fun r13=>
 .br r13.1.1 (
 .ob (Bg (r4.2.1,()) (a1.1,()) (a1.2.1,()) (r4.1,()) ((i64.wrap (r4.2.2.2.1+r5.1.1)),()) r1.1 r1.2.1) fun r14=>
 .ob (Ao (a0.1,r13.2.2.1,r13.2.2.2.1,()) ((5:Int),())) fun r15=>
 .br r15.1.1 (
 .ob (Bi (a0.1,r15.2.2.1,r15.2.2.2.1,()) r14.1) fun r16=>
 .leaf (r16.1,(a0.1,r16.2.2.1,r16.2.2.2.1,()))) (
 .leaf (r14.1,(a0.1,r15.2.2.1,r15.2.2.2.1,())))) (
 .ob (Bg (r4.2.1,()) ((i64.wrap ((1:Int)-a1.1)),()) (a1.2.1,()) (r4.1,()) ((i64.wrap (r4.2.2.2.1+r5.1.1)),()) r1.1 r1.2.1) fun r17=>
 .ob (Ao (a0.1,r13.2.2.1,r13.2.2.2.1,()) ((5:Int),())) fun r18=>
 .br r18.1.1 (
 .ob (Bi (a0.1,r18.2.2.1,r18.2.2.2.1,()) r17.1) fun r19=>
 .leaf (r19.1,(a0.1,r19.2.2.1,r19.2.2.2.1,()))) (
 .leaf (r17.1,(a0.1,r18.2.2.1,r18.2.2.2.1,())))))) (
 .ob (Bz (a0.1,r3.2.2.1,r3.2.2.2.1,()) ([((1:Int),()),((1:Int),()),((2:Int),()),((0:Int),()),((-1:Int),()),((5:Int),())],())) fun r20=>
 .br (decide ((i64.wrap (u4.1+r20.1.1))<(0:Int))) (
 .ob (Ao (a0.1,r20.2.2.1,r20.2.2.2.1,()) ((10:Int),())) fun r21=>
 .br r21.1.1 (
 .ob (Bg (u3.2.1,()) (a1.1,()) (a1.2.1,()) (u3.1,()) ((0:Int),()) r1.1 r1.2.1) fun r22=>
 .ob (Ao (a0.1,r21.2.2.1,r21.2.2.2.1,()) ((5:Int),())) fun r23=>
 .br r23.1.1 (
 .ob (Bi (a0.1,r23.2.2.1,r23.2.2.2.1,()) r22.1) fun r24=>
 .leaf (r24.1,(a0.1,r24.2.2.1,r24.2.2.2.1,()))) (
 .leaf (r22.1,(a0.1,r23.2.2.1,r23.2.2.2.1,())))) (
 .ob (Bg (u3.2.1,()) ((i64.wrap ((1:Int)-a1.1)),()) (a1.2.1,()) (u3.1,()) ((0:Int),()) r1.1 r1.2.1) fun r25=>
 .ob (Ao (a0.1,r21.2.2.1,r21.2.2.2.1,()) ((5:Int),())) fun r26=>
 .br r26.1.1 (
 .ob (Bi (a0.1,r26.2.2.1,r26.2.2.2.1,()) r25.1) fun r27=>
 .leaf (r27.1,(a0.1,r27.2.2.1,r27.2.2.2.1,()))) (
 .leaf (r25.1,(a0.1,r26.2.2.1,r26.2.2.2.1,()))))) (
 .ob (Ao (a0.1,r20.2.2.1,r20.2.2.2.1,()) ((10:Int),())) fun r28=>
 .br r28.1.1 (
 .ob (Bg (u3.2.1,()) (a1.1,()) (a1.2.1,()) (u3.1,()) ((i64.wrap (u4.1+r20.1.1)),()) r1.1 r1.2.1) fun r29=>
 .ob (Ao (a0.1,r28.2.2.1,r28.2.2.2.1,()) ((5:Int),())) fun r30=>
 .br r30.1.1 (
 .ob (Bi (a0.1,r30.2.2.1,r30.2.2.2.1,()) r29.1) fun r31=>
 .leaf (r31.1,(a0.1,r31.2.2.1,r31.2.2.2.1,()))) (
 .leaf (r29.1,(a0.1,r30.2.2.1,r30.2.2.2.1,())))) (
 .ob (Bg (u3.2.1,()) ((i64.wrap ((1:Int)-a1.1)),()) (a1.2.1,()) (u3.1,()) ((i64.wrap (u4.1+r20.1.1)),()) r1.1 r1.2.1) fun r32=>
 .ob (Ao (a0.1,r28.2.2.1,r28.2.2.2.1,()) ((5:Int),())) fun r33=>
 .br r33.1.1 (
 .ob (Bi (a0.1,r33.2.2.1,r33.2.2.2.1,()) r32.1) fun r34=>
 .leaf (r34.1,(a0.1,r34.2.2.1,r34.2.2.2.1,()))) (
 .leaf (r32.1,(a0.1,r33.2.2.1,r33.2.2.2.1,()))))))) (
 .ob (Bz (a0.1,u7.1,u7.2.1,()) ([((1:Int),()),((1:Int),()),((2:Int),()),((0:Int),()),((-1:Int),()),((5:Int),())],())) fun r35=>
 .br (decide ((i64.wrap (u4.1+r35.1.1))<(0:Int))) (
 .ob (Ao (a0.1,r35.2.2.1,r35.2.2.2.1,()) ((10:Int),())) fun r36=>
 .br r36.1.1 (
 .ob (Bg (u3.2.1,()) (a1.1,()) (a1.2.1,()) (u3.1,()) ((0:Int),()) r1.1 r1.2.1) fun r37=>
 .ob (Ao (a0.1,r36.2.2.1,r36.2.2.2.1,()) ((5:Int),())) fun r38=>
 .br r38.1.1 (
 .ob (Bi (a0.1,r38.2.2.1,r38.2.2.2.1,()) r37.1) fun r39=>
 .leaf (r39.1,(a0.1,r39.2.2.1,r39.2.2.2.1,()))) (
 .leaf (r37.1,(a0.1,r38.2.2.1,r38.2.2.2.1,())))) (
 .ob (Bg (u3.2.1,()) ((i64.wrap ((1:Int)-a1.1)),()) (a1.2.1,()) (u3.1,()) ((0:Int),()) r1.1 r1.2.1) fun r40=>
 .ob (Ao (a0.1,r36.2.2.1,r36.2.2.2.1,()) ((5:Int),())) fun r41=>
 .br r41.1.1 (
 .ob (Bi (a0.1,r41.2.2.1,r41.2.2.2.1,()) r40.1) fun r42=>
 .leaf (r42.1,(a0.1,r42.2.2.1,r42.2.2.2.1,()))) (
 .leaf (r40.1,(a0.1,r41.2.2.1,r41.2.2.2.1,()))))) (
 .ob (Ao (a0.1,r35.2.2.1,r35.2.2.2.1,()) ((10:Int),())) fun r43=>
 .br r43.1.1 (
 .ob (Bg (u3.2.1,()) (a1.1,()) (a1.2.1,()) (u3.1,()) ((i64.wrap (u4.1+r35.1.1)),()) r1.1 r1.2.1) fun r44=>
 .ob (Ao (a0.1,r43.2.2.1,r43.2.2.2.1,()) ((5:Int),())) fun r45=>
 .br r45.1.1 (
 .ob (Bi (a0.1,r45.2.2.1,r45.2.2.2.1,()) r44.1) fun r46=>
 .leaf (r46.1,(a0.1,r46.2.2.1,r46.2.2.2.1,()))) (
 .leaf (r44.1,(a0.1,r45.2.2.1,r45.2.2.2.1,())))) (
 .ob (Bg (u3.2.1,()) ((i64.wrap ((1:Int)-a1.1)),()) (a1.2.1,()) (u3.1,()) ((i64.wrap (u4.1+r35.1.1)),()) r1.1 r1.2.1) fun r47=>
 .ob (Ao (a0.1,r43.2.2.1,r43.2.2.2.1,()) ((5:Int),())) fun r48=>
 .br r48.1.1 (
 .ob (Bi (a0.1,r48.2.2.1,r48.2.2.2.1,()) r47.1) fun r49=>
 .leaf (r49.1,(a0.1,r49.2.2.1,r49.2.2.2.1,()))) (
 .leaf (r47.1,(a0.1,r48.2.2.1,r48.2.2.2.1,()))))))) (
 .br (decide ((a1.2.2.2.2.2.2.2.2.2.2.2.2.2.2.1.length:Int)>(0:Int))) (
 .ob (Ao (a0.1,u7.1,u7.2.1,()) ((2:Int),())) fun r50=>
 .br r50.1.1 (
 .ob (Ev ((i64.wrap (u1.1+(1:Int))),()) (u5.1,())) fun r51=>
 .ob (Bz (a0.1,r50.2.2.1,r50.2.2.2.1,()) ([((1:Int),()),((1:Int),()),((2:Int),()),((0:Int),()),((-1:Int),()),((5:Int),())],())) fun r52=>
 .br (decide ((i64.wrap (r51.2.2.2.1+r52.1.1))<(0:Int))) (
 .ob (Ao (a0.1,r52.2.2.1,r52.2.2.2.1,()) ((10:Int),())) fun r53=>
 .br r53.1.1 (
 .ob (Bg (r51.2.1,()) (a1.1,()) (a1.2.1,()) (r51.1,()) ((0:Int),()) r1.1 r1.2.1) fun r54=>
 .ob (Ao (a0.1,r53.2.2.1,r53.2.2.2.1,()) ((5:Int),())) fun r55=>
 .br r55.1.1 (
 .ob (Bi (a0.1,r55.2.2.1,r55.2.2.2.1,()) r54.1) fun r56=>
 .leaf (r56.1,(a0.1,r56.2.2.1,r56.2.2.2.1,()))) (
 .leaf (r54.1,(a0.1,r55.2.2.1,r55.2.2.2.1,())))) (
 .ob (Bg (r51.2.1,()) ((i64.wrap ((1:Int)-a1.1)),()) (a1.2.1,()) (r51.1,()) ((0:Int),()) r1.1 r1.2.1) fun r57=>
 .ob (Ao (a0.1,r53.2.2.1,r53.2.2.2.1,()) ((5:Int),())) fun r58=>
 .br r58.1.1 (
 .ob (Bi (a0.1,r58.2.2.1,r58.2.2.2.1,()) r57.1) fun r59=>
 .leaf (r59.1,(a0.1,r59.2.2.1,r59.2.2.2.1,()))) (
 .leaf (r57.1,(a0.1,r58.2.2.1,r58.2.2.2.1,()))))) (
 .ob (Ao (a0.1,r52.2.2.1,r52.2.2.2.1,()) ((10:Int),())) fun r60=>
 .br r60.1.1 (
 .ob (Bg (r51.2.1,()) (a1.1,()) (a1.2.1,()) (r51.1,()) ((i64.wrap (r51.2.2.2.1+r52.1.1)),()) r1.1 r1.2.1) fun r61=>
 .ob (Ao (a0.1,r60.2.2.1,r60.2.2.2.1,()) ((5:Int),())) fun r62=>
 .br r62.1.1 (
 .ob (Bi (a0.1,r62.2.2.1,r62.2.2.2.1,()) r61.1) fun r63=>
 .leaf (r63.1,(a0.1,r63.2.2.1,r63.2.2.2.1,()))) (
 .leaf (r61.1,(a0.1,r62.2.2.1,r62.2.2.2.1,())))) (
 .ob (Bg (r51.2.1,()) ((i64.wrap ((1:Int)-a1.1)),()) (a1.2.1,()) (r51.1,()) ((i64.wrap (r51.2.2.2.1+r52.1.1)),()) r1.1 r1.2.1) fun r64=>
 .ob (Ao (a0.1,r60.2.2.1,r60.2.2.2.1,()) ((5:Int),())) fun r65=>
 .br r65.1.1 (
 .ob (Bi (a0.1,r65.2.2.1,r65.2.2.2.1,()) r64.1) fun r66=>
 .leaf (r66.1,(a0.1,r66.2.2.1,r66.2.2.2.1,()))) (
 .leaf (r64.1,(a0.1,r65.2.2.1,r65.2.2.2.1,())))))) (
 .ob (Bz (a0.1,r50.2.2.1,r50.2.2.2.1,()) ([((1:Int),()),((1:Int),()),((2:Int),()),((0:Int),()),((-1:Int),()),((5:Int),())],())) fun r67=>
 .br (decide ((i64.wrap (u2.1+r67.1.1))<(0:Int))) (
 .ob (Ao (a0.1,r67.2.2.1,r67.2.2.2.1,()) ((10:Int),())) fun r68=>
 .br r68.1.1 (
 .ob (Bg (u1.2.1,()) (a1.1,()) (a1.2.1,()) (u1.1,()) ((0:Int),()) r1.1 r1.2.1) fun r69=>
 .ob (Ao (a0.1,r68.2.2.1,r68.2.2.2.1,()) ((5:Int),())) fun r70=>
 .br r70.1.1 (
 .ob (Bi (a0.1,r70.2.2.1,r70.2.2.2.1,()) r69.1) fun r71=>
 .leaf (r71.1,(a0.1,r71.2.2.1,r71.2.2.2.1,()))) (
 .leaf (r69.1,(a0.1,r70.2.2.1,r70.2.2.2.1,())))) (
 .ob (Bg (u1.2.1,()) ((i64.wrap ((1:Int)-a1.1)),()) (a1.2.1,()) (u1.1,()) ((0:Int),()) r1.1 r1.2.1) fun r72=>
 .ob (Ao (a0.1,r68.2.2.1,r68.2.2.2.1,()) ((5:Int),())) fun r73=>
 .br r73.1.1 (
 .ob (Bi (a0.1,r73.2.2.1,r73.2.2.2.1,()) r72.1) fun r74=>
 .leaf (r74.1,(a0.1,r74.2.2.1,r74.2.2.2.1,()))) (
 .leaf (r72.1,(a0.1,r73.2.2.1,r73.2.2.2.1,()))))) (
 .ob (Ao (a0.1,r67.2.2.1,r67.2.2.2.1,()) ((10:Int),())) fun r75=>
 .br r75.1.1 (
 .ob (Bg (u1.2.1,()) (a1.1,()) (a1.2.1,()) (u1.1,()) ((i64.wrap (u2.1+r67.1.1)),()) r1.1 r1.2.1) fun r76=>
 .ob (Ao (a0.1,r75.2.2.1,r75.2.2.2.1,()) ((5:Int),())) fun r77=>
 .br r77.1.1 (
 .ob (Bi (a0.1,r77.2.2.1,r77.2.2.2.1,()) r76.1) fun r78=>
 .leaf (r78.1,(a0.1,r78.2.2.1,r78.2.2.2.1,()))) (
 .leaf (r76.1,(a0.1,r77.2.2.1,r77.2.2.2.1,())))) (
 .ob (Bg (u1.2.1,()) ((i64.wrap ((1:Int)-a1.1)),()) (a1.2.1,()) (u1.1,()) ((i64.wrap (u2.1+r67.1.1)),()) r1.1 r1.2.1) fun r79=>
 .ob (Ao (a0.1,r75.2.2.1,r75.2.2.2.1,()) ((5:Int),())) fun r80=>
 .br r80.1.1 (
 .ob (Bi (a0.1,r80.2.2.1,r80.2.2.2.1,()) r79.1) fun r81=>
 .leaf (r81.1,(a0.1,r81.2.2.1,r81.2.2.2.1,()))) (
 .leaf (r79.1,(a0.1,r80.2.2.1,r80.2.2.2.1,()))))))) (
 .ob (Bz (a0.1,u7.1,u7.2.1,()) ([((1:Int),()),((1:Int),()),((2:Int),()),((0:Int),()),((-1:Int),()),((5:Int),())],())) fun r82=>
 .br (decide ((i64.wrap (u2.1+r82.1.1))<(0:Int))) (
 .ob (Ao (a0.1,r82.2.2.1,r82.2.2.2.1,()) ((10:Int),())) fun r83=>
 .br r83.1.1 (
 .ob (Bg (u1.2.1,()) (a1.1,()) (a1.2.1,()) (u1.1,()) ((0:Int),()) r1.1 r1.2.1) fun r84=>
 .ob (Ao (a0.1,r83.2.2.1,r83.2.2.2.1,()) ((5:Int),())) fun r85=>
 .br r85.1.1 (
 .ob (Bi (a0.1,r85.2.2.1,r85.2.2.2.1,()) r84.1) fun r86=>
 .leaf (r86.1,(a0.1,r86.2.2.1,r86.2.2.2.1,()))) (
 .leaf (r84.1,(a0.1,r85.2.2.1,r85.2.2.2.1,())))) (
 .ob (Bg (u1.2.1,()) ((i64.wrap ((1:Int)-a1.1)),()) (a1.2.1,()) (u1.1,()) ((0:Int),()) r1.1 r1.2.1) fun r87=>
 .ob (Ao (a0.1,r83.2.2.1,r83.2.2.2.1,()) ((5:Int),())) fun r88=>
 .br r88.1.1 (
 .ob (Bi (a0.1,r88.2.2.1,r88.2.2.2.1,()) r87.1) fun r89=>
 .leaf (r89.1,(a0.1,r89.2.2.1,r89.2.2.2.1,()))) (
 .leaf (r87.1,(a0.1,r88.2.2.1,r88.2.2.2.1,()))))) (
 .ob (Ao (a0.1,r82.2.2.1,r82.2.2.2.1,()) ((10:Int),())) fun r90=>
 .br r90.1.1 (
 .ob (Bg (u1.2.1,()) (a1.1,()) (a1.2.1,()) (u1.1,()) ((i64.wrap (u2.1+r82.1.1)),()) r1.1 r1.2.1) fun r91=>
 .ob (Ao (a0.1,r90.2.2.1,r90.2.2.2.1,()) ((5:Int),())) fun r92=>
 .br r92.1.1 (
 .ob (Bi (a0.1,r92.2.2.1,r92.2.2.2.1,()) r91.1) fun r93=>
 .leaf (r93.1,(a0.1,r93.2.2.1,r93.2.2.2.1,()))) (
 .leaf (r91.1,(a0.1,r92.2.2.1,r92.2.2.2.1,())))) (
 .ob (Bg (u1.2.1,()) ((i64.wrap ((1:Int)-a1.1)),()) (a1.2.1,()) (u1.1,()) ((i64.wrap (u2.1+r82.1.1)),()) r1.1 r1.2.1) fun r94=>
 .ob (Ao (a0.1,r90.2.2.1,r90.2.2.2.1,()) ((5:Int),())) fun r95=>
 .br r95.1.1 (
 .ob (Bi (a0.1,r95.2.2.1,r95.2.2.2.1,()) r94.1) fun r96=>
 .leaf (r96.1,(a0.1,r96.2.2.1,r96.2.2.2.1,()))) (
 .leaf (r94.1,(a0.1,r95.2.2.1,r95.2.2.2.1,())))))))) (
 .br (decide ((a1.2.2.2.2.2.2.2.2.2.2.2.2.2.2.1.length:Int)>(0:Int))) (
 .ob (Ao (a0.1,u6.1,u6.2.1,()) ((2:Int),())) fun r97=>
 .br r97.1.1 (
 .ob (Ev ((i64.wrap (u1.1+(1:Int))),()) (u5.1,())) fun r98=>
 .ob (Bz (a0.1,r97.2.2.1,r97.2.2.2.1,()) ([((1:Int),()),((1:Int),()),((2:Int),()),((0:Int),()),((-1:Int),()),((5:Int),())],())) fun r99=>
 .br (decide ((i64.wrap (r98.2.2.2.1+r99.1.1))<(0:Int))) (
 .ob (Ao (a0.1,r99.2.2.1,r99.2.2.2.1,()) ((10:Int),())) fun r100=>
 .br r100.1.1 (
 .ob (Bg (r98.2.1,()) (a1.1,()) (a1.2.1,()) (r98.1,()) ((0:Int),()) r1.1 r1.2.1) fun r101=>
 .ob (Ao (a0.1,r100.2.2.1,r100.2.2.2.1,()) ((5:Int),())) fun r102=>
 .br r102.1.1 (
 .ob (Bi (a0.1,r102.2.2.1,r102.2.2.2.1,()) r101.1) fun r103=>
 .leaf (r103.1,(a0.1,r103.2.2.1,r103.2.2.2.1,()))) (
 .leaf (r101.1,(a0.1,r102.2.2.1,r102.2.2.2.1,())))) (
 .ob (Bg (r98.2.1,()) ((i64.wrap ((1:Int)-a1.1)),()) (a1.2.1,()) (r98.1,()) ((0:Int),()) r1.1 r1.2.1) fun r104=>
 .ob (Ao (a0.1,r100.2.2.1,r100.2.2.2.1,()) ((5:Int),())) fun r105=>
 .br r105.1.1 (
 .ob (Bi (a0.1,r105.2.2.1,r105.2.2.2.1,()) r104.1) fun r106=>
 .leaf (r106.1,(a0.1,r106.2.2.1,r106.2.2.2.1,()))) (
 .leaf (r104.1,(a0.1,r105.2.2.1,r105.2.2.2.1,()))))) (
 .ob (Ao (a0.1,r99.2.2.1,r99.2.2.2.1,()) ((10:Int),())) fun r107=>
 .br r107.1.1 (
 .ob (Bg (r98.2.1,()) (a1.1,()) (a1.2.1,()) (r98.1,()) ((i64.wrap (r98.2.2.2.1+r99.1.1)),()) r1.1 r1.2.1) fun r108=>
 .ob (Ao (a0.1,r107.2.2.1,r107.2.2.2.1,()) ((5:Int),())) fun r109=>
 .br r109.1.1 (
 .ob (Bi (a0.1,r109.2.2.1,r109.2.2.2.1,()) r108.1) fun r110=>
 .leaf (r110.1,(a0.1,r110.2.2.1,r110.2.2.2.1,()))) (
 .leaf (r108.1,(a0.1,r109.2.2.1,r109.2.2.2.1,())))) (
 .ob (Bg (r98.2.1,()) ((i64.wrap ((1:Int)-a1.1)),()) (a1.2.1,()) (r98.1,()) ((i64.wrap (r98.2.2.2.1+r99.1.1)),()) r1.1 r1.2.1) fun r111=>
 .ob (Ao (a0.1,r107.2.2.1,r107.2.2.2.1,()) ((5:Int),())) fun r112=>
 .br r112.1.1 (
 .ob (Bi (a0.1,r112.2.2.1,r112.2.2.2.1,()) r111.1) fun r113=>
 .leaf (r113.1,(a0.1,r113.2.2.1,r113.2.2.2.1,()))) (
 .leaf (r111.1,(a0.1,r112.2.2.1,r112.2.2.2.1,())))))) (
 .ob (Bz (a0.1,r97.2.2.1,r97.2.2.2.1,()) ([((1:Int),()),((1:Int),()),((2:Int),()),((0:Int),()),((-1:Int),()),((5:Int),())],())) fun r114=>
 .br (decide ((i64.wrap (u2.1+r114.1.1))<(0:Int))) (
 .ob (Ao (a0.1,r114.2.2.1,r114.2.2.2.1,()) ((10:Int),())) fun r115=>
 .br r115.1.1 (
 .ob (Bg (u1.2.1,()) (a1.1,()) (a1.2.1,()) (u1.1,()) ((0:Int),()) r1.1 r1.2.1) fun r116=>
 .ob (Ao (a0.1,r115.2.2.1,r115.2.2.2.1,()) ((5:Int),())) fun r117=>
 .br r117.1.1 (
 .ob (Bi (a0.1,r117.2.2.1,r117.2.2.2.1,()) r116.1) fun r118=>
 .leaf (r118.1,(a0.1,r118.2.2.1,r118.2.2.2.1,()))) (
 .leaf (r116.1,(a0.1,r117.2.2.1,r117.2.2.2.1,())))) (
 .ob (Bg (u1.2.1,()) ((i64.wrap ((1:Int)-a1.1)),()) (a1.2.1,()) (u1.1,()) ((0:Int),()) r1.1 r1.2.1) fun r119=>
 .ob (Ao (a0.1,r115.2.2.1,r115.2.2.2.1,()) ((5:Int),())) fun r120=>
 .br r120.1.1 (
 .ob (Bi (a0.1,r120.2.2.1,r120.2.2.2.1,()) r119.1) fun r121=>
 .leaf (r121.1,(a0.1,r121.2.2.1,r121.2.2.2.1,()))) (
 .leaf (r119.1,(a0.1,r120.2.2.1,r120.2.2.2.1,()))))) (
 .ob (Ao (a0.1,r114.2.2.1,r114.2.2.2.1,()) ((10:Int),())) fun r122=>
 .br r122.1.1 (
 .ob (Bg (u1.2.1,()) (a1.1,()) (a1.2.1,()) (u1.1,()) ((i64.wrap (u2.1+r114.1.1)),()) r1.1 r1.2.1) fun r123=>
 .ob (Ao (a0.1,r122.2.2.1,r122.2.2.2.1,()) ((5:Int),())) fun r124=>
 .br r124.1.1 (
 .ob (Bi (a0.1,r124.2.2.1,r124.2.2.2.1,()) r123.1) fun r125=>
 .leaf (r125.1,(a0.1,r125.2.2.1,r125.2.2.2.1,()))) (
 .leaf (r123.1,(a0.1,r124.2.2.1,r124.2.2.2.1,())))) (
 .ob (Bg (u1.2.1,()) ((i64.wrap ((1:Int)-a1.1)),()) (a1.2.1,()) (u1.1,()) ((i64.wrap (u2.1+r114.1.1)),()) r1.1 r1.2.1) fun r126=>
 .ob (Ao (a0.1,r122.2.2.1,r122.2.2.2.1,()) ((5:Int),())) fun r127=>
 .br r127.1.1 (
 .ob (Bi (a0.1,r127.2.2.1,r127.2.2.2.1,()) r126.1) fun r128=>
 .leaf (r128.1,(a0.1,r128.2.2.1,r128.2.2.2.1,()))) (
 .leaf (r126.1,(a0.1,r127.2.2.1,r127.2.2.2.1,()))))))) (
 .ob (Bz (a0.1,u6.1,u6.2.1,()) ([((1:Int),()),((1:Int),()),((2:Int),()),((0:Int),()),((-1:Int),()),((5:Int),())],())) fun r129=>
 .br (decide ((i64.wrap (u2.1+r129.1.1))<(0:Int))) (
 .ob (Ao (a0.1,r129.2.2.1,r129.2.2.2.1,()) ((10:Int),())) fun r130=>
 .br r130.1.1 (
 .ob (Bg (u1.2.1,()) (a1.1,()) (a1.2.1,()) (u1.1,()) ((0:Int),()) r1.1 r1.2.1) fun r131=>
 .ob (Ao (a0.1,r130.2.2.1,r130.2.2.2.1,()) ((5:Int),())) fun r132=>
 .br r132.1.1 (
 .ob (Bi (a0.1,r132.2.2.1,r132.2.2.2.1,()) r131.1) fun r133=>
 .leaf (r133.1,(a0.1,r133.2.2.1,r133.2.2.2.1,()))) (
 .leaf (r131.1,(a0.1,r132.2.2.1,r132.2.2.2.1,())))) (
 .ob (Bg (u1.2.1,()) ((i64.wrap ((1:Int)-a1.1)),()) (a1.2.1,()) (u1.1,()) ((0:Int),()) r1.1 r1.2.1) fun r134=>
 .ob (Ao (a0.1,r130.2.2.1,r130.2.2.2.1,()) ((5:Int),())) fun r135=>
 .br r135.1.1 (
 .ob (Bi (a0.1,r135.2.2.1,r135.2.2.2.1,()) r134.1) fun r136=>
 .leaf (r136.1,(a0.1,r136.2.2.1,r136.2.2.2.1,()))) (
 .leaf (r134.1,(a0.1,r135.2.2.1,r135.2.2.2.1,()))))) (
 .ob (Ao (a0.1,r129.2.2.1,r129.2.2.2.1,()) ((10:Int),())) fun r137=>
 .br r137.1.1 (
 .ob (Bg (u1.2.1,()) (a1.1,()) (a1.2.1,()) (u1.1,()) ((i64.wrap (u2.1+r129.1.1)),()) r1.1 r1.2.1) fun r138=>
 .ob (Ao (a0.1,r137.2.2.1,r137.2.2.2.1,()) ((5:Int),())) fun r139=>
 .br r139.1.1 (
 .ob (Bi (a0.1,r139.2.2.1,r139.2.2.2.1,()) r138.1) fun r140=>
 .leaf (r140.1,(a0.1,r140.2.2.1,r140.2.2.2.1,()))) (
 .leaf (r138.1,(a0.1,r139.2.2.1,r139.2.2.2.1,())))) (
 .ob (Bg (u1.2.1,()) ((i64.wrap ((1:Int)-a1.1)),()) (a1.2.1,()) (u1.1,()) ((i64.wrap (u2.1+r129.1.1)),()) r1.1 r1.2.1) fun r141=>
 .ob (Ao (a0.1,r137.2.2.1,r137.2.2.2.1,()) ((5:Int),())) fun r142=>
 .br r142.1.1 (
 .ob (Bi (a0.1,r142.2.2.1,r142.2.2.2.1,()) r141.1) fun r143=>
 .leaf (r143.1,(a0.1,r143.2.2.1,r143.2.2.2.1,()))) (
 .leaf (r141.1,(a0.1,r142.2.2.1,r142.2.2.2.1,())))))))
def Ps (a0:Az) (a1:Al):Option (Au×Az):=(Vv a0 a1).val
def T5 (a0:YI):Tree (YBs):=
 .ob (By a0 ((0:Int),()) ((4294967295:Int),())) fun r1=>
 .br (!r1.1) (
 .leaf (([]:List YB),())) (
 .ob (Fy (([]:List YB),()) a0 ((4:Int),())) fun r2=>
 .leaf r2)
def Ej (a0:YI):Option (YBs):=(T5 a0).val
def Adb (a0:Az):Tree (B7×Az):=
 .ob (Ao a0 ((3:Int),())) fun r1=>
 .br r1.1.1 (
 .ob (Bj (a0.1,r1.2.2.1,r1.2.2.2.1,()) ((16777216:Int),())) fun r2=>
 .ob (Hb (a0.1,r2.2.2.1,r2.2.2.2.1,())) fun r3=>
 .ob (Bj (a0.1,r3.2.2.1,r3.2.2.2.1,()) ((65536:Int),())) fun r4=>
 .leaf (((i64.wrap ((i64.wrap (r2.1.1*(256:Int)))+r3.1.1)),r4.1.1,()),(a0.1,r4.2.2.1,r4.2.2.2.1,()))) (
 .ob (Bj (a0.1,r1.2.2.1,r1.2.2.2.1,()) ((6:Int),())) fun r5=>
 .ob (Hv r5.1) fun r6=>
 .leaf (r6,(a0.1,r5.2.2.1,r5.2.2.2.1,())))
def Adc (a0:Az):Option (B7×Az):=(Adb a0).val
def Ag1 (a0:Az):Tree (YI×Az):=
 .ob (Bz a0 ([((-1:Int),()),((0:Int),()),((1:Int),()),((2:Int),()),((255:Int),()),((256:Int),()),((65535:Int),()),((2147483647:Int),()),((2147483648:Int),()),((4294967295:Int),()),((4294967296:Int),()),((-2147483648:Int),()),((9223372036854775807:Int),()),((-9223372036854775808:Int),())],())) fun r1=>
 .leaf (r1.1,(a0.1,r1.2.2.1,r1.2.2.2.1,()))
def Ag2 (a0:Az):Option (YI×Az):=(Ag1 a0).val
def Ag3 (a0:Az):Tree (B7×Az):=
 .ob (Adc a0) fun r1=>
 .ob (Bj (a0.1,r1.2.2.1,r1.2.2.2.1,()) ((10:Int),())) fun r2=>letI u1:=r2.2.2;
 .br (r2.1.1==(0:Int)) (
 .ob (Ag2 (a0.1,u1.1,u1.2.1,())) fun r3=>
 .leaf ((r3.1.1,r1.1.2.1,()),(a0.1,r3.2.2.1,r3.2.2.2.1,()))) (
 .br (r2.1.1==(1:Int)) (
 .ob (Bz (a0.1,u1.1,u1.2.1,()) ([((-1:Int),()),((65535:Int),()),((65536:Int),()),((0:Int),())],())) fun r4=>
 .leaf ((r1.1.1,r4.1.1,()),(a0.1,r4.2.2.1,r4.2.2.2.1,()))) (
 .leaf (r1.1,(a0.1,u1.1,u1.2.1,()))))
def Ec (a0:Az):Option (B7×Az):=(Ag3 a0).val
def Vw (a0:Az) (a1:Bp):Tree (B7×Au×Az):=
 letI u1:=a1.2.2;letI u2:=u1.2.2.2;letI u3:=u2.2.2.2;letI u4:=u3.2.2;letI u5:=u4.2.2.2;letI u6:=u5.2.2;letI u7:=u6.2.2.2;.ob (Ao a0 ((2:Int),())) fun r1=>
 .br r1.1.1 (
 .ob (Bj (a0.1,r1.2.2.1,r1.2.2.2.1,()) ((7:Int),())) fun r2=>
 .ob (Hv ((i64.wrap ((1:Int)+r2.1.1)),())) fun r3=>
 .ob (Ps (a0.1,r2.2.2.1,r2.2.2.2.1,()) (u1.2.1,u1.2.2.1,u2.1,u2.2.1,u2.2.2.1,u3.1,u3.2.1,u4.1,u4.2.1,u4.2.2.1,u5.1,u5.2.1,u6.1,u6.2.1,u6.2.2.1,())) fun r4=>
 .ob (Bj (a0.1,r4.2.2.1,r4.2.2.2.1,()) ((5:Int),())) fun r5=>letI u8:=r5.2.2;
 .br (r5.1.1==(0:Int)) (
 .br (decide ((a1.2.2.2.2.2.2.2.2.2.2.2.2.2.2.2.2.2.2.2.2.1.length:Int)>(0:Int))) (
 .ob (Bj (a0.1,u8.1,u8.2.1,()) ((a1.2.2.2.2.2.2.2.2.2.2.2.2.2.2.2.2.2.2.2.2.1.length:Int),())) fun r6=>
 .ob (idx u7.2.2.1 r6.1.1) fun e7=>
 .ob (Bg (u2.2.1,()) ((0:Int),()) (u1.1,()) (u2.1,()) ((i64.wrap (u3.1+(1:Int))),()) ((6:Int),()) (e7.2.2.1,())) fun r8=>
 .ob (Ao (a0.1,r6.2.2.1,r6.2.2.2.1,()) ((12:Int),())) fun r9=>
 .br r9.1.1 (
 .ob (Ec (a0.1,r9.2.2.1,r9.2.2.2.1,())) fun r10=>
 .leaf (r10.1,r8.1,(a0.1,r10.2.2.1,r10.2.2.2.1,()))) (
 .leaf ((e7.1,e7.2.1,()),r8.1,(a0.1,r9.2.2.1,r9.2.2.2.1,())))) (
 .ob (Ao (a0.1,u8.1,u8.2.1,()) ((12:Int),())) fun r11=>
 .br r11.1.1 (
 .ob (Ec (a0.1,r11.2.2.1,r11.2.2.2.1,())) fun r12=>
 .leaf (r12.1,r4.1,(a0.1,r12.2.2.1,r12.2.2.2.1,()))) (
 .leaf (r3,r4.1,(a0.1,r11.2.2.1,r11.2.2.2.1,()))))) (
 .br (r5.1.1==(1:Int)) (
 .br u6.1 (
 .ob (Ao (a0.1,u8.1,u8.2.1,()) ((2:Int),())) fun r13=>
 .br r13.1.1 (
 .ob (Ej ((i64.wrap (u4.1+(1:Int))),())) fun r14=>
 .ob (Bg (u4.2.1,()) ((0:Int),()) (u1.1,()) (u4.1,()) ((i64.wrap (u5.1+(1:Int))),()) ((7:Int),()) r14) fun r15=>
 .ob (Ao (a0.1,r13.2.2.1,r13.2.2.2.1,()) ((12:Int),())) fun r16=>
 .br r16.1.1 (
 .ob (Ec (a0.1,r16.2.2.1,r16.2.2.2.1,())) fun r17=>
 .leaf (r17.1,r15.1,(a0.1,r17.2.2.1,r17.2.2.2.1,()))) (
 .leaf (r3,r15.1,(a0.1,r16.2.2.1,r16.2.2.2.1,())))) (
 .ob (Ej ((i64.wrap (u2.1+(1:Int))),())) fun r18=>
 .ob (Bg (u2.2.1,()) ((0:Int),()) (u1.1,()) (u2.1,()) ((i64.wrap (u3.1+(1:Int))),()) ((7:Int),()) r18) fun r19=>
 .ob (Ao (a0.1,r13.2.2.1,r13.2.2.2.1,()) ((12:Int),())) fun r20=>
 .br r20.1.1 (
 .ob (Ec (a0.1,r20.2.2.1,r20.2.2.2.1,())) fun r21=>
 .leaf (r21.1,r19.1,(a0.1,r21.2.2.1,r21.2.2.2.1,()))) (
 .leaf (r3,r19.1,(a0.1,r20.2.2.1,r20.2.2.2.1,()))))) (
 .ob (Ej ((i64.wrap (u2.1+(1:Int))),())) fun r22=>
 .ob (Bg (u2.2.1,()) ((0:Int),()) (u1.1,()) (u2.1,()) ((i64.wrap (u3.1+(1:Int))),()) ((7:Int),()) r22) fun r23=>
 .ob (Ao (a0.1,u8.1,u8.2.1,()) ((12:Int),())) fun r24=>
 .br r24.1.1 (
 .ob (Ec (a0.1,r24.2.2.1,r24.2.2.2.1,())) fun r25=>
 .leaf (r25.1,r23.1,(a0.1,r25.2.2.1,r25.2.2.2.1,()))) (
 .leaf (r3,r23.1,(a0.1,r24.2.2.1,r24.2.2.2.1,()))))) (
 .ob (Ao (a0.1,u8.1,u8.2.1,()) ((12:Int),())) fun r26=>
 .br r26.1.1 (
 .ob (Ec (a0.1,r26.2.2.1,r26.2.2.2.1,())) fun r27=>
 .leaf (r27.1,r4.1,(a0.1,r27.2.2.1,r27.2.2.2.1,()))) (
 .leaf (r3,r4.1,(a0.1,r26.2.2.1,r26.2.2.2.1,())))))) (
 .ob (Ps (a0.1,r1.2.2.1,r1.2.2.2.1,()) (u1.2.1,u1.2.2.1,u2.1,u2.2.1,u2.2.2.1,u3.1,u3.2.1,u4.1,u4.2.1,u4.2.2.1,u5.1,u5.2.1,u6.1,u6.2.1,u6.2.2.1,())) fun r28=>
 .ob (Bj (a0.1,r28.2.2.1,r28.2.2.2.1,()) ((5:Int),())) fun r29=>letI u9:=r29.2.2;
 .br (r29.1.1==(0:Int)) (
 .br (decide ((a1.2.2.2.2.2.2.2.2.2.2.2.2.2.2.2.2.2.2.2.2.1.length:Int)>(0:Int))) (
 .ob (Bj (a0.1,u9.1,u9.2.1,()) ((a1.2.2.2.2.2.2.2.2.2.2.2.2.2.2.2.2.2.2.2.2.1.length:Int),())) fun r30=>
 .ob (idx u7.2.2.1 r30.1.1) fun e31=>
 .ob (Bg (u2.2.1,()) ((0:Int),()) (u1.1,()) (u2.1,()) ((i64.wrap (u3.1+(1:Int))),()) ((6:Int),()) (e31.2.2.1,())) fun r32=>
 .ob (Ao (a0.1,r30.2.2.1,r30.2.2.2.1,()) ((12:Int),())) fun r33=>
 .br r33.1.1 (
 .ob (Ec (a0.1,r33.2.2.1,r33.2.2.2.1,())) fun r34=>
 .leaf (r34.1,r32.1,(a0.1,r34.2.2.1,r34.2.2.2.1,()))) (
 .leaf ((e31.1,e31.2.1,()),r32.1,(a0.1,r33.2.2.1,r33.2.2.2.1,())))) (
 .ob (Ao (a0.1,u9.1,u9.2.1,()) ((12:Int),())) fun r35=>
 .br r35.1.1 (
 .ob (Ec (a0.1,r35.2.2.1,r35.2.2.2.1,())) fun r36=>
 .leaf (r36.1,r28.1,(a0.1,r36.2.2.1,r36.2.2.2.1,()))) (
 .leaf ((u7.1,u7.2.1,()),r28.1,(a0.1,r35.2.2.1,r35.2.2.2.1,()))))) (
 .br (r29.1.1==(1:Int)) (
 .br u6.1 (
 .ob (Ao (a0.1,u9.1,u9.2.1,()) ((2:Int),())) fun r37=>
 .br r37.1.1 (
 .ob (Ej ((i64.wrap (u4.1+(1:Int))),())) fun r38=>
 .ob (Bg (u4.2.1,()) ((0:Int),()) (u1.1,()) (u4.1,()) ((i64.wrap (u5.1+(1:Int))),()) ((7:Int),()) r38) fun r39=>
 .ob (Ao (a0.1,r37.2.2.1,r37.2.2.2.1,()) ((12:Int),())) fun r40=>
 .br r40.1.1 (
 .ob (Ec (a0.1,r40.2.2.1,r40.2.2.2.1,())) fun r41=>
 .leaf (r41.1,r39.1,(a0.1,r41.2.2.1,r41.2.2.2.1,()))) (
 .leaf ((u7.1,u7.2.1,()),r39.1,(a0.1,r40.2.2.1,r40.2.2.2.1,())))) (
 .ob (Ej ((i64.wrap (u2.1+(1:Int))),())) fun r42=>
 .ob (Bg (u2.2.1,()) ((0:Int),()) (u1.1,()) (u2.1,()) ((i64.wrap (u3.1+(1:Int))),()) ((7:Int),()) r42) fun r43=>
 .ob (Ao (a0.1,r37.2.2.1,r37.2.2.2.1,()) ((12:Int),())) fun r44=>
 .br r44.1.1 (
 .ob (Ec (a0.1,r44.2.2.1,r44.2.2.2.1,())) fun r45=>
 .leaf (r45.1,r43.1,(a0.1,r45.2.2.1,r45.2.2.2.1,()))) (
 .leaf ((u7.1,u7.2.1,()),r43.1,(a0.1,r44.2.2.1,r44.2.2.2.1,()))))) (
 .ob (Ej ((i64.wrap (u2.1+(1:Int))),())) fun r46=>
 .ob (Bg (u2.2.1,()) ((0:Int),()) (u1.1,()) (u2.1,()) ((i64.wrap (u3.1+(1:Int))),()) ((7:Int),()) r46) fun r47=>
 .ob (Ao (a0.1,u9.1,u9.2.1,()) ((12:Int),())) fun r48=>
 .br r48.1.1 (
 .ob (Ec (a0.1,r48.2.2.1,r48.2.2.2.1,())) fun r49=>
 .leaf (r49.1,r47.1,(a0.1,r49.2.2.1,r49.2.2.2.1,()))) (
 .leaf ((u7.1,u7.2.1,()),r47.1,(a0.1,r48.2.2.1,r48.2.2.2.1,()))))) (
 .ob (Ao (a0.1,u9.1,u9.2.1,()) ((12:Int),())) fun r50=>
 .br r50.1.1 (
 .ob (Ec (a0.1,r50.2.2.1,r50.2.2.2.1,())) fun r51=>
 .leaf (r51.1,r28.1,(a0.1,r51.2.2.1,r51.2.2.2.1,()))) (
 .leaf ((u7.1,u7.2.1,()),r28.1,(a0.1,r50.2.2.1,r50.2.2.2.1,()))))))
def Vx (a0:Az) (a1:Bp):Option (B7×Au×Az):=(Vw a0 a1).val
def Vy (a0:YBs):Tree (Bp×YI×B7×Au×YBs):=
 .ob (Ago a0) fun r1=>
 .ob (Ni r1) fun r2=>
 .ob (Vx (r1.1,r2.2.2.1,r2.2.2.2.1,()) r2.1) fun r3=>
 .ob (Bz (r1.1,r3.2.2.2.1,r3.2.2.2.2.1,()) ([((0:Int),()),((1:Int),()),((5:Int),()),((6:Int),()),((7:Int),()),((8:Int),()),((10:Int),())],())) fun r4=>
 .ob (Dr (r1.1,r4.2.2.1,r4.2.2.2.1,()) ((12:Int),())) fun r5=>
 .leaf (r2.1,r4.1,r3.1,r3.2.1,r5.1)
def Vz (a0:YBs):Option (Bp×YI×B7×Au×YBs):=(Vy a0).val
def Ag4 (a0:YBs):Tree (YBs):=
 .chk (decide (([]:List YB).length+a0.1.length≤4294967296)) <|
 .leaf ((([]:List YB)++a0.1),())
def Bu (a0:YBs):Option (YBs):=(Ag4 a0).val
def Z5 (a0:B5):Tree (B5):=
 .chk (decide (([]:List YI).length+a0.2.1.length≤4294967296)) <|
 .leaf (a0.1,(([]:List YI)++a0.2.1),())
def Sv (a0:B5):Option (B5):=(Z5 a0).val
def Ade (a0:YEp):Tree (YEp):=
 .ob (Bu (a0.2.1,())) fun r1=>
 .ob (Sv (a0.2.2.2.1,a0.2.2.2.2.1,())) fun r2=>
 .leaf (a0.1,r1.1,a0.2.2.1,r2.1,r2.2.1,())
def Mq (a0:YEp):Option (YEp):=(Ade a0).val
def V0 (a0:Al):Tree (Al):=
 letI u1:=a0.2.2.2;letI u2:=u1.2.2.2;letI u3:=u2.2.2.2.2;.ob (Bu (a0.2.1,())) fun r1=>
 .ob (Bu (u3.2.2.2.2.1,())) fun r2=>
 .ob (Mq (a0.2.2.1,u1.1,u1.2.1,u1.2.2.1,u2.1,())) fun r3=>
 .ob (Mq (u2.2.1,u2.2.2.1,u2.2.2.2.1,u3.1,u3.2.1,())) fun r4=>
 .leaf (a0.1,r1.1,r3.1,r3.2.1,r3.2.2.1,r3.2.2.2.1,r3.2.2.2.2.1,r4.1,r4.2.1,r4.2.2.1,r4.2.2.2.1,r4.2.2.2.2.1,u3.2.2.1,u3.2.2.2.1,r2.1,())
def Fk (a0:Al):Option (Al):=(V0 a0).val
def Gp (x1:(List Ap)×Int×Int×Int×Int×(List Ap)×Int×Int×(List Ap)×Unit):Option (((List Ap)×Int×Int×Int×Int×(List Ap)×Int×Int×(List Ap)×Unit)⊕((Int×Int×(List Ap)×Int×Int×(List Ap)×Unit))):=
 letI u1:=x1.2.2;letI u2:=u1.2.2;letI u3:=u2.2.2;Tree.val (α:=((List Ap)×Int×Int×Int×Int×(List Ap)×Int×Int×(List Ap)×Unit)⊕((Int×Int×(List Ap)×Int×Int×(List Ap)×Unit))) <|
 .br (decide (u1.1<x1.2.1)) (
 .ob (idx x1.1 u1.1) fun e2=>
 .ob (Bu (e2.2.2.1,())) fun r3=>
 .chk (decide (x1.2.2.2.2.2.2.2.2.1.length+[(e2.1,e2.2.1,r3.1,e2.2.2.2.1,())].length≤4294967296)) <|
 .leaf (.inl (x1.1,x1.2.1,(i64.wrap (u1.1+(1:Int))),u1.2.1,u2.1,u2.2.1,u3.1,u3.2.1,(u3.2.2.1++[(e2.1,e2.2.1,r3.1,e2.2.2.2.1,())]),()))) (
 .leaf (.inr (u1.2.1,u2.1,u2.2.1,u3.1,u3.2.1,u3.2.2.1,())))
def T6 (a0:Bb):Tree (Bb):=
 .ob (Ay Gp (a0.2.2.1,(a0.2.2.1.length:Int),(0:Int),(0:Int),(0:Int),([]:List Ap),a0.1,a0.2.1,([]:List Ap),())) fun o4=>
 .leaf (o4.2.2.2.1,o4.2.2.2.2.1,o4.2.2.2.2.2.1,())
def De (a0:Bb):Option (Bb):=(T6 a0).val
def V2 (a0:Bp):Tree (Bp):=
 letI u1:=a0.2.2.2;letI u2:=u1.2.2.2;letI u3:=u2.2.2.2;letI u4:=u3.2.2.2;letI u5:=u4.2.2.2;letI u6:=u5.2.2.2.2;.ob (Bu (a0.2.1,())) fun r1=>
 .ob (Bu (a0.2.2.1,())) fun r2=>
 .ob (Fk (u1.1,u1.2.1,u1.2.2.1,u2.1,u2.2.1,u2.2.2.1,u3.1,u3.2.1,u3.2.2.1,u4.1,u4.2.1,u4.2.2.1,u5.1,u5.2.1,u5.2.2.1,())) fun r3=>letI u7:=r3.2.2.2;letI u8:=u7.2.2.2;letI u9:=u8.2.2.2.2;
 .ob (De (u5.2.2.2.1,u6.1,u6.2.1,())) fun r4=>
 .leaf (a0.1,r1.1,r2.1,r3.1,r3.2.1,r3.2.2.1,u7.1,u7.2.1,u7.2.2.1,u8.1,u8.2.1,u8.2.2.1,u8.2.2.2.1,u9.1,u9.2.1,u9.2.2.1,u9.2.2.2.1,u9.2.2.2.2.1,r4.1,r4.2.1,r4.2.2.1,u6.2.2.1,u6.2.2.2.1,u6.2.2.2.2.1,())
def V3 (a0:Bp):Option (Bp):=(V2 a0).val
def Adf (a0:YI) (a1:YI) (a2:YI):Tree ((Bool×Unit)):=
 .br (decide (a0.1≥a1.1)) (
 .leaf ((decide (a0.1≤a2.1)),())) (
 .leaf (false,()))
def Be (a0:YI) (a1:YI) (a2:YI):Option ((Bool×Unit)):=(Adf a0 a1 a2).val
def Aj0 (a0:YBs):Tree ((Bool×Unit)):=
 .leaf (((a0.1.length:Int)==(12:Int)),())
def D4 (a0:YBs):Option ((Bool×Unit)):=(Aj0 a0).val
def Afw (a0:YBs) (a1:YBs):Tree ((Bool×Unit)):=
 .leaf ((decide ((Nb a0.1)=(Nb a1.1))),())
def Dx (a0:YBs) (a1:YBs):Option ((Bool×Unit)):=(Afw a0 a1).val
def Abi (x1:(List YI)×(List YI)×Int×Int×Unit):Option (((List YI)×(List YI)×Int×Int×Unit)⊕((Bool×Unit)⊕(Unit))):=
 letI u1:=x1.2.2;Tree.val (α:=((List YI)×(List YI)×Int×Int×Unit)⊕((Bool×Unit)⊕(Unit))) <|
 .br (decide (u1.2.1<u1.1)) (
 .ob (idx x1.2.1 u1.2.1) fun e2=>
 .ob (idx x1.1 u1.2.1) fun e3=>
 .br (e2.1 != e3.1) (
 .leaf (.inr (.inl (false,())))) (
 .leaf (.inl (x1.1,x1.2.1,u1.1,(i64.wrap (u1.2.1+(1:Int))),())))) (
 .leaf (.inr (.inr ())))
def V4 (a0:(List YI)×Unit) (a1:(List YI)×Unit):Tree ((Bool×Unit)):=
 .br ((a0.1.length:Int) != (a1.1.length:Int)) (
 .leaf (false,())) (
 .ob (Ay Abi (a1.1,a0.1,(a0.1.length:Int),(0:Int),())) fun o4=>
 .sm o4 (fun o5=>
 .leaf o5) (fun o6=>
 .leaf (true,())))
def V5 (a0:(List YI)×Unit) (a1:(List YI)×Unit):Option ((Bool×Unit)):=(V4 a0 a1).val
def Adg (a0:YEp) (a1:YEp):Tree ((Bool×Unit)):=
 .br (a0.1==a1.1) (
 .ob (Dx (a0.2.1,()) (a1.2.1,())) fun r1=>
 .br r1.1 (
 .br (a0.2.2.1==a1.2.2.1) (
 .br (a0.2.2.2.1==a1.2.2.2.1) (
 .ob (V5 (a0.2.2.2.2.1,()) (a1.2.2.2.2.1,())) fun r2=>
 .leaf r2) (
 .leaf (false,()))) (
 .leaf (false,()))) (
 .leaf (false,()))) (
 .leaf (false,()))
def Pt (a0:YEp) (a1:YEp):Option ((Bool×Unit)):=(Adg a0 a1).val
def Rj (a0:Al):Tree ((Bool×Unit)):=
 letI u1:=a0.2.2.2;letI u2:=u1.2.2.2;letI u3:=u2.2.2.2;.br (a0.1==(0:Int)) (
 .br ((a0.2.1.length:Int)==(0:Int)) (
 .ob (Pt (a0.2.2.1,u1.1,u1.2.1,u1.2.2.1,u2.1,()) ((0:Int),([]:List YB),(0:Int),(0:Int),([]:List YI),())) fun r1=>
 .br r1.1 (
 .ob (Pt (u2.2.1,u2.2.2.1,u3.1,u3.2.1,u3.2.2.1,()) ((0:Int),([]:List YB),(0:Int),(0:Int),([]:List YI),())) fun r2=>
 .br r2.1 (
 .br (!u3.2.2.2.1) (
 .br (u3.2.2.2.2.1==(0:Int)) (
 .leaf (((a0.2.2.2.2.2.2.2.2.2.2.2.2.2.2.1.length:Int)==(0:Int)),())) (
 .leaf (false,()))) (
 .leaf (false,()))) (
 .leaf (false,()))) (
 .leaf (false,()))) (
 .leaf (false,()))) (
 .leaf (false,()))
def Rk (a0:Al):Option ((Bool×Unit)):=(Rj a0).val
def Adh (a0:YI):Tree ((Bool×Unit)):=
 .br (a0.1==(0:Int)) (
 .leaf (true,())) (
 .leaf ((a0.1==(1:Int)),()))
def Mr (a0:YI):Option ((Bool×Unit)):=(Adh a0).val
def Je (x1:(List YI)×Int×(List YI)×Int×Int×Unit):Option (((List YI)×Int×(List YI)×Int×Int×Unit)⊕((Bool×Unit)⊕((List YI)×Int×Unit))):=
 letI u1:=x1.2.2;Tree.val (α:=((List YI)×Int×(List YI)×Int×Int×Unit)⊕((Bool×Unit)⊕((List YI)×Int×Unit))) <|
 .br (decide (u1.2.2.1<u1.2.1)) (
 .ob (idx u1.1 u1.2.2.1) fun e2=>
 .ob (Be e2 ((0:Int),()) ((4294967295:Int),())) fun r3=>
 .br (!r3.1) (
 .leaf (.inr (.inl (false,())))) (
 .leaf (.inl (x1.1,x1.2.1,u1.1,u1.2.1,(i64.wrap (u1.2.2.1+(1:Int))),())))) (
 .leaf (.inr (.inr (x1.1,x1.2.1,()))))
def V6 (a0:(List YI)×Unit) (a1:YI):Tree ((Bool×Unit)):=
 .ob (Ay Je (a0.1,a1.1,a0.1,(a0.1.length:Int),(0:Int),())) fun o4=>
 .sm o4 (fun o5=>
 .leaf o5) (fun o6=>
 .leaf (((o6.1.length:Int)==o6.2.1),()))
def Lr (a0:(List YI)×Unit) (a1:YI):Option ((Bool×Unit)):=(V6 a0 a1).val
def Adi (a0:B5) (a1:YI):Tree ((Bool×Unit)):=
 .chk (decide ((0:Int)≤a1.1)) <|
 .chk (decide ((0:Int)≤(a1.1%(1024:Int)))) <|
 .ob (idx a0.2.1 ((a1.1%(1024:Int))/(32:Int))) fun e1=>
 .chk (decide ((0:Int)≤a1.1)) <|
 .chk (decide ((0:Int)≤(a1.1%(32:Int)))) <|
 .leaf (((i64.wrap ((BitVec.ofInt (i64.bits) ((Int.fdiv e1.1 (2^(min ((a1.1%(32:Int))).toNat i64.bits)))) &&& BitVec.ofInt (i64.bits) ((1:Int))).toNat:Nat))==(1:Int)),())
def Pu (a0:B5) (a1:YI):Option ((Bool×Unit)):=(Adi a0 a1).val
def K9 (x3:Int×Int×(List YI)×Unit):Option ((Int×Int×(List YI)×Unit)⊕((Bool×Unit)⊕B5)):=
 Tree.val (α:=(Int×Int×(List YI)×Unit)⊕((Bool×Unit)⊕B5)) <|
 .br (decide (x3.1<(1024:Int))) (
 .ob (Pu (x3.2.1,x3.2.2.1,()) (x3.1,())) fun r4=>
 .br r4.1 (
 .leaf (.inr (.inl (false,())))) (
 .leaf (.inl ((i64.wrap (x3.1+(1:Int))),x3.2.1,x3.2.2.1,())))) (
 .leaf (.inr (.inr (x3.2.1,x3.2.2.1,()))))
def Ag5 (a0:B5):Tree ((Bool×Unit)):=
 .ob (Be (a0.1,()) ((-1:Int),()) ((281474976710655:Int),())) fun r1=>
 .br (!r1.1) (
 .leaf (false,())) (
 .ob (Lr (a0.2.1,()) ((32:Int),())) fun r2=>
 .br (!r2.1) (
 .leaf (false,())) (
 .ob (Ay K9 ((i64.wrap (a0.1+(1:Int))),a0.1,a0.2.1,())) fun o5=>
 .sm o5 (fun o6=>
 .leaf o6) (fun o7=>
 .br (o7.1==(-1:Int)) (
 .leaf (true,())) (
 .ob (Pu o7 (o7.1,())) fun r8=>
 .leaf r8))))
def Xj (a0:B5):Option ((Bool×Unit)):=(Ag5 a0).val
def Alh (a0:YEp):Tree ((Bool×Unit)):=
 .ob (Be (a0.1,()) ((0:Int),()) ((4294967295:Int),())) fun r1=>
 .br r1.1 (
 .br ((a0.2.1.length:Int)==(32:Int)) (
 .ob (Be (a0.2.2.1,()) ((0:Int),()) ((281474976710656:Int),())) fun r2=>
 .br r2.1 (
 .ob (Xj (a0.2.2.2.1,a0.2.2.2.2.1,())) fun r3=>
 .leaf r3) (
 .leaf (false,()))) (
 .leaf (false,()))) (
 .leaf (false,()))
def Rl (a0:YEp):Option ((Bool×Unit)):=(Alh a0).val
def Ag6 (a0:Al):Tree ((Bool×Unit)):=
 letI u1:=a0.2.2.2.2.2.2.2;letI u2:=u1.2.2;letI u3:=u2.2.2;.br (!u3.2.1) (
 .ob (Pt (u1.1,u1.2.1,u2.1,u2.2.1,u3.1,()) ((0:Int),([]:List YB),(0:Int),(0:Int),([]:List YI),())) fun r1=>
 .br r1.1 (
 .leaf ((u3.2.2.1==(0:Int)),())) (
 .leaf (false,()))) (
 .ob (Rl (u1.1,u1.2.1,u2.1,u2.2.1,u3.1,())) fun r2=>
 .br (!r2.1) (
 .leaf (false,())) (
 .br (u1.1 != (i64.wrap (a0.2.2.1-(1:Int)))) (
 .leaf (false,())) (
 .ob (Be (u3.2.2.1,()) ((0:Int),()) ((1000005:Int),())) fun r3=>
 .br r3.1 (
 .leaf (true,())) (
 .br (u3.2.2.1==(-1:Int)) (
 .leaf ((a0.1==(1:Int)),())) (
 .leaf (false,()))))))
def Ag7 (a0:Al):Option ((Bool×Unit)):=(Ag6 a0).val
def Adj (a0:Al):Tree ((Bool×Unit)):=
 letI u1:=a0.2.2;.ob (Mr (a0.1,())) fun r1=>
 .br (!r1.1) (
 .leaf (false,())) (
 .ob (D4 (a0.2.1,())) fun r2=>
 .br (!r2.1) (
 .leaf (false,())) (
 .ob (Rl (u1.1,u1.2.1,u1.2.2.1,u1.2.2.2.1,u1.2.2.2.2.1,())) fun r3=>
 .br (!r3.1) (
 .leaf (false,())) (
 .ob (Ag7 a0) fun r4=>
 .br (!r4.1) (
 .leaf (false,())) (
 .br ((a0.2.2.2.2.2.2.2.2.2.2.2.2.2.2.1.length:Int)==(0:Int)) (
 .leaf (true,())) (
 .br (a0.1==(0:Int)) (
 .br ((a0.2.2.2.2.2.2.2.2.2.2.2.2.2.2.1.length:Int)==(32:Int)) (
 .leaf ((decide (u1.1<(4294967295:Int))),())) (
 .leaf (false,()))) (
 .leaf (false,())))))))
def Hc (a0:Al):Option ((Bool×Unit)):=(Adj a0).val
def Adk (a0:B7):Tree ((Bool×Unit)):=
 .ob (Be (a0.1,()) ((0:Int),()) ((4294967295:Int),())) fun r1=>
 .br r1.1 (
 .ob (Be (a0.2.1,()) ((0:Int),()) ((65535:Int),())) fun r2=>
 .leaf r2) (
 .leaf (false,()))
def Ij (a0:B7):Option ((Bool×Unit)):=(Adk a0).val
def Gw (x7:(List Ap)×Int×Int×(List Ap)×Int×Int×Int×Int×(List Ap)×Int×Int×(List YB)×Int×Unit):Option (((List Ap)×Int×Int×(List Ap)×Int×Int×Int×Int×(List Ap)×Int×Int×(List YB)×Int×Unit)⊕((Bool×Unit)⊕((List Ap)×Int×Int×Int×Int×(List Ap)×Unit))):=
 letI u1:=x7.2.2;letI u2:=u1.2.2.2;letI u3:=u2.2.2;letI u4:=u3.2.2;Tree.val (α:=((List Ap)×Int×Int×(List Ap)×Int×Int×Int×Int×(List Ap)×Int×Int×(List YB)×Int×Unit)⊕((Bool×Unit)⊕((List Ap)×Int×Int×Int×Int×(List Ap)×Unit))) <|
 .br (decide (u2.1<u1.2.2.1)) (
 .ob (idx u1.2.1 u2.1) fun e8=>
 .br (and (e8.1==u4.1) (and (e8.2.1==u4.2.1) true)) (
 .leaf (.inr (.inl (false,())))) (
 .leaf (.inl (x7.1,x7.2.1,u1.1,u1.2.1,u1.2.2.1,(i64.wrap (u2.1+(1:Int))),u2.2.1,u3.1,u3.2.1,u4.1,u4.2.1,u4.2.2.1,u4.2.2.2.1,())))) (
 .leaf (.inr (.inr (x7.1,x7.2.1,u1.1,u2.2.1,u3.1,u3.2.1,()))))
def Ib (x2:(List Ap)×Int×Int×Int×Int×(List Ap)×Unit):Option (((List Ap)×Int×Int×Int×Int×(List Ap)×Unit)⊕((Bool×Unit)⊕(Unit))):=
 letI u1:=x2.2.2;Tree.val (α:=((List Ap)×Int×Int×Int×Int×(List Ap)×Unit)⊕((Bool×Unit)⊕(Unit))) <|
 .br (decide (u1.1<x2.2.1)) (
 .ob (idx x2.1 u1.1) fun e3=>
 .ob (Ij (e3.1,e3.2.1,())) fun r4=>
 .br (!r4.1) (
 .leaf (.inr (.inl (false,())))) (
 .br (and (e3.1==u1.2.1) (and (e3.2.1==u1.2.2.1) true)) (
 .leaf (.inr (.inl (false,())))) (
 .ob (D4 (e3.2.2.1,())) fun r5=>
 .br (!r5.1) (
 .leaf (.inr (.inl (false,())))) (
 .ob (Be (e3.2.2.2.1,()) ((0:Int),()) ((1000006:Int),())) fun r6=>
 .br (!r6.1) (
 .leaf (.inr (.inl (false,())))) (
 .chk (decide ((0:Int)≤u1.1)) <|
 .chk (decide (u1.1≤(x2.2.2.2.2.2.1.length:Int))) <|
 .ob (Ay Gw (x2.1,x2.2.1,u1.1,((x2.2.2.2.2.2.1.take (u1.1).toNat).drop ((0:Int)).toNat),(((x2.2.2.2.2.2.1.take (u1.1).toNat).drop ((0:Int)).toNat).length:Int),(0:Int),u1.2.1,u1.2.2.1,u1.2.2.2.1,e3.1,e3.2.1,e3.2.2.1,e3.2.2.2.1,())) fun o9=>
 .sm o9 (fun o10=>
 .leaf (.inr (.inl o10))) (fun o11=>
 .leaf (.inl (o11.1,o11.2.1,(i64.wrap (o11.2.2.1+(1:Int))),o11.2.2.2.1,o11.2.2.2.2.1,o11.2.2.2.2.2.1,())))))))) (
 .leaf (.inr (.inr ())))
def Sw (a0:Bb):Tree ((Bool×Unit)):=
 .ob (Ij (a0.1,a0.2.1,())) fun r1=>
 .br (!r1.1) (
 .leaf (false,())) (
 .br (decide ((a0.2.2.1.length:Int)>(3:Int))) (
 .leaf (false,())) (
 .ob (Ay Ib (a0.2.2.1,(a0.2.2.1.length:Int),(0:Int),a0.1,a0.2.1,a0.2.2.1,())) fun o12=>
 .sm o12 (fun o13=>
 .leaf o13) (fun o14=>
 .leaf (true,()))))
def La (a0:Bb):Option ((Bool×Unit)):=(Sw a0).val
def Adl (a0:Bp):Tree ((Bool×Unit)):=
 letI u1:=a0.2.2;letI u2:=u1.2.2;letI u3:=u2.2.2;letI u4:=u3.2.2;letI u5:=u4.2.2;letI u6:=u5.2.2;letI u7:=u6.2.2;letI u8:=u7.2.2;letI u9:=u8.2.2;letI u10:=u9.2.2.2;.ob (Be (a0.1,()) ((1:Int),()) ((9:Int),())) fun r1=>
 .br (!r1.1) (
 .leaf (false,())) (
 .ob (D4 (a0.2.1,())) fun r2=>
 .br (!r2.1) (
 .leaf (false,())) (
 .ob (D4 (u1.1,())) fun r3=>
 .br (!r3.1) (
 .leaf (false,())) (
 .ob (Be (u10.1,()) ((0:Int),()) ((1000000:Int),())) fun r4=>
 .br (!r4.1) (
 .leaf (false,())) (
 .br u10.2.2.1 (
 .ob (Rk (u1.2.1,u2.1,u2.2.1,u3.1,u3.2.1,u4.1,u4.2.1,u5.1,u5.2.1,u6.1,u6.2.1,u7.1,u7.2.1,u8.1,u8.2.1,())) fun r5=>
 .br r5.1 (
 .br (and (u9.1==(0:Int)) (and (u9.2.1==(0:Int)) true)) (
 .br ((a0.2.2.2.2.2.2.2.2.2.2.2.2.2.2.2.2.2.2.2.2.1.length:Int)==(0:Int)) (
 .leaf ((u10.2.1==(0:Int)),())) (
 .leaf (false,()))) (
 .leaf (false,()))) (
 .leaf (false,()))) (
 .ob (Hc (u1.2.1,u2.1,u2.2.1,u3.1,u3.2.1,u4.1,u4.2.1,u5.1,u5.2.1,u6.1,u6.2.1,u7.1,u7.2.1,u8.1,u8.2.1,())) fun r6=>
 .br r6.1 (
 .br (u1.2.1==(1:Int)) (
 .ob (Dx (u2.1,()) (u1.1,())) fun r7=>
 .br r7.1 (
 .ob (La (u9.1,u9.2.1,u9.2.2.1,())) fun r8=>
 .br r8.1 (
 .ob (Be (u10.2.1,()) ((0:Int),()) ((1000000:Int),())) fun r9=>
 .leaf r9) (
 .leaf (false,()))) (
 .leaf (false,()))) (
 .leaf (false,()))) (
 .leaf (false,())))))))
def Pv (a0:Bp):Option ((Bool×Unit)):=(Adl a0).val
def Adm (a0:YI):Tree ((Bool×Unit)):=
 .ob (Be a0 ((4:Int),()) ((8:Int),())) fun r1=>
 .leaf r1
def Ms (a0:YI):Option ((Bool×Unit)):=(Adm a0).val
def Adn (a0:YI) (a1:YI):Tree ((Bool×Unit)):=
 .br (a0.1==(4:Int)) (
 .leaf ((decide (a1.1≤(40:Int))),())) (
 .br (a0.1==(5:Int)) (
 .leaf ((a1.1==(12:Int)),())) (
 .br (a0.1==(6:Int)) (
 .leaf ((a1.1==(12:Int)),())) (
 .leaf ((a1.1==(4:Int)),()))))
def Ado (a0:YI) (a1:YI):Option ((Bool×Unit)):=(Adn a0 a1).val
def T7 (a0:Au) (a1:Au):Tree ((Bool×Unit)):=
 letI u1:=a0.2.2.2;letI u2:=u1.2.2.2;letI u3:=a1.2.2.2;letI u4:=u3.2.2.2;.br (a0.1==a1.1) (
 .br (a0.2.1==a1.2.1) (
 .br (u1.2.1==u3.2.1) (
 .br (u2.2.1==u4.2.1) (
 .br (u2.2.2.1==u4.2.2.1) (
 .ob (Dx (a0.2.2.1,()) (a1.2.2.1,())) fun r1=>
 .br r1.1 (
 .ob (Dx (u1.1,()) (u3.1,())) fun r2=>
 .br r2.1 (
 .ob (Dx (u1.2.2.1,()) (u3.2.2.1,())) fun r3=>
 .br r3.1 (
 .ob (Dx (u2.1,()) (u4.1,())) fun r4=>
 .br r4.1 (
 .ob (Dx (u2.2.2.2.1,()) (u4.2.2.2.1,())) fun r5=>
 .br r5.1 (
 .ob (Dx (u2.2.2.2.2.1,()) (u4.2.2.2.2.1,())) fun r6=>
 .leaf r6) (
 .leaf (false,()))) (
 .leaf (false,()))) (
 .leaf (false,()))) (
 .leaf (false,()))) (
 .leaf (false,()))) (
 .leaf (false,()))) (
 .leaf (false,()))) (
 .leaf (false,()))) (
 .leaf (false,()))) (
 .leaf (false,()))
def Ic (a0:Au) (a1:Au):Option ((Bool×Unit)):=(T7 a0 a1).val
def Z6 (a0:Au):Tree ((Bool×Unit)):=
 letI u1:=a0.2.2;letI u2:=u1.2.2;letI u3:=u2.2.2.2;.br (a0.1==(1:Int)) (
 .ob (Be (a0.2.1,()) ((1:Int),()) ((9:Int),())) fun r1=>
 .br r1.1 (
 .ob (D4 (u1.1,())) fun r2=>
 .br r2.1 (
 .ob (Ic a0 (a0.1,a0.2.1,u1.1,([]:List YB),(0:Int),([]:List YB),([]:List YB),(0:Int),(0:Int),([]:List YB),([]:List YB),())) fun r3=>
 .leaf r3) (
 .leaf (false,()))) (
 .leaf (false,()))) (
 .br (a0.1==(2:Int)) (
 .ob (D4 (u1.1,())) fun r4=>
 .br r4.1 (
 .ob (D4 (u1.2.1,())) fun r5=>
 .br r5.1 (
 .ob (Be (u2.1,()) ((0:Int),()) ((1000000:Int),())) fun r6=>
 .br r6.1 (
 .br ((a0.2.2.2.2.2.1.length:Int)==(16:Int)) (
 .ob (Ic a0 (a0.1,(0:Int),u1.1,u1.2.1,u2.1,u2.2.1,([]:List YB),(0:Int),(0:Int),([]:List YB),([]:List YB),())) fun r7=>
 .leaf r7) (
 .leaf (false,()))) (
 .leaf (false,()))) (
 .leaf (false,()))) (
 .leaf (false,()))) (
 .br (a0.1==(3:Int)) (
 .ob (Be (a0.2.1,()) ((1:Int),()) ((9:Int),())) fun r8=>
 .br r8.1 (
 .ob (D4 (u1.1,())) fun r9=>
 .br r9.1 (
 .ob (D4 (u1.2.1,())) fun r10=>
 .br r10.1 (
 .ob (Be (u2.1,()) ((0:Int),()) ((1000000:Int),())) fun r11=>
 .br r11.1 (
 .br ((a0.2.2.2.2.2.1.length:Int)==(16:Int)) (
 .br ((a0.2.2.2.2.2.2.1.length:Int)==(16:Int)) (
 .ob (Ic a0 (a0.1,a0.2.1,u1.1,u1.2.1,u2.1,u2.2.1,u2.2.2.1,(0:Int),(0:Int),([]:List YB),([]:List YB),())) fun r12=>
 .leaf r12) (
 .leaf (false,()))) (
 .leaf (false,()))) (
 .leaf (false,()))) (
 .leaf (false,()))) (
 .leaf (false,()))) (
 .leaf (false,()))) (
 .ob (Ms (a0.1,())) fun r13=>
 .br r13.1 (
 .ob (D4 (u1.2.1,())) fun r14=>
 .br r14.1 (
 .ob (Be (u3.1,()) ((0:Int),()) ((4294967295:Int),())) fun r15=>
 .br r15.1 (
 .ob (Be (u3.2.1,()) ((0:Int),()) ((281474976710655:Int),())) fun r16=>
 .br r16.1 (
 .br ((a0.2.2.2.2.2.2.2.2.2.2.1.length:Int)==(16:Int)) (
 .ob (Ado (a0.1,()) ((a0.2.2.2.2.2.2.2.2.2.1.length:Int),())) fun r17=>
 .br r17.1 (
 .ob (Ic a0 (a0.1,(0:Int),([]:List YB),u1.2.1,(0:Int),([]:List YB),([]:List YB),u3.1,u3.2.1,u3.2.2.1,u3.2.2.2.1,())) fun r18=>
 .leaf r18) (
 .leaf (false,()))) (
 .leaf (false,()))) (
 .leaf (false,()))) (
 .leaf (false,()))) (
 .leaf (false,()))) (
 .leaf (false,())))))
def Lb (a0:Au):Option ((Bool×Unit)):=(Z6 a0).val
def Pw (x1:(List YB)×(List YB)×Int×Int×Int×Unit):Option (((List YB)×(List YB)×Int×Int×Int×Unit)⊕(YI)):=
 letI u1:=x1.2.2.2;Tree.val (α:=((List YB)×(List YB)×Int×Int×Int×Unit)⊕(YI)) <|
 .br (decide (u1.2.1<u1.1)) (
 .ob (idx x1.1 u1.2.1) fun e2=>
 .ob (idx x1.2.1 u1.2.1) fun e3=>
 .leaf (.inl (x1.1,x1.2.1,(i64.wrap ((BitVec.ofInt (i64.bits) (x1.2.2.1) ||| BitVec.ofInt (i64.bits) ((i64.wrap ((u8.wrap ((BitVec.ofInt (u8.bits) (e2.1) ^^^ BitVec.ofInt (u8.bits) (e3.1)).toNat:Nat)))))).toNat:Nat)),u1.1,(i64.wrap (u1.2.1+(1:Int))),()))) (
 .leaf (.inr (x1.2.2.1,())))
def Ali (a0:YBs) (a1:YBs):Tree (YI):=
 .br ((a0.1.length:Int) != (a1.1.length:Int)) (
 .leaf ((-1:Int),())) (
 .ob (Ay Pw (a0.1,a1.1,(0:Int),(a0.1.length:Int),(0:Int),())) fun o4=>
 .leaf o4)
def Of (a0:YBs) (a1:YBs):Option (YI):=(Ali a0 a1).val
def Adp:Tree (B5):=
 .leaf ((-1:Int),(List.replicate ((32:Int)).toNat ((0:Int),())),())
def Uq:Option (B5):=(Adp).val
def Xk (a0:YI) (a1:YBs):Tree (YEp):=
 .ob (Be a0 ((0:Int),()) ((4294967295:Int),())) fun r1=>
 .br (!r1.1) (
 .leaf ((0:Int),([]:List YB),(0:Int),(0:Int),([]:List YI),())) (
 .br ((a1.1.length:Int) != (32:Int)) (
 .leaf ((0:Int),([]:List YB),(0:Int),(0:Int),([]:List YI),())) (
 .ob (Bu a1) fun r2=>
 .ob Uq fun r3=>
 .leaf (a0.1,r2.1,(0:Int),r3.1,r3.2.1,())))
def Ls (a0:YI) (a1:YBs):Option (YEp):=(Xk a0 a1).val
def Am1 (x1:Int×(List YB)×Int×Unit):Option ((Int×(List YB)×Int×Unit)⊕(YBs)):=
 letI u1:=x1.2.2;Tree.val (α:=(Int×(List YB)×Int×Unit)⊕(YBs)) <|
 .br (decide (u1.1≥(0:Int))) (
 .chk (decide ((0:Int)≤(i64.wrap ((8:Int)*u1.1)))) <|
 .chk (decide (x1.2.1.length+[((u8.wrap ((i64.wrap ((BitVec.ofInt (i64.bits) ((Int.fdiv x1.1 (2^(min ((i64.wrap ((8:Int)*u1.1))).toNat i64.bits)))) &&& BitVec.ofInt (i64.bits) ((255:Int))).toNat:Nat)))),())].length≤4294967296)) <|
 .leaf (.inl (x1.1,(x1.2.1++[((u8.wrap ((i64.wrap ((BitVec.ofInt (i64.bits) ((Int.fdiv x1.1 (2^(min ((i64.wrap ((8:Int)*u1.1))).toNat i64.bits)))) &&& BitVec.ofInt (i64.bits) ((255:Int))).toNat:Nat)))),())]),(i64.wrap (u1.1-(1:Int))),()))) (
 .leaf (.inr (x1.2.1,())))
def At0 (a0:YBs) (a1:YI) (a2:YI):Tree (YBs):=
 .chk (decide (([]:List YB).length+a0.1.length≤4294967296)) <|
 .br (decide (a2.1<(1:Int))) (
 .leaf ((([]:List YB)++a0.1),())) (
 .br (decide (a2.1>(6:Int))) (
 .leaf ((([]:List YB)++a0.1),())) (
 .ob (Ay Am1 (a1.1,(([]:List YB)++a0.1),(i64.wrap (a2.1-(1:Int))),())) fun o2=>
 .leaf o2))
def I2 (a0:YBs) (a1:YI) (a2:YI):Option (YBs):=(At0 a0 a1 a2).val
def Jf (x1:(List YB)×(List YBs)×Int×Int×Unit):Option (((List YB)×(List YBs)×Int×Int×Unit)⊕(YBs)):=
 letI u1:=x1.2.2;Tree.val (α:=((List YB)×(List YBs)×Int×Int×Unit)⊕(YBs)) <|
 .br (decide (u1.2.1<u1.1)) (
 .ob (idx x1.2.1 u1.2.1) fun e2=>
 .chk (decide (x1.1.length+e2.1.length≤4294967296)) <|
 .leaf (.inl ((x1.1++e2.1),x1.2.1,u1.1,(i64.wrap (u1.2.1+(1:Int))),()))) (
 .leaf (.inr (x1.1,())))
def Adq (a0:(List YBs)×Unit):Tree (YBs):=
 .ob (Ay Jf (([]:List YB),a0.1,(a0.1.length:Int),(0:Int),())) fun o3=>
 .leaf o3
def F8 (a0:(List YBs)×Unit):Option (YBs):=(Adq a0).val
def Adr (a0:YI) (a1:YBs) (a2:YI) (a3:YI):Tree (YBs):=
 .ob (Mr a0) fun r1=>
 .br (!r1.1) (
 .leaf (([]:List YB),())) (
 .ob (D4 a1) fun r2=>
 .br (!r2.1) (
 .leaf (([]:List YB),())) (
 .ob (Be a2 ((0:Int),()) ((4294967295:Int),())) fun r3=>
 .br (!r3.1) (
 .leaf (([]:List YB),())) (
 .ob (Be a3 ((0:Int),()) ((281474976710655:Int),())) fun r4=>
 .br (!r4.1) (
 .leaf (([]:List YB),())) (
 .ob (I2 (([]:List YB),()) a2 ((4:Int),())) fun r5=>
 .ob (I2 (([]:List YB),()) a3 ((6:Int),())) fun r6=>
 .ob (F8 ([([((u8.wrap (a0.1)),())],()),a1,r5,r6],())) fun r7=>
 .leaf r7))))
def Px (a0:YI) (a1:YBs) (a2:YI) (a3:YI):Option (YBs):=(Adr a0 a1 a2 a3).val
def V7 (a0:YI) (a1:Au):Tree (YBs):=
 letI u1:=a1.2.2.2.2.2.2.2;.ob (Mr a0) fun r1=>
 .br (!r1.1) (
 .leaf (([]:List YB),())) (
 .ob (Ms (a1.1,())) fun r2=>
 .br (!r2.1) (
 .leaf (([]:List YB),())) (
 .ob (Lb a1) fun r3=>
 .br (!r3.1) (
 .leaf (([]:List YB),())) (
 .ob (Px a0 (a1.2.2.2.1,()) (u1.1,()) (u1.2.1,())) fun r4=>
 .ob (F8 ([([((116:Int),())],()),r4,([((u8.wrap (a1.1)),())],()),(u1.2.2.1,())],())) fun r5=>
 .leaf r5)))
def Hw (a0:YI) (a1:Au):Option (YBs):=(V7 a0 a1).val
def Ads (a0:B5) (a1:YI):Tree ((Bool×Unit)):=
 .ob (Xj a0) fun r1=>
 .br (!r1.1) (
 .leaf (false,())) (
 .ob (Be a1 ((0:Int),()) ((281474976710655:Int),())) fun r2=>
 .br (!r2.1) (
 .leaf (false,())) (
 .br (decide (a1.1>a0.1)) (
 .leaf (true,())) (
 .br (decide (a1.1≥(i64.wrap ((i64.wrap (a0.1-(1024:Int)))+(1:Int))))) (
 .ob (Pu a0 a1) fun r3=>
 .leaf ((!r3.1),())) (
 .leaf (false,())))))
def Adt (a0:B5) (a1:YI):Option ((Bool×Unit)):=(Ads a0 a1).val
def Jg (x3:Int×Int×Int×(List YI)×Int×(List YI)×Int×(List YI)×Unit):Option ((Int×Int×Int×(List YI)×Int×(List YI)×Int×(List YI)×Unit)⊕((Int×Int×(List YI)×Int×(List YI)×Int×(List YI)×Unit))):=
 letI u1:=x3.2.2;letI u2:=u1.2.2;letI u3:=u2.2.2;Tree.val (α:=(Int×Int×Int×(List YI)×Int×(List YI)×Int×(List YI)×Unit)⊕((Int×Int×(List YI)×Int×(List YI)×Int×(List YI)×Unit))) <|
 .br (decide (x3.2.1<x3.1)) (
 .chk (decide ((0:Int)≤x3.2.1)) <|
 .chk (decide ((0:Int)≤(x3.2.1%(1024:Int)))) <|
 .ob (idx u3.2.1 ((x3.2.1%(1024:Int))/(32:Int))) fun e4=>
 .chk (decide ((0:Int)≤x3.2.1)) <|
 .chk (decide ((0:Int)≤(x3.2.1%(32:Int)))) <|
 .ob (idx u3.2.1 ((x3.2.1%(1024:Int))/(32:Int))) fun e5=>
 let q6:=(x3.2.2.2.2.2.2.2.1.set (((x3.2.1%(1024:Int))/(32:Int))).toNat ((i64.wrap ((BitVec.ofInt (i64.bits) (e4.1) &&& ~~~ BitVec.ofInt (i64.bits) ((i64.wrap ((1:Int)*2^(min ((x3.2.1%(32:Int))).toNat i64.bits))))).toNat:Nat)),()))
 .leaf (.inl (x3.1,(i64.wrap (x3.2.1+(1:Int))),u1.1,u1.2.1,u2.1,u2.2.1,u3.1,q6,()))) (
 .leaf (.inr (x3.1,u1.1,u1.2.1,u2.1,u2.2.1,u3.1,u3.2.1,())))
def Adu (a0:B5) (a1:YI):Tree (B5×(Bool×Unit)):=
 .ob (Sv a0) fun r1=>
 .ob (Adt a0 a1) fun r2=>
 .br (!r2.1) (
 .leaf (r1,(false,()))) (
 .ob (Ay Jg (a1.1,(if (i64.wrap (a0.1+(1:Int)))<(i64.wrap ((i64.wrap (a1.1-(1024:Int)))+(1:Int)))then(i64.wrap ((i64.wrap (a1.1-(1024:Int)))+(1:Int)))else(i64.wrap (a0.1+(1:Int)))),a0.1,a0.2.1,(0:Int),([]:List YI),r1.1,r1.2.1,())) fun o7=>
 .chk (decide ((0:Int)≤o7.1)) <|
 .chk (decide ((0:Int)≤(o7.1%(1024:Int)))) <|
 .ob (idx o7.2.2.2.2.2.2.1 ((o7.1%(1024:Int))/(32:Int))) fun e8=>
 .chk (decide ((0:Int)≤o7.1)) <|
 .chk (decide ((0:Int)≤(o7.1%(32:Int)))) <|
 .ob (idx o7.2.2.2.2.2.2.1 ((o7.1%(1024:Int))/(32:Int))) fun e9=>
 let q10:=(o7.2.2.2.2.2.2.1.set (((o7.1%(1024:Int))/(32:Int))).toNat ((i64.wrap ((BitVec.ofInt (i64.bits) (e8.1) ||| BitVec.ofInt (i64.bits) ((i64.wrap ((1:Int)*2^(min ((o7.1%(32:Int))).toNat i64.bits))))).toNat:Nat)),()))
 .leaf (((if o7.2.1<o7.1 then o7.1 else o7.2.1),q10,()),(true,())))
def Adv (a0:B5) (a1:YI):Option (B5×(Bool×Unit)):=(Adu a0 a1).val
def Arg:Tree (((List YI)×Unit)):=
 .leaf ([((1779033703:Int),()),((3144134277:Int),()),((1013904242:Int),()),((2773480762:Int),()),((1359893119:Int),()),((2600822924:Int),()),((528734635:Int),()),((1541459225:Int),())],())
def A2d:Option (((List YI)×Unit)):=(Arg).val
def Aj1:Tree (J8):=
 .ob A2d fun r1=>
 .leaf (r1.1,([]:List YB),(0:Int),())
def Aj2:Option (J8):=(Aj1).val
def Adw (a0:J8):Tree ((Bool×Unit)):=
 .ob (Lr (a0.1,()) ((8:Int),())) fun r1=>
 .br r1.1 (
 .ob (Be (a0.2.2.1,()) ((0:Int),()) ((1048576:Int),())) fun r2=>
 .br r2.1 (
 .chk (decide ((0:Int)≤a0.2.2.1)) <|
 .leaf (((a0.2.2.1%(64:Int))==(a0.2.1.length:Int)),())) (
 .leaf (false,()))) (
 .leaf (false,()))
def Ur (a0:J8):Option ((Bool×Unit)):=(Adw a0).val
def App (a0:YBs) (a1:YI) (a2:YI):Tree (YBs×(Bool×Unit)):=
 .br (decide (a1.1<(0:Int))) (
 .leaf ((([]:List YB),()),(false,()))) (
 .br (decide (a2.1<(0:Int))) (
 .leaf ((([]:List YB),()),(false,()))) (
 .br (decide (a1.1>(a0.1.length:Int))) (
 .leaf ((([]:List YB),()),(false,()))) (
 .br (decide (a2.1>(i64.wrap ((a0.1.length:Int)-a1.1)))) (
 .leaf ((([]:List YB),()),(false,()))) (
 .chk (decide ((0:Int)≤a1.1)) <|
 .chk (decide (a1.1≤(i64.wrap (a1.1+a2.1)))) <|
 .chk (decide ((i64.wrap (a1.1+a2.1))≤(a0.1.length:Int))) <|
 .chk (decide (([]:List YB).length+((a0.1.take ((i64.wrap (a1.1+a2.1))).toNat).drop (a1.1).toNat).length≤4294967296)) <|
 .leaf (((([]:List YB)++((a0.1.take ((i64.wrap (a1.1+a2.1))).toNat).drop (a1.1).toNat)),()),(true,()))))))
def Apq (a0:YBs) (a1:YI) (a2:YI):Option (YBs×(Bool×Unit)):=(App a0 a1 a2).val
def Mt (x2:Int×Int×Int×(List YB)×Int×Int×Unit):Option ((Int×Int×Int×(List YB)×Int×Int×Unit)⊕((Int×Int×Int×Unit))):=
 letI u1:=x2.2.2;letI u2:=u1.2.2;Tree.val (α:=(Int×Int×Int×(List YB)×Int×Int×Unit)⊕((Int×Int×Int×Unit))) <|
 .br (decide (u2.2.1<u2.1)) (
 .ob (idx u1.2.1 u2.2.1) fun e3=>
 .leaf (.inl (x2.1,x2.2.1,(i64.wrap ((i64.wrap ((256:Int)*u1.1))+(i64.wrap (e3.1)))),u1.2.1,u2.1,(i64.wrap (u2.2.1+(1:Int))),()))) (
 .leaf (.inr (x2.1,x2.2.1,u1.1,())))
def Alj (a0:YBs) (a1:YI) (a2:YI):Tree (YI×YI×(Bool×Unit)):=
 .br (decide (a2.1<(1:Int))) (
 .leaf (((0:Int),()),((0:Int),()),(false,()))) (
 .br (decide (a2.1>(6:Int))) (
 .leaf (((0:Int),()),((0:Int),()),(false,()))) (
 .ob (Apq a0 a1 a2) fun r1=>
 .br (!r1.2.1) (
 .leaf (((0:Int),()),((0:Int),()),(false,()))) (
 .ob (Ay Mt (a1.1,a2.1,(0:Int),r1.1.1,(r1.1.1.length:Int),(0:Int),())) fun o4=>
 .leaf ((o4.2.2.1,()),((i64.wrap (o4.1+o4.2.1)),()),(true,())))))
def Alk (a0:YBs) (a1:YI) (a2:YI):Option (YI×YI×(Bool×Unit)):=(Alj a0 a1 a2).val
def Apr (a0:YI) (a1:YI):Tree (YI):=
 .br (decide (a1.1<(0:Int))) (
 .leaf ((i64.wrap ((BitVec.ofInt (i64.bits) (a0.1) &&& BitVec.ofInt (i64.bits) ((4294967295:Int))).toNat:Nat)),())) (
 .br (decide (a1.1>(31:Int))) (
 .leaf ((i64.wrap ((BitVec.ofInt (i64.bits) (a0.1) &&& BitVec.ofInt (i64.bits) ((4294967295:Int))).toNat:Nat)),())) (
 .chk (decide ((0:Int)≤a1.1)) <|
 .chk (decide ((0:Int)≤(i64.wrap ((32:Int)-a1.1)))) <|
 .leaf ((i64.wrap ((BitVec.ofInt (i64.bits) ((i64.wrap ((BitVec.ofInt (i64.bits) ((Int.fdiv (i64.wrap ((BitVec.ofInt (i64.bits) (a0.1) &&& BitVec.ofInt (i64.bits) ((4294967295:Int))).toNat:Nat)) (2^(min (a1.1).toNat i64.bits)))) ||| BitVec.ofInt (i64.bits) ((i64.wrap ((i64.wrap ((BitVec.ofInt (i64.bits) (a0.1) &&& BitVec.ofInt (i64.bits) ((4294967295:Int))).toNat:Nat))*2^(min ((i64.wrap ((32:Int)-a1.1))).toNat i64.bits))))).toNat:Nat))) &&& BitVec.ofInt (i64.bits) ((4294967295:Int))).toNat:Nat)),())))
def Id (a0:YI) (a1:YI):Option (YI):=(Apr a0 a1).val
def Hp (x1:(List YB)×(List YI)×Int×Unit):Option (((List YB)×(List YI)×Int×Unit)⊕(((List YI)×Unit))):=
 letI u1:=x1.2.2;Tree.val (α:=((List YB)×(List YI)×Int×Unit)⊕(((List YI)×Unit))) <|
 .br (decide (u1.1<(16:Int))) (
 .ob (Alk (x1.1,()) ((i64.wrap ((4:Int)*u1.1)),()) ((4:Int),())) fun r2=>
 .ob (idx x1.2.1 u1.1) fun e3=>
 let q4:=(x1.2.1.set (u1.1).toNat r2.1)
 .leaf (.inl (x1.1,q4,(i64.wrap (u1.1+(1:Int))),()))) (
 .leaf (.inr (x1.2.1,())))
def Hq (x6:(List YI)×Int×Unit):Option (((List YI)×Int×Unit)⊕(((List YI)×Unit))):=
 Tree.val (α:=((List YI)×Int×Unit)⊕(((List YI)×Unit))) <|
 .br (decide (x6.2.1<(64:Int))) (
 .ob (idx x6.1 (i64.wrap (x6.2.1-(15:Int)))) fun e7=>
 .ob (idx x6.1 (i64.wrap (x6.2.1-(2:Int)))) fun e8=>
 .ob (Id e7 ((7:Int),())) fun r9=>
 .ob (Id e7 ((18:Int),())) fun r10=>
 .ob (Id e8 ((17:Int),())) fun r11=>
 .ob (Id e8 ((19:Int),())) fun r12=>
 .ob (idx x6.1 (i64.wrap (x6.2.1-(7:Int)))) fun e13=>
 .ob (idx x6.1 (i64.wrap (x6.2.1-(16:Int)))) fun e14=>
 .ob (idx x6.1 x6.2.1) fun e15=>
 let q16:=(x6.1.set (x6.2.1).toNat ((i64.wrap ((BitVec.ofInt (i64.bits) ((i64.wrap ((i64.wrap ((i64.wrap (e13.1+e14.1))+(i64.wrap ((BitVec.ofInt (i64.bits) ((i64.wrap ((BitVec.ofInt (i64.bits) (r9.1) ^^^ BitVec.ofInt (i64.bits) (r10.1)).toNat:Nat))) ^^^ BitVec.ofInt (i64.bits) ((Int.fdiv e7.1 (2^(min ((3:Int)).toNat i64.bits))))).toNat:Nat))))+(i64.wrap ((BitVec.ofInt (i64.bits) ((i64.wrap ((BitVec.ofInt (i64.bits) (r11.1) ^^^ BitVec.ofInt (i64.bits) (r12.1)).toNat:Nat))) ^^^ BitVec.ofInt (i64.bits) ((Int.fdiv e8.1 (2^(min ((10:Int)).toNat i64.bits))))).toNat:Nat))))) &&& BitVec.ofInt (i64.bits) ((4294967295:Int))).toNat:Nat)),()))
 .leaf (.inl (q16,(i64.wrap (x6.2.1+(1:Int))),()))) (
 .leaf (.inr (x6.1,())))
def Py (a0:YBs):Tree (((List YI)×Unit)):=
 .br ((a0.1.length:Int) != (64:Int)) (
 .leaf (([]:List YI),())) (
 .ob (Ay Hp (a0.1,(List.replicate ((64:Int)).toNat ((0:Int),())),(0:Int),())) fun o5=>
 .ob (Ay Hq (o5.1,(16:Int),())) fun o17=>
 .leaf o17)
def V8 (a0:YBs):Option (((List YI)×Unit)):=(Py a0).val
def Afx (a0:YI):Tree YI:=.leaf (Ta a0.1,())
def Afy (a0:YI):Option YI:=(Afx a0).val
def Arh (a0:YI) (a1:YI):Tree (YI):=
 .leaf ((i64.wrap ((BitVec.ofInt (i64.bits) ((i64.wrap (a0.1+a1.1))) &&& BitVec.ofInt (i64.bits) ((4294967295:Int))).toNat:Nat)),())
def Xl (a0:YI) (a1:YI):Option (YI):=(Arh a0 a1).val
def F2 (x11:(List YI)×(List YI)×(List YI)×Int×Int×Int×Int×Int×Int×Int×Int×Int×Unit):Option (((List YI)×(List YI)×(List YI)×Int×Int×Int×Int×Int×Int×Int×Int×Int×Unit)⊕(((List YI)×(List YI)×Int×Int×Int×Int×Int×Int×Int×Int×Unit))):=
 letI u1:=x11.2.2.2;letI u2:=u1.2.2;letI u3:=u2.2.2;letI u4:=u3.2.2;Tree.val (α:=((List YI)×(List YI)×(List YI)×Int×Int×Int×Int×Int×Int×Int×Int×Int×Unit)⊕(((List YI)×(List YI)×Int×Int×Int×Int×Int×Int×Int×Int×Unit))) <|
 .br (decide (u4.2.2.1<(64:Int))) (
 .ob (Id (u3.1,()) ((6:Int),())) fun r12=>
 .ob (Id (u3.1,()) ((11:Int),())) fun r13=>
 .ob (Id (u3.1,()) ((25:Int),())) fun r14=>
 .ob (Afy (u4.2.2.1,())) fun r15=>
 .ob (idx x11.2.2.1 u4.2.2.1) fun e16=>
 .ob (Id (u1.1,()) ((2:Int),())) fun r17=>
 .ob (Id (u1.1,()) ((13:Int),())) fun r18=>
 .ob (Id (u1.1,()) ((22:Int),())) fun r19=>
 .ob (Xl (u2.2.1,()) ((i64.wrap ((i64.wrap ((i64.wrap ((i64.wrap (u4.2.1+(i64.wrap ((BitVec.ofInt (i64.bits) ((i64.wrap ((BitVec.ofInt (i64.bits) (r12.1) ^^^ BitVec.ofInt (i64.bits) (r13.1)).toNat:Nat))) ^^^ BitVec.ofInt (i64.bits) (r14.1)).toNat:Nat))))+(i64.wrap ((BitVec.ofInt (i64.bits) ((i64.wrap ((BitVec.ofInt (i64.bits) (u3.1) &&& BitVec.ofInt (i64.bits) (u3.2.1)).toNat:Nat))) ^^^ BitVec.ofInt (i64.bits) ((i64.wrap ((BitVec.ofInt (i64.bits) ((i64.wrap ((BitVec.ofInt (i64.bits) ((4294967295:Int)) ^^^ BitVec.ofInt (i64.bits) (u3.1)).toNat:Nat))) &&& BitVec.ofInt (i64.bits) (u4.1)).toNat:Nat)))).toNat:Nat))))+r15.1))+e16.1)),())) fun r20=>
 .ob (Xl ((i64.wrap ((i64.wrap ((i64.wrap ((i64.wrap (u4.2.1+(i64.wrap ((BitVec.ofInt (i64.bits) ((i64.wrap ((BitVec.ofInt (i64.bits) (r12.1) ^^^ BitVec.ofInt (i64.bits) (r13.1)).toNat:Nat))) ^^^ BitVec.ofInt (i64.bits) (r14.1)).toNat:Nat))))+(i64.wrap ((BitVec.ofInt (i64.bits) ((i64.wrap ((BitVec.ofInt (i64.bits) (u3.1) &&& BitVec.ofInt (i64.bits) (u3.2.1)).toNat:Nat))) ^^^ BitVec.ofInt (i64.bits) ((i64.wrap ((BitVec.ofInt (i64.bits) ((i64.wrap ((BitVec.ofInt (i64.bits) ((4294967295:Int)) ^^^ BitVec.ofInt (i64.bits) (u3.1)).toNat:Nat))) &&& BitVec.ofInt (i64.bits) (u4.1)).toNat:Nat)))).toNat:Nat))))+r15.1))+e16.1)),()) ((i64.wrap ((i64.wrap ((BitVec.ofInt (i64.bits) ((i64.wrap ((BitVec.ofInt (i64.bits) (r17.1) ^^^ BitVec.ofInt (i64.bits) (r18.1)).toNat:Nat))) ^^^ BitVec.ofInt (i64.bits) (r19.1)).toNat:Nat))+(i64.wrap ((BitVec.ofInt (i64.bits) ((i64.wrap ((BitVec.ofInt (i64.bits) ((i64.wrap ((BitVec.ofInt (i64.bits) (u1.1) &&& BitVec.ofInt (i64.bits) (u1.2.1)).toNat:Nat))) ^^^ BitVec.ofInt (i64.bits) ((i64.wrap ((BitVec.ofInt (i64.bits) (u1.1) &&& BitVec.ofInt (i64.bits) (u2.1)).toNat:Nat)))).toNat:Nat))) ^^^ BitVec.ofInt (i64.bits) ((i64.wrap ((BitVec.ofInt (i64.bits) (u1.2.1) &&& BitVec.ofInt (i64.bits) (u2.1)).toNat:Nat)))).toNat:Nat)))),())) fun r21=>
 .leaf (.inl (x11.1,x11.2.1,x11.2.2.1,r21.1,u1.1,u1.2.1,u2.1,r20.1,u3.1,u3.2.1,u4.1,(i64.wrap (u4.2.2.1+(1:Int))),()))) (
 .leaf (.inr (x11.1,x11.2.1,u1.1,u1.2.1,u2.1,u2.2.1,u3.1,u3.2.1,u4.1,u4.2.1,())))
def Fl (x23:(List YI)×(List YI)×(List YI)×Int×Int×Unit):Option (((List YI)×(List YI)×(List YI)×Int×Int×Unit)⊕(((List YI)×Unit))):=
 letI u1:=x23.2.2;letI u2:=u1.2.2;Tree.val (α:=((List YI)×(List YI)×(List YI)×Int×Int×Unit)⊕(((List YI)×Unit))) <|
 .br (decide (u2.1<u1.2.1)) (
 .ob (idx u1.1 u2.1) fun e24=>
 .ob (idx x23.1 u2.1) fun e25=>
 .ob (Xl e25 e24) fun r26=>
 .ob (idx x23.2.1 u2.1) fun e27=>
 let q28:=(x23.2.1.set (u2.1).toNat r26)
 .leaf (.inl (x23.1,q28,u1.1,u1.2.1,(i64.wrap (u2.1+(1:Int))),()))) (
 .leaf (.inr (x23.2.1,())))
def Pz (a0:(List YI)×Unit) (a1:YBs):Tree (((List YI)×Unit)):=
 .chk (decide (([]:List YI).length+a0.1.length≤4294967296)) <|
 .ob (Lr a0 ((8:Int),())) fun r1=>
 .br (!r1.1) (
 .leaf ((([]:List YI)++a0.1),())) (
 .br ((a1.1.length:Int) != (64:Int)) (
 .leaf ((([]:List YI)++a0.1),())) (
 .ob (V8 a1) fun r2=>
 .ob (idx a0.1 (0:Int)) fun e3=>
 .ob (idx a0.1 (1:Int)) fun e4=>
 .ob (idx a0.1 (2:Int)) fun e5=>
 .ob (idx a0.1 (3:Int)) fun e6=>
 .ob (idx a0.1 (4:Int)) fun e7=>
 .ob (idx a0.1 (5:Int)) fun e8=>
 .ob (idx a0.1 (6:Int)) fun e9=>
 .ob (idx a0.1 (7:Int)) fun e10=>
 .ob (Ay F2 (a0.1,(([]:List YI)++a0.1),r2.1,e3.1,e4.1,e5.1,e6.1,e7.1,e8.1,e9.1,e10.1,(0:Int),())) fun o22=>letI u1:=o22.2.2;letI u2:=u1.2.2;letI u3:=u2.2.2.2;
 .ob (Ay Fl (o22.1,o22.2.1,[(u1.1,()),(u1.2.1,()),(u2.1,()),(u2.2.1,()),(u2.2.2.1,()),(u3.1,()),(u3.2.1,()),(u3.2.2.1,())],([(u1.1,()),(u1.2.1,()),(u2.1,()),(u2.2.1,()),(u2.2.2.1,()),(u3.1,()),(u3.2.1,()),(u3.2.2.1,())].length:Int),(0:Int),())) fun o29=>
 .leaf o29))
def Lu (a0:(List YI)×Unit) (a1:YBs):Option (((List YI)×Unit)):=(Pz a0 a1).val
def Eu (x3:(List YI)×(List YB)×Unit):Option (((List YI)×(List YB)×Unit)⊕(((List YI)×(List YB)×Unit))):=
 Tree.val (α:=((List YI)×(List YB)×Unit)⊕(((List YI)×(List YB)×Unit))) <|
 .br (decide ((x3.2.1.length:Int)≥(64:Int))) (
 .chk (decide ((64:Int)≤(x3.2.1.length:Int))) <|
 .ob (Lu (x3.1,()) (((x3.2.1.take ((64:Int)).toNat).drop ((0:Int)).toNat),())) fun r4=>
 .chk (decide ((64:Int)≤(x3.2.1.length:Int))) <|
 .chk (decide ((x3.2.1.length:Int)≤(x3.2.1.length:Int))) <|
 .leaf (.inl (r4.1,((x3.2.1.take ((x3.2.1.length:Int)).toNat).drop ((64:Int)).toNat),()))) (
 .leaf (.inr x3))
def P0 (a0:(List YI)×Unit) (a1:YBs):Tree (((List YI)×Unit)×YBs):=
 .ob (Ay Eu (a0.1,a1.1,())) fun o5=>
 .leaf ((o5.1,()),(o5.2.1,()))
def Lg (a0:(List YI)×Unit) (a1:YBs):Option (((List YI)×Unit)×YBs):=(P0 a0 a1).val
def Z7 (a0:J8) (a1:YBs):Tree (J8):=
 .ob (Ur a0) fun r1=>
 .br (!r1.1) (
 .chk (decide (([]:List YI).length+a0.1.length≤4294967296)) <|
 .ob (Bu (a0.2.1,())) fun r2=>
 .leaf ((([]:List YI)++a0.1),r2.1,a0.2.2.1,())) (
 .br (decide ((a1.1.length:Int)>(i64.wrap ((1048576:Int)-a0.2.2.1)))) (
 .chk (decide (([]:List YI).length+a0.1.length≤4294967296)) <|
 .ob (Bu (a0.2.1,())) fun r3=>
 .leaf ((([]:List YI)++a0.1),r3.1,a0.2.2.1,())) (
 .ob (F8 ([(a0.2.1,()),a1],())) fun r4=>
 .ob (Lg (a0.1,()) r4) fun r5=>
 .chk (decide (([]:List YI).length+r5.1.1.length≤4294967296)) <|
 .ob (Bu r5.2) fun r6=>
 .leaf ((([]:List YI)++r5.1.1),r6.1,(i64.wrap (a0.2.2.1+(a1.1.length:Int))),())))
def Z8 (a0:J8) (a1:YBs):Option (J8):=(Z7 a0 a1).val
def Lv (x2:Int×(List YB)×Unit):Option ((Int×(List YB)×Unit)⊕((Int×(List YB)×Unit))):=
 Tree.val (α:=(Int×(List YB)×Unit)⊕((Int×(List YB)×Unit))) <|
 .chk (decide ((0:Int)≤(i64.wrap ((i64.wrap (x2.1+(x2.2.1.length:Int)))+(8:Int))))) <|
 .br (((i64.wrap ((i64.wrap (x2.1+(x2.2.1.length:Int)))+(8:Int)))%(64:Int)) != (0:Int)) (
 .chk (decide (x2.2.1.length+[((0:Int),())].length≤4294967296)) <|
 .leaf (.inl (x2.1,(x2.2.1++[((0:Int),())]),()))) (
 .leaf (.inr x2))
def Aps (a0:YI):Tree (YBs):=
 .ob (Be a0 ((0:Int),()) ((1048576:Int),())) fun r1=>
 .br (!r1.1) (
 .leaf (([]:List YB),())) (
 .ob (Ay Lv (a0.1,[((128:Int),())],())) fun o3=>
 .chk (decide (o3.2.1.length+[((0:Int),()),((0:Int),())].length≤4294967296)) <|
 .ob (I2 ((o3.2.1++[((0:Int),()),((0:Int),())]),()) ((i64.wrap ((8:Int)*o3.1)),()) ((6:Int),())) fun r4=>
 .leaf r4)
def Apt (a0:YI):Option (YBs):=(Aps a0).val
def Gq (x1:(List YB)×(List YI)×Int×Int×Unit):Option (((List YB)×(List YI)×Int×Int×Unit)⊕(YBs)):=
 letI u1:=x1.2.2;Tree.val (α:=((List YB)×(List YI)×Int×Int×Unit)⊕(YBs)) <|
 .br (decide (u1.2.1<u1.1)) (
 .ob (idx x1.2.1 u1.2.1) fun e2=>
 .ob (I2 (x1.1,()) e2 ((4:Int),())) fun r3=>
 .leaf (.inl (r3.1,x1.2.1,u1.1,(i64.wrap (u1.2.1+(1:Int))),()))) (
 .leaf (.inr (x1.1,())))
def T8 (a0:(List YI)×Unit):Tree (YBs):=
 .ob (Ay Gq (([]:List YB),a0.1,(a0.1.length:Int),(0:Int),())) fun o4=>
 .leaf o4
def T9 (a0:(List YI)×Unit):Option (YBs):=(T8 a0).val
def Z9 (a0:J8):Tree (YBs):=
 .ob (Ur a0) fun r1=>
 .br (!r1.1) (
 .leaf (([]:List YB),())) (
 .ob (Apt (a0.2.2.1,())) fun r2=>
 .ob (F8 ([(a0.2.1,()),r2],())) fun r3=>
 .ob (Lg (a0.1,()) r3) fun r4=>
 .ob (T9 r4.1) fun r5=>
 .leaf r5)
def Aaa (a0:J8):Option (YBs):=(Z9 a0).val
def Apu (a0:YBs):Tree (YBs):=
 .br (decide ((a0.1.length:Int)>(1048576:Int))) (
 .leaf (([]:List YB),())) (
 .ob Aj2 fun r1=>
 .ob (Z8 r1 a0) fun r2=>
 .ob (Aaa r2) fun r3=>
 .leaf r3)
def Abj (a0:YBs):Option (YBs):=(Apu a0).val
def Fb (x3:YBs):Option (YBs⊕(YBs)):=
 Tree.val (α:=YBs⊕(YBs)) <|
 .br (decide ((x3.1.length:Int)<(64:Int))) (
 .chk (decide (x3.1.length+[((0:Int),())].length≤4294967296)) <|
 .leaf (.inl ((x3.1++[((0:Int),())]),()))) (
 .leaf (.inr x3))
def V9 (a0:YBs):Tree (YBs):=
 .br (decide ((a0.1.length:Int)>(1048576:Int))) (
 .leaf (([]:List YB),())) (
 .ob (Bu a0) fun r1=>
 .br (decide ((a0.1.length:Int)>(64:Int))) (
 .ob (Abj a0) fun r2=>
 .ob (Ay Fb r2) fun o4=>
 .leaf o4) (
 .ob (Ay Fb r1) fun o5=>
 .leaf o5))
def Wa (a0:YBs):Option (YBs):=(V9 a0).val
def Jh (x1:Int×(List YB)×(List YB)×Int×Int×Unit):Option ((Int×(List YB)×(List YB)×Int×Int×Unit)⊕(YBs)):=
 letI u1:=x1.2.2;Tree.val (α:=(Int×(List YB)×(List YB)×Int×Int×Unit)⊕(YBs)) <|
 .br (decide (u1.2.2.1<u1.2.1)) (
 .ob (idx u1.1 u1.2.2.1) fun e2=>
 .chk (decide (x1.2.1.length+[((u8.wrap ((BitVec.ofInt (u8.bits) (e2.1) ^^^ BitVec.ofInt (u8.bits) (x1.1)).toNat:Nat)),())].length≤4294967296)) <|
 .leaf (.inl (x1.1,(x1.2.1++[((u8.wrap ((BitVec.ofInt (u8.bits) (e2.1) ^^^ BitVec.ofInt (u8.bits) (x1.1)).toNat:Nat)),())]),u1.1,u1.2.1,(i64.wrap (u1.2.2.1+(1:Int))),()))) (
 .leaf (.inr (x1.2.1,())))
def Adx (a0:YBs) (a1:YB):Tree (YBs):=
 .ob (Ay Jh (a1.1,([]:List YB),a0.1,(a0.1.length:Int),(0:Int),())) fun o3=>
 .leaf o3
def Us (a0:YBs) (a1:YB):Option (YBs):=(Adx a0 a1).val
def All (a0:YBs) (a1:YBs):Tree (YBs):=
 .br (decide ((a0.1.length:Int)>(1048576:Int))) (
 .leaf (([]:List YB),())) (
 .br (decide ((a1.1.length:Int)>(1048512:Int))) (
 .leaf (([]:List YB),())) (
 .ob (Wa a0) fun r1=>
 .ob (Us r1 ((92:Int),())) fun r2=>
 .ob (Us r1 ((54:Int),())) fun r3=>
 .ob (F8 ([r3,a1],())) fun r4=>
 .ob (Abj r4) fun r5=>
 .ob (F8 ([r2,r5],())) fun r6=>
 .ob (Abj r6) fun r7=>
 .leaf r7))
def Wb (a0:YBs) (a1:YBs):Option (YBs):=(All a0 a1).val
def Apv (a0:YBs) (a1:YBs):Tree (YBs):=
 .ob (Wb a0 a1) fun r1=>
 .br ((r1.1.length:Int)==(0:Int)) (
 .leaf (([]:List YB),())) (
 .chk (decide ((16:Int)≤(r1.1.length:Int))) <|
 .ob (Bu (((r1.1.take ((16:Int)).toNat).drop ((0:Int)).toNat),())) fun r2=>
 .leaf r2)
def Ajb (a0:YBs) (a1:YBs):Option (YBs):=(Apv a0 a1).val
def Aab (a0:YBs) (a1:YBs):Tree ((Bool×Unit)):=
 .br ((a0.1.length:Int)==(16:Int)) (
 .ob (Of a0 a1) fun r1=>
 .leaf ((r1.1==(0:Int)),())) (
 .leaf (false,()))
def Aac (a0:YBs) (a1:YBs):Option ((Bool×Unit)):=(Aab a0 a1).val
def Aad (a0:YBs) (a1:YBs) (a2:YI):Tree (YBs):=
 .ob (Be a2 ((0:Int),()) ((6:Int),())) fun r1=>
 .br (!r1.1) (
 .leaf (([]:List YB),())) (
 .br (decide ((a1.1.length:Int)>(100:Int))) (
 .leaf (([]:List YB),())) (
 .ob (F8 ([([((115:Int),())],()),a1],())) fun r2=>
 .ob (I2 r2 a2 ((4:Int),())) fun r3=>
 .ob (Wb a0 r3) fun r4=>
 .leaf r4))
def Aae (a0:YBs) (a1:YBs) (a2:YI):Option (YBs):=(Aad a0 a1 a2).val
def Ji (x2:(List YB)×(List YB)×Int×(List YB)×Int×Unit):Option (((List YB)×(List YB)×Int×(List YB)×Int×Unit)⊕((Int×(List YB)×Unit))):=
 letI u1:=x2.2.2;Tree.val (α:=((List YB)×(List YB)×Int×(List YB)×Int×Unit)⊕((Int×(List YB)×Unit))) <|
 .br (decide ((x2.2.2.2.1.length:Int)<u1.1)) (
 .ob (Aae (x2.1,()) (x2.2.1,()) (u1.2.2.1,())) fun r3=>
 .chk (decide (x2.2.2.2.1.length+r3.1.length≤4294967296)) <|
 .leaf (.inl (x2.1,x2.2.1,u1.1,(u1.2.1++r3.1),(i64.wrap (u1.2.2.1+(1:Int))),()))) (
 .leaf (.inr (u1.1,u1.2.1,())))
def Ady (a0:YBs) (a1:YBs) (a2:YI):Tree (YBs):=
 .ob (Be a2 ((0:Int),()) ((200:Int),())) fun r1=>
 .br (!r1.1) (
 .leaf (([]:List YB),())) (
 .br (decide ((a1.1.length:Int)>(100:Int))) (
 .leaf (([]:List YB),())) (
 .br (decide ((a0.1.length:Int)>(1048576:Int))) (
 .leaf (([]:List YB),())) (
 .ob (Ay Ji (a0.1,a1.1,a2.1,([]:List YB),(0:Int),())) fun o4=>
 .chk (decide ((0:Int)≤o4.1)) <|
 .chk (decide (o4.1≤(o4.2.1.length:Int))) <|
 .ob (Bu (((o4.2.1.take (o4.1).toNat).drop ((0:Int)).toNat),())) fun r5=>
 .leaf r5)))
def Adz (a0:YBs) (a1:YBs) (a2:YI):Option (YBs):=(Ady a0 a1 a2).val
def Oy (x2:(List YB)×(List YB)×(List YB)×Int×Int×Unit):Option (((List YB)×(List YB)×(List YB)×Int×Int×Unit)⊕(YBs)):=
 letI u1:=x2.2.2.2;Tree.val (α:=((List YB)×(List YB)×(List YB)×Int×Int×Unit)⊕(YBs)) <|
 .br (decide (u1.2.1<u1.1)) (
 .ob (idx x2.2.2.1 u1.2.1) fun e3=>
 .ob (idx x2.1 u1.2.1) fun e4=>
 .chk (decide (x2.2.1.length+[((u8.wrap ((BitVec.ofInt (u8.bits) (e3.1) ^^^ BitVec.ofInt (u8.bits) (e4.1)).toNat:Nat)),())].length≤4294967296)) <|
 .leaf (.inl (x2.1,(x2.2.1++[((u8.wrap ((BitVec.ofInt (u8.bits) (e3.1) ^^^ BitVec.ofInt (u8.bits) (e4.1)).toNat:Nat)),())]),x2.2.2.1,u1.1,(i64.wrap (u1.2.1+(1:Int))),()))) (
 .leaf (.inr (x2.2.1,())))
def Apw (a0:YBs) (a1:YBs) (a2:YBs):Tree (YBs):=
 .br (decide ((a2.1.length:Int)>(200:Int))) (
 .leaf (([]:List YB),())) (
 .br (decide ((a1.1.length:Int)>(100:Int))) (
 .leaf (([]:List YB),())) (
 .br (decide ((a0.1.length:Int)>(1048576:Int))) (
 .leaf (([]:List YB),())) (
 .ob (Adz a0 a1 ((a2.1.length:Int),())) fun r1=>
 .ob (Ay Oy (a2.1,([]:List YB),r1.1,(r1.1.length:Int),(0:Int),())) fun o5=>
 .leaf o5)))
def Ajc (a0:YBs) (a1:YBs) (a2:YBs):Option (YBs):=(Apw a0 a1 a2).val
def Ad0 (a0:YBs) (a1:YI) (a2:Au):Tree (YBs×(Bool×Unit)):=
 letI u1:=a2.2.2.2.2.2.2.2;.ob (Hw a1 a2) fun r1=>
 .br ((a0.1.length:Int) != (32:Int)) (
 .leaf ((([]:List YB),()),(false,()))) (
 .br ((r1.1.length:Int)==(0:Int)) (
 .leaf ((([]:List YB),()),(false,()))) (
 .ob (Ajb a0 r1) fun r2=>
 .ob (Aac (u1.2.2.2.1,()) r2) fun r3=>
 .br (!r3.1) (
 .leaf ((([]:List YB),()),(false,()))) (
 .ob (Px a1 (a2.2.2.2.1,()) (u1.1,()) (u1.2.1,())) fun r4=>
 .ob (Ajc a0 r4 (u1.2.2.1,())) fun r5=>
 .leaf (r5,(true,())))))
def Ad1 (a0:YBs) (a1:YI) (a2:Au):Option (YBs×(Bool×Unit)):=(Ad0 a0 a1 a2).val
def Ad2 (a0:YEp) (a1:YI) (a2:Au):Tree (YEp×YBs×YI):=
 letI u1:=a2.2.2.2.2.2.2.2;.ob (Mq a0) fun r1=>
 .ob (Rl a0) fun r2=>
 .br (!r2.1) (
 .leaf (r1,(([]:List YB),()),((1:Int),()))) (
 .ob (Hw a1 a2) fun r3=>
 .br ((r3.1.length:Int)==(0:Int)) (
 .leaf (r1,(([]:List YB),()),((1:Int),()))) (
 .br (u1.1 != a0.1) (
 .leaf (r1,(([]:List YB),()),((1:Int),()))) (
 .ob (Adv (a0.2.2.2.1,a0.2.2.2.2.1,()) (u1.2.1,())) fun r4=>
 .br (!r4.2.1) (
 .leaf (r1,(([]:List YB),()),((3:Int),()))) (
 .ob (Ad1 (a0.2.1,()) a1 a2) fun r5=>
 .br (!r5.2.1) (
 .leaf (r1,(([]:List YB),()),((2:Int),()))) (
 .leaf ((r1.1,r1.2.1,r1.2.2.1,r4.1.1,r4.1.2.1,()),r5.1,((0:Int),())))))))
def F9 (a0:YEp) (a1:YI) (a2:Au):Option (YEp×YBs×YI):=(Ad2 a0 a1 a2).val
def Rm (a0:Al) (r1:Al) (r8:YEp×YBs×YI) (a1:YI):Tree (Al×YBs×YI):=
 letI u1:=r1.2.2.2.2.2.2.2;letI u2:=u1.2.2;letI u3:=u2.2.2;letI u4:=r8.1.2.2;.br (a0.2.2.2.2.2.2.2.2.2.2.2.2.2.1==(-1:Int)) (
 .leaf ((r1.1,r1.2.1,r8.1.1,r8.1.2.1,u4.1,u4.2.1,u4.2.2.1,u1.1,u1.2.1,u2.1,u2.2.1,u3.1,u3.2.1,(i64.wrap (a1.1+(5:Int))),u3.2.2.2.1,()),r8.2.1,((0:Int),()))) (
 .leaf ((r1.1,r1.2.1,r8.1.1,r8.1.2.1,u4.1,u4.2.1,u4.2.2.1,u1.1,u1.2.1,u2.1,u2.2.1,u3.1,u3.2.1,u3.2.2.1,u3.2.2.2.1,()),r8.2.1,((0:Int),())))
def Jj (a0:Al) (r1:Al) (r8:YEp×YBs×YI) (a1:YI):Tree (Al×YBs×YI):=
 letI u1:=r1.2.2.2.2.2.2.2;letI u2:=u1.2.2.2;.br a0.2.2.2.2.2.2.2.2.2.2.2.2.1 (
 Rm a0 r1 r8 a1) (
 .leaf ((r1.1,r1.2.1,r8.1.1,r8.1.2.1,r8.1.2.2.1,r8.1.2.2.2.1,r8.1.2.2.2.2.1,u1.1,u1.2.1,u1.2.2.1,u2.1,u2.2.1,u2.2.2.1,u2.2.2.2.1,u2.2.2.2.2.1,()),r8.2.1,((0:Int),())))
def Rn (a2:Au) (a0:Al) (r1:Al) (r8:YEp×YBs×YI) (a1:YI):Tree (Al×YBs×YI):=
 letI u1:=r1.2.2;letI u2:=u1.2.2;letI u3:=u2.2.2.2.2.2.2.2.2;letI u4:=r8.1.2.2;.br (a2.2.2.2.2.2.2.2.1==a0.2.2.2.2.2.2.2.1) (
 .leaf ((r1.1,r1.2.1,u1.1,u1.2.1,u2.1,u2.2.1,u2.2.2.1,r8.1.1,r8.1.2.1,u4.1,u4.2.1,u4.2.2.1,u3.1,u3.2.1,u3.2.2.1,()),r8.2.1,((0:Int),()))) (
 .leaf ((r1.1,r1.2.1,r8.1.1,r8.1.2.1,u4.1,u4.2.1,u4.2.2.1,u1.1,u1.2.1,u2.1,u2.2.1,u2.2.2.1,true,(i64.wrap (a1.1+(5:Int))),([]:List YB),()),r8.2.1,((0:Int),())))
def Hr (a2:Au) (a0:Al) (r1:Al) (r8:YEp×YBs×YI) (a1:YI):Tree (Al×YBs×YI):=
 .br (a2.2.2.2.2.2.2.2.1==a0.2.2.1) (
 Jj a0 r1 r8 a1) (
 Rn a2 a0 r1 r8 a1)
def Mu (r8:YEp×YBs×YI) (r1:Al) (a2:Au) (a0:Al) (a1:YI):Tree (Al×YBs×YI):=
 .br (r8.2.2.1 != (0:Int)) (
 .leaf (r1,(([]:List YB),()),r8.2.2)) (
 Hr a2 a0 r1 r8 a1)
def Abk (r7:YEp) (a0:Al) (a2:Au) (r1:Al) (a1:YI):Tree (Al×YBs×YI):=
 .ob (F9 r7 ((i64.wrap ((1:Int)-a0.1)),()) a2) fun r8=>
 Mu r8 r1 a2 a0 a1
def Ro (a0:Al) (a2:Au) (r1:Al) (a1:YI):Tree (Al×YBs×YI):=
 .ob (Ls ((i64.wrap (a0.2.2.1+(1:Int))),()) (a0.2.2.2.2.2.2.2.2.2.2.2.2.2.2.1,())) fun r7=>
 Abk r7 a0 a2 r1 a1
def Mv (a0:Al) (a2:Au) (r1:Al) (a1:YI):Tree (Al×YBs×YI):=
 letI u1:=a0.2.2.2.2.2.2.2;.ob (F9 (u1.1,u1.2.1,u1.2.2.1,u1.2.2.2.1,u1.2.2.2.2.1,()) ((i64.wrap ((1:Int)-a0.1)),()) a2) fun r9=>
 Mu r9 r1 a2 a0 a1
def Abl (a2:Au) (a0:Al) (r1:Al) (a1:YI):Tree (Al×YBs×YI):=
 .br (a2.2.2.2.2.2.2.2.1==(i64.wrap (a0.2.2.1+(1:Int)))) (
 Ro a0 a2 r1 a1) (
 Mv a0 a2 r1 a1)
def Lh (a0:Al) (a2:Au) (r1:Al) (a1:YI):Tree (Al×YBs×YI):=
 letI u1:=a0.2.2.2;.ob (F9 (a0.2.2.1,u1.1,u1.2.1,u1.2.2.1,u1.2.2.2.1,()) ((i64.wrap ((1:Int)-a0.1)),()) a2) fun r12=>
 Mu r12 r1 a2 a0 a1
def P3 (a2:Au) (a0:Al) (r1:Al) (a1:YI):Tree (Al×YBs×YI):=
 .br (a2.2.2.2.2.2.2.2.1==(i64.wrap (a0.2.2.1+(1:Int)))) (
 Ro a0 a2 r1 a1) (
 Lh a0 a2 r1 a1)
def Gr (a2:Au) (a0:Al) (r1:Al) (a1:YI):Tree (Al×YBs×YI):=
 .br (a2.2.2.2.2.2.2.2.1==a0.2.2.2.2.2.2.2.1) (
 Abl a2 a0 r1 a1) (
 P3 a2 a0 r1 a1)
def Xm (a1:YI) (a0:Al) (r1:Al) (a2:Au):Tree (Al×YBs×YI):=
 .br (decide (a1.1>a0.2.2.2.2.2.2.2.2.2.2.2.2.2.1)) (
 .leaf (r1,(([]:List YB),()),((9:Int),()))) (
 Gr a2 a0 r1 a1)
def Xn (a0:Al) (a1:YI) (r1:Al) (a2:Au):Tree (Al×YBs×YI):=
 .br (a0.2.2.2.2.2.2.2.2.2.2.2.2.2.1 != (-1:Int)) (
 Xm a1 a0 r1 a2) (
 Gr a2 a0 r1 a1)
def Gs (a2:Au) (a0:Al) (a1:YI) (r1:Al):Tree (Al×YBs×YI):=
 .br (a2.2.2.2.2.2.2.2.1==a0.2.2.2.2.2.2.2.1) (
 Xn a0 a1 r1 a2) (
 Gr a2 a0 r1 a1)
def Ik (a2:Au) (a0:Al) (r1:Al) (a1:YI):Tree (Al×YBs×YI):=
 .br (a2.2.2.2.2.2.2.2.1==a0.2.2.2.2.2.2.2.1) (
 Mv a0 a2 r1 a1) (
 Lh a0 a2 r1 a1)
def Xo (a1:YI) (a0:Al) (r1:Al) (a2:Au):Tree (Al×YBs×YI):=
 .br (decide (a1.1>a0.2.2.2.2.2.2.2.2.2.2.2.2.2.1)) (
 .leaf (r1,(([]:List YB),()),((9:Int),()))) (
 Ik a2 a0 r1 a1)
def Xp (a0:Al) (a1:YI) (r1:Al) (a2:Au):Tree (Al×YBs×YI):=
 .br (a0.2.2.2.2.2.2.2.2.2.2.2.2.2.1 != (-1:Int)) (
 Xo a1 a0 r1 a2) (
 Ik a2 a0 r1 a1)
def Li (a2:Au) (a0:Al) (a1:YI) (r1:Al):Tree (Al×YBs×YI):=
 .br (a2.2.2.2.2.2.2.2.1==a0.2.2.2.2.2.2.2.1) (
 Xp a0 a1 r1 a2) (
 Ik a2 a0 r1 a1)
def Lj (a2:Au) (a0:Al) (r1:Al) (r76:YEp×YBs×YI) (a1:YI):Tree (Al×YBs×YI):=
 letI u1:=r1.2.2.2;.br (a2.2.2.2.2.2.2.2.1==a0.2.2.1) (
 Jj a0 r1 r76 a1) (
 .leaf ((r1.1,r1.2.1,r76.1.1,r76.1.2.1,r76.1.2.2.1,r76.1.2.2.2.1,r76.1.2.2.2.2.1,r1.2.2.1,u1.1,u1.2.1,u1.2.2.1,u1.2.2.2.1,true,(i64.wrap (a1.1+(5:Int))),([]:List YB),()),r76.2.1,((0:Int),())))
def Qa (r76:YEp×YBs×YI) (r1:Al) (a2:Au) (a0:Al) (a1:YI):Tree (Al×YBs×YI):=
 .br (r76.2.2.1 != (0:Int)) (
 .leaf (r1,(([]:List YB),()),r76.2.2)) (
 Lj a2 a0 r1 r76 a1)
def Xq (r75:YEp) (a0:Al) (a2:Au) (r1:Al) (a1:YI):Tree (Al×YBs×YI):=
 .ob (F9 r75 ((i64.wrap ((1:Int)-a0.1)),()) a2) fun r76=>
 Qa r76 r1 a2 a0 a1
def Xr (a0:Al) (a2:Au) (r1:Al) (a1:YI):Tree (Al×YBs×YI):=
 .ob (Ls ((i64.wrap (a0.2.2.1+(1:Int))),()) (a0.2.2.2.2.2.2.2.2.2.2.2.2.2.2.1,())) fun r75=>
 Xq r75 a0 a2 r1 a1
def Lk (a0:Al) (a2:Au) (r1:Al) (a1:YI):Tree (Al×YBs×YI):=
 letI u1:=a0.2.2.2;.ob (F9 (a0.2.2.1,u1.1,u1.2.1,u1.2.2.1,u1.2.2.2.1,()) ((i64.wrap ((1:Int)-a0.1)),()) a2) fun r77=>
 Qa r77 r1 a2 a0 a1
def Ll (a2:Au) (a0:Al) (r1:Al) (a1:YI):Tree (Al×YBs×YI):=
 .br (a2.2.2.2.2.2.2.2.1==(i64.wrap (a0.2.2.1+(1:Int)))) (
 Xr a0 a2 r1 a1) (
 Lk a0 a2 r1 a1)
def Wc (a0:Al) (a1:YI) (a2:Au):Tree (Al×YBs×YI):=
 letI u1:=a0.2.2;letI u2:=u1.2.2.2.2.2;letI u3:=a2.2.2.2;letI u4:=u3.2.2.2.2;.ob (Fk a0) fun r1=>
 .ob (Hc a0) fun r2=>
 .br (!r2.1) (
 .leaf (r1,(([]:List YB),()),((1:Int),()))) (
 .ob (Be a1 ((0:Int),()) ((1000000:Int),())) fun r3=>
 .br (!r3.1) (
 .leaf (r1,(([]:List YB),()),((1:Int),()))) (
 .ob (Ms (a2.1,())) fun r4=>
 .br (!r4.1) (
 .leaf (r1,(([]:List YB),()),((1:Int),()))) (
 .ob (Lb a2) fun r5=>
 .br (!r5.1) (
 .leaf (r1,(([]:List YB),()),((1:Int),()))) (
 .br u2.2.2.2.2.2.1 (
 .br (decide ((a0.2.2.2.2.2.2.2.2.2.2.2.2.2.2.1.length:Int)>(0:Int))) (
 .ob (Of (u3.1,()) (a0.2.1,())) fun r6=>
 .br (r6.1 != (0:Int)) (
 .leaf (r1,(([]:List YB),()),((8:Int),()))) (
 .br (!(u4.1==u1.1)) (
 .br (!(u4.1==u2.1)) (
 .br (!(u4.1==(i64.wrap (u1.1+(1:Int))))) (
 .leaf (r1,(([]:List YB),()),((8:Int),()))) (
 Gs a2 a0 a1 r1)) (
 Gs a2 a0 a1 r1)) (
 Gs a2 a0 a1 r1))) (
 .ob (Of (u3.1,()) (a0.2.1,())) fun r61=>
 .br (r61.1 != (0:Int)) (
 .leaf (r1,(([]:List YB),()),((8:Int),()))) (
 .br (!(u4.1==u1.1)) (
 .br (!(u4.1==u2.1)) (
 .leaf (r1,(([]:List YB),()),((8:Int),()))) (
 Li a2 a0 a1 r1)) (
 Li a2 a0 a1 r1)))) (
 .br (decide ((a0.2.2.2.2.2.2.2.2.2.2.2.2.2.2.1.length:Int)>(0:Int))) (
 .ob (Of (u3.1,()) (a0.2.1,())) fun r74=>
 .br (r74.1 != (0:Int)) (
 .leaf (r1,(([]:List YB),()),((8:Int),()))) (
 .br (!(u4.1==u1.1)) (
 .br (!(u4.1==(i64.wrap (u1.1+(1:Int))))) (
 .leaf (r1,(([]:List YB),()),((8:Int),()))) (
 Ll a2 a0 r1 a1)) (
 Ll a2 a0 r1 a1))) (
 .ob (Of (u3.1,()) (a0.2.1,())) fun r81=>
 .br (r81.1 != (0:Int)) (
 .leaf (r1,(([]:List YB),()),((8:Int),()))) (
 .br (!(u4.1==u1.1)) (
 .leaf (r1,(([]:List YB),()),((8:Int),()))) (
 Lk a0 a2 r1 a1))))))))
def Jk (a0:Al) (a1:YI) (a2:Au):Option (Al×YBs×YI):=(Wc a0 a1 a2).val
def Ad3 (a0:Al) (a1:YI):Tree (YBs×(Bool×Unit)):=
 letI u1:=a0.2.2;letI u2:=u1.2.2.2.2.2;letI u3:=u2.2.2.2.2.2;.ob (Hc a0) fun r1=>
 .br (!r1.1) (
 .leaf ((([]:List YB),()),(false,()))) (
 .br u3.1 (
 .br (a1.1==u2.1) (
 .ob (Bu (u2.2.1,())) fun r2=>
 .leaf (r2,(true,()))) (
 .br (a1.1==u1.1) (
 .ob (Bu (u1.2.1,())) fun r3=>
 .leaf (r3,(true,()))) (
 .br (decide ((a0.2.2.2.2.2.2.2.2.2.2.2.2.2.2.1.length:Int)>(0:Int))) (
 .br (a1.1==(i64.wrap (u1.1+(1:Int)))) (
 .ob (Bu (u3.2.2.1,())) fun r4=>
 .leaf (r4,(true,()))) (
 .leaf ((([]:List YB),()),(false,())))) (
 .leaf ((([]:List YB),()),(false,())))))) (
 .br (a1.1==u1.1) (
 .ob (Bu (u1.2.1,())) fun r5=>
 .leaf (r5,(true,()))) (
 .br (decide ((a0.2.2.2.2.2.2.2.2.2.2.2.2.2.2.1.length:Int)>(0:Int))) (
 .br (a1.1==(i64.wrap (u1.1+(1:Int)))) (
 .ob (Bu (u3.2.2.1,())) fun r6=>
 .leaf (r6,(true,()))) (
 .leaf ((([]:List YB),()),(false,())))) (
 .leaf ((([]:List YB),()),(false,()))))))
def Qb (a0:Al) (a1:YI):Option (YBs×(Bool×Unit)):=(Ad3 a0 a1).val
def Alm (a0:YBs) (a1:YBs) (a2:YBs):Tree (B8):=
 .ob (Bu a0) fun r1=>
 .ob (Bu a1) fun r2=>
 .ob (Bu a2) fun r3=>
 .leaf ((16:Int),(0:Int),(0:Int),([]:List YB),r2.1,(0:Int),(0:Int),r3.1,r1.1,(0:Int),(0:Int),(0:Int),())
def Aln (a0:YBs) (a1:YBs) (a2:YBs):Option (B8):=(Alm a0 a1 a2).val
def Lw (x1:(List Ap)×Int×Int×Int×Int×Unit):Option (((List Ap)×Int×Int×Int×Int×Unit)⊕(YI⊕(Unit))):=
 letI u1:=x1.2.2;Tree.val (α:=((List Ap)×Int×Int×Int×Int×Unit)⊕(YI⊕(Unit))) <|
 .br (decide (u1.1<x1.2.1)) (
 .ob (idx x1.1 u1.1) fun e2=>
 .br (and (e2.1==u1.2.1) (and (e2.2.1==u1.2.2.1) true)) (
 .leaf (.inr (.inl (u1.1,())))) (
 .leaf (.inl (x1.1,x1.2.1,(i64.wrap (u1.1+(1:Int))),u1.2.1,u1.2.2.1,())))) (
 .leaf (.inr (.inr ())))
def Ad4 (a0:Bb) (a1:B7):Tree (YI):=
 .ob (Ay Lw (a0.2.2.1,(a0.2.2.1.length:Int),(0:Int),a1.1,a1.2.1,())) fun o3=>
 .sm o3 (fun o4=>
 .leaf o4) (fun o5=>
 .leaf ((-1:Int),()))
def Qc (a0:Bb) (a1:B7):Option (YI):=(Ad4 a0 a1).val
def Ut (a0:Bb) (a1:YI) (a2:B7) (a3:YBs):Tree (Bb×(Bool×Unit)):=
 .ob (De a0) fun r1=>
 .ob (Qc a0 a2) fun r2=>
 .ob (La a0) fun r3=>
 .br (!r3.1) (
 .leaf (r1,(false,()))) (
 .ob (Be a1 ((0:Int),()) ((1000000:Int),())) fun r4=>
 .br (!r4.1) (
 .leaf (r1,(false,()))) (
 .br (decide (r2.1<(0:Int))) (
 .leaf (r1,(false,()))) (
 .ob (idx a0.2.2.1 r2.1) fun e5=>
 .ob (Dx a3 (e5.2.2.1,())) fun r6=>
 .br (!r6.1) (
 .leaf (r1,(false,()))) (
 .ob (idx a0.2.2.1 r2.1) fun e7=>
 .br (decide (a1.1>e7.2.2.2.1)) (
 .leaf (r1,(false,()))) (
 .chk (decide ((0:Int)≤r2.1)) <|
 .chk (decide (r2.1≤(r1.2.2.1.length:Int))) <|
 .chk (decide ((0:Int)≤(i64.wrap (r2.1+(1:Int))))) <|
 .chk (decide ((i64.wrap (r2.1+(1:Int)))≤(r1.2.2.1.length:Int))) <|
 .chk (decide ((r1.2.2.1.length:Int)≤(r1.2.2.1.length:Int))) <|
 .chk (decide (((r1.2.2.1.take (r2.1).toNat).drop ((0:Int)).toNat).length+((r1.2.2.1.take ((r1.2.2.1.length:Int)).toNat).drop ((i64.wrap (r2.1+(1:Int)))).toNat).length≤4294967296)) <|
 .chk (Nat.ble ((r1.2.2.1.take (r2.1).toNat).drop ((0:Int)).toNat).length (((i64.wrap (r2.1+(1:Int)))).toNat)) <|
 .chk (Nat.blt 0 r1.2.2.1.length) <|
 .leaf ((a2.1,a2.2.1,(((r1.2.2.1.take (r2.1).toNat).drop ((0:Int)).toNat)++((r1.2.2.1.take ((r1.2.2.1.length:Int)).toNat).drop ((i64.wrap (r2.1+(1:Int)))).toNat)),()),(true,())))))))
def Kc (a0:Bb) (a1:YI) (a2:B7) (a3:YBs):Option (Bb×(Bool×Unit)):=(Ut a0 a1 a2 a3).val
def Ua (a0:YI):Tree (YBs):=
 .ob (Be a0 ((0:Int),()) ((4294967295:Int),())) fun r1=>
 .br (!r1.1) (
 .leaf (([]:List YB),())) (
 .ob (I2 (([]:List YB),()) a0 ((4:Int),())) fun r2=>
 .leaf r2)
def N6 (a0:YI):Option (YBs):=(Ua a0).val
def Jl (x2:(List YB)×(List YB)×Int×(List YB)×(List YB)×Int×Unit):Option (((List YB)×(List YB)×Int×(List YB)×(List YB)×Int×Unit)⊕((Int×(List YB)×Unit))):=
 letI u1:=x2.2.2;Tree.val (α:=((List YB)×(List YB)×Int×(List YB)×(List YB)×Int×Unit)⊕((Int×(List YB)×Unit))) <|
 .br (decide ((x2.2.2.2.1.length:Int)<u1.1)) (
 .ob (F8 ([(u1.2.2.1,()),(x2.2.1,()),([((u8.wrap (u1.2.2.2.1)),())],())],())) fun r3=>
 .ob (Wb (x2.1,()) r3) fun r4=>
 .chk (decide (x2.2.2.2.1.length+r4.1.length≤4294967296)) <|
 .leaf (.inl (x2.1,x2.2.1,u1.1,(u1.2.1++r4.1),r4.1,(i64.wrap (u1.2.2.2.1+(1:Int))),()))) (
 .leaf (.inr (u1.1,u1.2.1,())))
def Ad5 (a0:YBs) (a1:YBs) (a2:YI):Tree (YBs×(Bool×Unit)):=
 .ob (Be a2 ((0:Int),()) ((8160:Int),())) fun r1=>
 .br (!r1.1) (
 .leaf ((([]:List YB),()),(false,()))) (
 .br (decide ((a1.1.length:Int)>(100:Int))) (
 .leaf ((([]:List YB),()),(false,()))) (
 .br (decide ((a0.1.length:Int)>(1048576:Int))) (
 .leaf ((([]:List YB),()),(false,()))) (
 .ob (Ay Jl (a0.1,a1.1,a2.1,([]:List YB),([]:List YB),(1:Int),())) fun o5=>
 .chk (decide ((0:Int)≤o5.1)) <|
 .chk (decide (o5.1≤(o5.2.1.length:Int))) <|
 .ob (Bu (((o5.2.1.take (o5.1).toNat).drop ((0:Int)).toNat),())) fun r6=>
 .leaf (r6,(true,())))))
def Ad6 (a0:YBs) (a1:YBs) (a2:YI):Option (YBs×(Bool×Unit)):=(Ad5 a0 a1 a2).val
def Ad7 (a0:YBs) (a1:ByteArray×Unit):Tree (YBs):=
 .chk (decide (a1.1.size≤4294967296)) <|
 .ob (Ad6 a0 ((Po a1.1),()) ((32:Int),())) fun r1=>
 .leaf r1.1
def Uu (a0:YBs) (a1:ByteArray×Unit):Option (YBs):=(Ad7 a0 a1).val
def Alo (a0:Al):Tree (Al×(Bool×Unit)):=
 .ob (Fk a0) fun r1=>letI u1:=r1.2.2.2;
 .ob (Hc a0) fun r2=>
 .br (!r2.1) (
 .leaf (r1,(false,()))) (
 .br (a0.1 != (1:Int)) (
 .leaf (r1,(false,()))) (
 .br (a0.2.2.1==(4294967295:Int)) (
 .leaf (r1,(false,()))) (
 .ob (Uu (a0.2.2.2.1,()) ((C6 [114,101,107,101,121]),())) fun r3=>
 .ob (Ls ((i64.wrap (a0.2.2.1+(1:Int))),()) r3) fun r4=>
 .leaf ((r1.1,r1.2.1,r4.1,r4.2.1,r4.2.2.1,r4.2.2.2.1,r4.2.2.2.2.1,r1.2.2.1,u1.1,u1.2.1,u1.2.2.1,u1.2.2.2.1,true,(-1:Int),u1.2.2.2.2.2.2.2.2.2.2.2.1,()),(true,())))))
def Alp (a0:Al):Option (Al×(Bool×Unit)):=(Alo a0).val
def Ub (a0:Al) (a1:YI) (a2:YBs):Tree (Al×YI):=
 .ob (Fk a0) fun r1=>
 .ob (Hc a0) fun r2=>
 .br (!r2.1) (
 .leaf (r1,((6:Int),()))) (
 .br (a0.1 != (1:Int)) (
 .leaf (r1,((6:Int),()))) (
 .ob (Be a1 ((0:Int),()) ((4294967294:Int),())) fun r3=>
 .br (!r3.1) (
 .leaf (r1,((6:Int),()))) (
 .ob (N6 ((i64.wrap (a1.1+(1:Int))),())) fun r4=>
 .ob (Dx a2 r4) fun r5=>
 .br (!r5.1) (
 .leaf (r1,((6:Int),()))) (
 .br (a1.1==(i64.wrap (a0.2.2.1-(1:Int)))) (
 .leaf (r1,((0:Int),()))) (
 .ob (Alp a0) fun r6=>
 .br (a1.1 != a0.2.2.1) (
 .leaf (r1,((6:Int),()))) (
 .br (!r6.2.1) (
 .leaf (r1,((6:Int),()))) (
 .leaf (r6.1,((0:Int),())))))))))
def Ku (a0:Al) (a1:YI) (a2:YBs):Option (Al×YI):=(Ub a0 a1 a2).val
def Alq (a0:YBs) (a1:YI) (a2:YBs) (a3:YI) (a4:YI) (a5:YI) (a6:YBs):Tree (Au×(Bool×Unit)):=
 .ob (Bu a2) fun r1=>
 .ob (Bu a6) fun r2=>
 .br ((a0.1.length:Int) != (32:Int)) (
 .leaf (((0:Int),(0:Int),([]:List YB),([]:List YB),(0:Int),([]:List YB),([]:List YB),(0:Int),(0:Int),([]:List YB),([]:List YB),()),(false,()))) (
 .ob (Mr a1) fun r3=>
 .br (!r3.1) (
 .leaf (((0:Int),(0:Int),([]:List YB),([]:List YB),(0:Int),([]:List YB),([]:List YB),(0:Int),(0:Int),([]:List YB),([]:List YB),()),(false,()))) (
 .ob (Ms a5) fun r4=>
 .br (!r4.1) (
 .leaf (((0:Int),(0:Int),([]:List YB),([]:List YB),(0:Int),([]:List YB),([]:List YB),(0:Int),(0:Int),([]:List YB),([]:List YB),()),(false,()))) (
 .ob (Lb (a5.1,(0:Int),([]:List YB),r1.1,(0:Int),([]:List YB),([]:List YB),a3.1,a4.1,r2.1,(List.replicate ((16:Int)).toNat ((0:Int),())),())) fun r5=>
 .br (!r5.1) (
 .leaf (((0:Int),(0:Int),([]:List YB),([]:List YB),(0:Int),([]:List YB),([]:List YB),(0:Int),(0:Int),([]:List YB),([]:List YB),()),(false,()))) (
 .ob (Px a1 a2 a3 a4) fun r6=>
 .ob (Ajc a0 r6 a6) fun r7=>
 .ob (Hw a1 (a5.1,(0:Int),([]:List YB),r1.1,(0:Int),([]:List YB),([]:List YB),a3.1,a4.1,r7.1,(List.replicate ((16:Int)).toNat ((0:Int),())),())) fun r8=>
 .ob (Ajb a0 r8) fun r9=>
 .leaf ((a5.1,(0:Int),([]:List YB),r1.1,(0:Int),([]:List YB),([]:List YB),a3.1,a4.1,r7.1,r9.1,()),(true,()))))))
def Wd (a0:YBs) (a1:YI) (a2:YBs) (a3:YI) (a4:YI) (a5:YI) (a6:YBs):Option (Au×(Bool×Unit)):=(Alq a0 a1 a2 a3 a4 a5 a6).val
def Uv (a0:YEp) (a1:YI) (a2:YBs) (a3:YI) (a4:YBs):Tree (YEp×Au×YI):=
 letI u1:=a0.2.2;.ob (Mq a0) fun r1=>letI u2:=r1.2.2;
 .ob (Rl a0) fun r2=>
 .br (!r2.1) (
 .leaf (r1,((0:Int),(0:Int),([]:List YB),([]:List YB),(0:Int),([]:List YB),([]:List YB),(0:Int),(0:Int),([]:List YB),([]:List YB),()),((1:Int),()))) (
 .ob (Wd (a0.2.1,()) a1 a2 (a0.1,()) ((0:Int),()) a3 a4) fun r3=>
 .br (!r3.2.1) (
 .leaf (r1,((0:Int),(0:Int),([]:List YB),([]:List YB),(0:Int),([]:List YB),([]:List YB),(0:Int),(0:Int),([]:List YB),([]:List YB),()),((1:Int),()))) (
 .br (a3.1==(4:Int)) (
 .br (decide (u1.1≥(281474976709656:Int))) (
 .leaf (r1,((0:Int),(0:Int),([]:List YB),([]:List YB),(0:Int),([]:List YB),([]:List YB),(0:Int),(0:Int),([]:List YB),([]:List YB),()),((4:Int),()))) (
 .br (u1.1==(281474976710656:Int)) (
 .leaf (r1,((0:Int),(0:Int),([]:List YB),([]:List YB),(0:Int),([]:List YB),([]:List YB),(0:Int),(0:Int),([]:List YB),([]:List YB),()),((5:Int),()))) (
 .ob (Wd (a0.2.1,()) a1 a2 (a0.1,()) (u1.1,()) a3 a4) fun r4=>
 .leaf ((r1.1,r1.2.1,(i64.wrap (u2.1+(1:Int))),u2.2.1,u2.2.2.1,()),r4.1,((0:Int),()))))) (
 .br (u1.1==(281474976710656:Int)) (
 .leaf (r1,((0:Int),(0:Int),([]:List YB),([]:List YB),(0:Int),([]:List YB),([]:List YB),(0:Int),(0:Int),([]:List YB),([]:List YB),()),((5:Int),()))) (
 .ob (Wd (a0.2.1,()) a1 a2 (a0.1,()) (u1.1,()) a3 a4) fun r5=>
 .leaf ((r1.1,r1.2.1,(i64.wrap (u2.1+(1:Int))),u2.2.1,u2.2.2.1,()),r5.1,((0:Int),()))))))
def Uw (a0:YEp) (a1:YI) (a2:YBs) (a3:YI) (a4:YBs):Option (YEp×Au×YI):=(Uv a0 a1 a2 a3 a4).val
def Qd (a0:Al) (a1:YI) (a2:YBs):Tree (Al×Au×YI):=
 letI u1:=a0.2.2.2;.ob (Fk a0) fun r1=>letI u2:=r1.2.2.2.2.2.2.2;letI u3:=u2.2.2.2;
 .ob (Hc a0) fun r2=>
 .br (!r2.1) (
 .leaf (r1,((0:Int),(0:Int),([]:List YB),([]:List YB),(0:Int),([]:List YB),([]:List YB),(0:Int),(0:Int),([]:List YB),([]:List YB),()),((1:Int),()))) (
 .ob (Uw (a0.2.2.1,u1.1,u1.2.1,u1.2.2.1,u1.2.2.2.1,()) (a0.1,()) (a0.2.1,()) a1 a2) fun r3=>
 .leaf ((r1.1,r1.2.1,r3.1.1,r3.1.2.1,r3.1.2.2.1,r3.1.2.2.2.1,r3.1.2.2.2.2.1,u2.1,u2.2.1,u2.2.2.1,u3.1,u3.2.1,u3.2.2.1,u3.2.2.2.1,u3.2.2.2.2.1,()),r3.2.1,r3.2.2))
def Bm (a0:Al) (a1:YI) (a2:YBs):Option (Al×Au×YI):=(Qd a0 a1 a2).val
def Apx (a0:Al):Tree (Al×Au×YI):=
 .ob (Hc a0) fun r1=>
 .br (!r1.1) (
 .ob (Fk a0) fun r2=>
 .leaf (r2,((0:Int),(0:Int),([]:List YB),([]:List YB),(0:Int),([]:List YB),([]:List YB),(0:Int),(0:Int),([]:List YB),([]:List YB),()),((6:Int),()))) (
 .br (a0.1 != (1:Int)) (
 .ob (Fk a0) fun r3=>
 .leaf (r3,((0:Int),(0:Int),([]:List YB),([]:List YB),(0:Int),([]:List YB),([]:List YB),(0:Int),(0:Int),([]:List YB),([]:List YB),()),((6:Int),()))) (
 .ob (N6 (a0.2.2.1,())) fun r4=>
 .ob (Bm a0 ((8:Int),()) r4) fun r5=>
 .leaf (r5.1,r5.2.1,r5.2.2)))
def Ajd (a0:Al):Option (Al×Au×YI):=(Apx a0).val
def Alr (a0:YBs) (a1:YBs):Tree (B8):=
 .ob (Bu a0) fun r1=>
 .ob (Bu a1) fun r2=>
 .leaf ((15:Int),(0:Int),(0:Int),([]:List YB),([]:List YB),(0:Int),(0:Int),r2.1,r1.1,(0:Int),(0:Int),(0:Int),())
def Als (a0:YBs) (a1:YBs):Option (B8):=(Alr a0 a1).val
def Ad8 (a0:Al) (a1:Au):Tree (B8):=
 .ob (Hw (a0.1,()) a1) fun r1=>
 .ob (Als (a0.2.2.2.1,()) r1) fun r2=>
 .leaf r2
def Ga (a0:Al) (a1:Au):Option (B8):=(Ad8 a0 a1).val
def N7 (a0:Bp) (a1:YI) (a2:YBs):Tree (Bp×((List Cv)×Unit)×((List B8)×Unit)):=
 letI u1:=a0.2.2;letI u2:=u1.2.2.2;letI u3:=u2.2.2.2;letI u4:=u3.2.2.2;letI u5:=u4.2.2.2;letI u6:=u5.2.2.2.2;letI u7:=u6.2.2;letI u8:=u7.2.2;.ob (Ku (u1.2.1,u1.2.2.1,u2.1,u2.2.1,u2.2.2.1,u3.1,u3.2.1,u3.2.2.1,u4.1,u4.2.1,u4.2.2.1,u5.1,u5.2.1,u5.2.2.1,u5.2.2.2.1,()) a1 a2) fun r1=>letI u9:=r1.1.2.2;letI u10:=u9.2.2;letI u11:=u10.2.2;letI u12:=u11.2.2;letI u13:=u12.2.2;letI u14:=u13.2.2;
 .br (r1.2.1 != (0:Int)) (
 .leaf (a0,(([]:List Cv),()),(([]:List B8),()))) (
 .br (u9.1 != u2.1) (
 .ob (Bu (u1.1,())) fun r2=>
 .ob (Bu (u9.2.1,())) fun r3=>
 .chk (decide (([]:List B8).length+[((10:Int),(0:Int),(1:Int),([]:List YB),r2.1,u9.1,(0:Int),([]:List YB),r3.1,(0:Int),(0:Int),(0:Int),())].length≤4294967296)) <|
 .ob (Ajd r1.1) fun r4=>letI u15:=r4.1.2.2.2;letI u16:=u15.2.2.2;letI u17:=u16.2.2.2.2;
 .br (r4.2.2.1 != (0:Int)) (
 .leaf ((a0.1,a0.2.1,u1.1,r1.1.1,r1.1.2.1,u9.1,u9.2.1,u10.1,u10.2.1,u11.1,u11.2.1,u12.1,u12.2.1,u13.1,u13.2.1,u14.1,u14.2.1,u14.2.2.1,u6.1,u6.2.1,u7.1,u7.2.1,u8.1,u8.2.1,()),(([]:List Cv),()),((([]:List B8)++[((10:Int),(0:Int),(1:Int),([]:List YB),r2.1,u9.1,(0:Int),([]:List YB),r3.1,(0:Int),(0:Int),(0:Int),())]),()))) (
 .ob (Ga r4.1 r4.2.1) fun r5=>
 .chk (decide ((([]:List B8)++[((10:Int),(0:Int),(1:Int),([]:List YB),r2.1,u9.1,(0:Int),([]:List YB),r3.1,(0:Int),(0:Int),(0:Int),())]).length+[r5].length≤4294967296)) <|
 .leaf ((a0.1,a0.2.1,u1.1,r4.1.1,r4.1.2.1,r4.1.2.2.1,u15.1,u15.2.1,u15.2.2.1,u16.1,u16.2.1,u16.2.2.1,u16.2.2.2.1,u17.1,u17.2.1,u17.2.2.1,u17.2.2.2.1,u17.2.2.2.2.1,u6.1,u6.2.1,u7.1,u7.2.1,u8.1,u8.2.1,()),([(u6.1,u6.2.1,r4.2.1.1,r4.2.1.2.1,r4.2.1.2.2.1,r4.2.1.2.2.2.1,r4.2.1.2.2.2.2.1,r4.2.1.2.2.2.2.2.1,r4.2.1.2.2.2.2.2.2.1,r4.2.1.2.2.2.2.2.2.2.1,r4.2.1.2.2.2.2.2.2.2.2.1,r4.2.1.2.2.2.2.2.2.2.2.2.1,r4.2.1.2.2.2.2.2.2.2.2.2.2.1,())],()),(((([]:List B8)++[((10:Int),(0:Int),(1:Int),([]:List YB),r2.1,u9.1,(0:Int),([]:List YB),r3.1,(0:Int),(0:Int),(0:Int),())])++[r5]),())))) (
 .ob (Ajd r1.1) fun r6=>letI u18:=r6.1.2.2.2;letI u19:=u18.2.2.2;letI u20:=u19.2.2.2.2;
 .br (r6.2.2.1 != (0:Int)) (
 .leaf ((a0.1,a0.2.1,u1.1,r1.1.1,r1.1.2.1,u9.1,u9.2.1,u10.1,u10.2.1,u11.1,u11.2.1,u12.1,u12.2.1,u13.1,u13.2.1,u14.1,u14.2.1,u14.2.2.1,u6.1,u6.2.1,u7.1,u7.2.1,u8.1,u8.2.1,()),(([]:List Cv),()),(([]:List B8),()))) (
 .ob (Ga r6.1 r6.2.1) fun r7=>
 .chk (decide (([]:List B8).length+[r7].length≤4294967296)) <|
 .leaf ((a0.1,a0.2.1,u1.1,r6.1.1,r6.1.2.1,r6.1.2.2.1,u18.1,u18.2.1,u18.2.2.1,u19.1,u19.2.1,u19.2.2.1,u19.2.2.2.1,u20.1,u20.2.1,u20.2.2.1,u20.2.2.2.1,u20.2.2.2.2.1,u6.1,u6.2.1,u7.1,u7.2.1,u8.1,u8.2.1,()),([(u6.1,u6.2.1,r6.2.1.1,r6.2.1.2.1,r6.2.1.2.2.1,r6.2.1.2.2.2.1,r6.2.1.2.2.2.2.1,r6.2.1.2.2.2.2.2.1,r6.2.1.2.2.2.2.2.2.1,r6.2.1.2.2.2.2.2.2.2.1,r6.2.1.2.2.2.2.2.2.2.2.1,r6.2.1.2.2.2.2.2.2.2.2.2.1,r6.2.1.2.2.2.2.2.2.2.2.2.2.1,())],()),((([]:List B8)++[r7]),())))))
def N8 (a0:Bp) (a1:YI) (a2:YBs):Option (Bp×((List Cv)×Unit)×((List B8)×Unit)):=(N7 a0 a1 a2).val
def Du (x2:Int×(List Ap)×Int×Int×Int×Int×(List Ap)×Int×Int×(List Ap)×Unit):Option ((Int×(List Ap)×Int×Int×Int×Int×(List Ap)×Int×Int×(List Ap)×Unit)⊕((Int×Int×(List Ap)×Int×Int×(List Ap)×Unit))):=
 letI u1:=x2.2.2.2;letI u2:=u1.2.2;letI u3:=u2.2.2;Tree.val (α:=(Int×(List Ap)×Int×Int×Int×Int×(List Ap)×Int×Int×(List Ap)×Unit)⊕((Int×Int×(List Ap)×Int×Int×(List Ap)×Unit))) <|
 .br (decide (u1.1<x2.2.2.1)) (
 .chk (Nat.beq (Int.toNat u1.1) (Int.toNat u1.1)) <|
 .ob (idx x2.2.1 u1.1) fun e3=>
 .br (decide (e3.2.2.2.1≥x2.1)) (
 .chk (decide (x2.2.2.2.2.2.2.2.2.2.1.length+[e3].length≤4294967296)) <|
 .chk (Nat.ble (Int.toNat u1.1+1) (Int.toNat (i64.wrap (u1.1+(1:Int))))) <|
 .leaf (.inl (x2.1,x2.2.1,x2.2.2.1,(i64.wrap (u1.1+(1:Int))),u1.2.1,u2.1,u2.2.1,u3.1,u3.2.1,(u3.2.2.1++[e3]),()))) (
 .chk (Nat.ble (Int.toNat u1.1+1) (Int.toNat (i64.wrap (u1.1+(1:Int))))) <|
 .leaf (.inl (x2.1,x2.2.1,x2.2.2.1,(i64.wrap (u1.1+(1:Int))),u1.2.1,u2.1,u2.2.1,u3.1,u3.2.1,u3.2.2.1,())))) (
 .leaf (.inr (u1.2.1,u2.1,u2.2.1,u3.1,u3.2.1,u3.2.2.1,())))
def Il (a0:Bb) (a1:YI):Tree (Bb):=
 .ob (De a0) fun r1=>
 .ob (Ay Du (a1.1,r1.2.2.1,(r1.2.2.1.length:Int),(0:Int),(0:Int),(0:Int),([]:List Ap),a0.1,a0.2.1,([]:List Ap),())) fun o4=>
 .leaf (o4.2.2.2.1,o4.2.2.2.2.1,o4.2.2.2.2.2.1,())
def Lx (a0:Bb) (a1:YI):Option (Bb):=(Il a0 a1).val
def Tb (a0:Bb) (a1:YI) (a2:B7) (a3:YBs):Tree (Bb×(Bool×Unit)):=
 .ob (La a0) fun r1=>
 .br (!r1.1) (
 .ob (De a0) fun r2=>
 .leaf (r2,(false,()))) (
 .ob (Be a1 ((0:Int),()) ((1000000:Int),())) fun r3=>
 .br (!r3.1) (
 .ob (De a0) fun r4=>
 .leaf (r4,(false,()))) (
 .ob (Ij a2) fun r5=>
 .br (!r5.1) (
 .ob (De a0) fun r6=>
 .leaf (r6,(false,()))) (
 .ob (D4 a3) fun r7=>
 .br (!r7.1) (
 .ob (De a0) fun r8=>
 .leaf (r8,(false,()))) (
 .br (and (a2.1==a0.1) (and (a2.2.1==a0.2.1) true)) (
 .ob (De a0) fun r9=>
 .leaf (r9,(false,()))) (
 .ob (Lx a0 a1) fun r10=>
 .ob (Qc r10 a2) fun r11=>
 .br (decide (r11.1≥(0:Int))) (
 .ob (De a0) fun r12=>
 .leaf (r12,(false,()))) (
 .br ((r10.2.2.1.length:Int)==(3:Int)) (
 .ob (De a0) fun r13=>
 .leaf (r13,(false,()))) (
 .ob (Bu a3) fun r14=>
 .chk (decide (r10.2.2.1.length+[(a2.1,a2.2.1,r14.1,(i64.wrap (a1.1+(6:Int))),())].length≤4294967296)) <|
 .leaf ((r10.1,r10.2.1,(r10.2.2.1++[(a2.1,a2.2.1,r14.1,(i64.wrap (a1.1+(6:Int))),())]),()),(true,())))))))))
def Cc (a0:Bb) (a1:YI) (a2:B7) (a3:YBs):Option (Bb×(Bool×Unit)):=(Tb a0 a1 a2 a3).val
def Qe (a0:Bp) (a1:YI) (a2:B7) (a3:Au) (a4:YBs):Tree (Bp×((List Cv)×Unit)×((List B8)×Unit)×(Bool×Unit)):=
 letI u1:=a0.2.2;letI u2:=u1.2.2;letI u3:=u2.2.2;letI u4:=u3.2.2;letI u5:=u4.2.2;letI u6:=u5.2.2;letI u7:=u6.2.2;letI u8:=u7.2.2.2;letI u9:=a3.2.2.2.2.2.2.2;.ob (V3 a0) fun r1=>letI u10:=r1.2.2;letI u11:=u10.2.2.2.2.2.2.2.2.2.2.2.2.2.2.2.2;letI u12:=u11.2.2;letI u13:=u12.2.2.2;
 .ob (Pv a0) fun r2=>
 .br (!r2.1) (
 .leaf (r1,(([]:List Cv),()),(([]:List B8),()),(false,()))) (
 .br u8.2.2.2.2.2.2.1 (
 .leaf (r1,(([]:List Cv),()),(([]:List B8),()),(false,()))) (
 .ob (Ij a2) fun r3=>
 .br (!r3.1) (
 .leaf (r1,(([]:List Cv),()),(([]:List B8),()),(false,()))) (
 .ob (Jk (u1.2.1,u2.1,u2.2.1,u3.1,u3.2.1,u4.1,u4.2.1,u5.1,u5.2.1,u6.1,u6.2.1,u7.1,u7.2.1,u7.2.2.1,u8.1,()) a1 a3) fun r4=>letI u14:=r4.1.2.2;letI u15:=u14.2.2;letI u16:=u15.2.2;letI u17:=u16.2.2;letI u18:=u17.2.2;letI u19:=u18.2.2;letI u20:=u19.2.2;
 .br (r4.2.2.1 != (0:Int)) (
 .leaf (r1,(([]:List Cv),()),(([]:List B8),()),(false,()))) (
 .ob (Qb (u1.2.1,u2.1,u2.2.1,u3.1,u3.2.1,u4.1,u4.2.1,u5.1,u5.2.1,u6.1,u6.2.1,u7.1,u7.2.1,u7.2.2.1,u8.1,()) (u9.1,())) fun r5=>
 .ob (Hw ((0:Int),()) a3) fun r6=>
 .ob (Aln r5.1 (u1.1,()) r6) fun r7=>
 .br (a3.1==(4:Int)) (
 .ob (Bu (u1.1,())) fun r8=>
 .chk (decide ([r7].length+[((6:Int),(0:Int),(0:Int),([]:List YB),r8.1,u9.1,u9.2.1,r4.2.1.1,([]:List YB),(0:Int),(0:Int),a1.1,())].length≤4294967296)) <|
 .ob (Cc (u11.1,u11.2.1,u12.1,()) a1 a2 a4) fun r9=>
 .ob (Bm r4.1 ((5:Int),()) a4) fun r10=>letI u21:=r10.1.2.2.2;letI u22:=u21.2.2.2;letI u23:=u22.2.2.2.2;
 .br (!r9.2.1) (
 .leaf ((r1.1,r1.2.1,u10.1,r4.1.1,r4.1.2.1,u14.1,u14.2.1,u15.1,u15.2.1,u16.1,u16.2.1,u17.1,u17.2.1,u18.1,u18.2.1,u19.1,u19.2.1,u20.1,u11.1,u11.2.1,u12.1,u12.2.1,a1.1,u13.1,()),(([]:List Cv),()),(([r7]++[((6:Int),(0:Int),(0:Int),([]:List YB),r8.1,u9.1,u9.2.1,r4.2.1.1,([]:List YB),(0:Int),(0:Int),a1.1,())]),()),(false,()))) (
 .br (r10.2.2.1 != (0:Int)) (
 .leaf ((r1.1,r1.2.1,u10.1,r4.1.1,r4.1.2.1,u14.1,u14.2.1,u15.1,u15.2.1,u16.1,u16.2.1,u17.1,u17.2.1,u18.1,u18.2.1,u19.1,u19.2.1,u20.1,u11.1,u11.2.1,u12.1,u12.2.1,a1.1,u13.1,()),(([]:List Cv),()),(([r7]++[((6:Int),(0:Int),(0:Int),([]:List YB),r8.1,u9.1,u9.2.1,r4.2.1.1,([]:List YB),(0:Int),(0:Int),a1.1,())]),()),(false,()))) (
 .chk (decide (([]:List Cv).length+[(a2.1,a2.2.1,r10.2.1.1,r10.2.1.2.1,r10.2.1.2.2.1,r10.2.1.2.2.2.1,r10.2.1.2.2.2.2.1,r10.2.1.2.2.2.2.2.1,r10.2.1.2.2.2.2.2.2.1,r10.2.1.2.2.2.2.2.2.2.1,r10.2.1.2.2.2.2.2.2.2.2.1,r10.2.1.2.2.2.2.2.2.2.2.2.1,r10.2.1.2.2.2.2.2.2.2.2.2.2.1,())].length≤4294967296)) <|
 .ob (Ga r10.1 r10.2.1) fun r11=>
 .chk (decide (([r7]++[((6:Int),(0:Int),(0:Int),([]:List YB),r8.1,u9.1,u9.2.1,r4.2.1.1,([]:List YB),(0:Int),(0:Int),a1.1,())]).length+[r11].length≤4294967296)) <|
 .leaf ((r1.1,r1.2.1,u10.1,r10.1.1,r10.1.2.1,r10.1.2.2.1,u21.1,u21.2.1,u21.2.2.1,u22.1,u22.2.1,u22.2.2.1,u22.2.2.2.1,u23.1,u23.2.1,u23.2.2.1,u23.2.2.2.1,u23.2.2.2.2.1,r9.1.1,r9.1.2.1,r9.1.2.2.1,u12.2.1,a1.1,u13.1,()),((([]:List Cv)++[(a2.1,a2.2.1,r10.2.1.1,r10.2.1.2.1,r10.2.1.2.2.1,r10.2.1.2.2.2.1,r10.2.1.2.2.2.2.1,r10.2.1.2.2.2.2.2.1,r10.2.1.2.2.2.2.2.2.1,r10.2.1.2.2.2.2.2.2.2.1,r10.2.1.2.2.2.2.2.2.2.2.1,r10.2.1.2.2.2.2.2.2.2.2.2.1,r10.2.1.2.2.2.2.2.2.2.2.2.2.1,())]),()),((([r7]++[((6:Int),(0:Int),(0:Int),([]:List YB),r8.1,u9.1,u9.2.1,r4.2.1.1,([]:List YB),(0:Int),(0:Int),a1.1,())])++[r11]),()),(true,()))))) (
 .br (a3.1==(6:Int)) (
 .ob (Kc (u8.2.1,u8.2.2.1,u8.2.2.2.1,()) a1 a2 r4.2.1) fun r12=>
 .br r12.2.1 (
 .ob (Bu (u1.1,())) fun r13=>
 .chk (decide ([r7].length+[((9:Int),(0:Int),(0:Int),([]:List YB),r13.1,(0:Int),(0:Int),r4.2.1.1,([]:List YB),a2.1,a2.2.1,a1.1,())].length≤4294967296)) <|
 .ob (Cc r12.1 a1 a2 a4) fun r14=>
 .ob (Bm r4.1 ((5:Int),()) a4) fun r15=>letI u24:=r15.1.2.2.2;letI u25:=u24.2.2.2;letI u26:=u25.2.2.2.2;
 .br (!r14.2.1) (
 .leaf ((r1.1,r1.2.1,u10.1,r4.1.1,r4.1.2.1,u14.1,u14.2.1,u15.1,u15.2.1,u16.1,u16.2.1,u17.1,u17.2.1,u18.1,u18.2.1,u19.1,u19.2.1,u20.1,r12.1.1,r12.1.2.1,r12.1.2.2.1,u12.2.1,a1.1,u13.1,()),(([]:List Cv),()),(([r7]++[((9:Int),(0:Int),(0:Int),([]:List YB),r13.1,(0:Int),(0:Int),r4.2.1.1,([]:List YB),a2.1,a2.2.1,a1.1,())]),()),(false,()))) (
 .br (r15.2.2.1 != (0:Int)) (
 .leaf ((r1.1,r1.2.1,u10.1,r4.1.1,r4.1.2.1,u14.1,u14.2.1,u15.1,u15.2.1,u16.1,u16.2.1,u17.1,u17.2.1,u18.1,u18.2.1,u19.1,u19.2.1,u20.1,r12.1.1,r12.1.2.1,r12.1.2.2.1,u12.2.1,a1.1,u13.1,()),(([]:List Cv),()),(([r7]++[((9:Int),(0:Int),(0:Int),([]:List YB),r13.1,(0:Int),(0:Int),r4.2.1.1,([]:List YB),a2.1,a2.2.1,a1.1,())]),()),(false,()))) (
 .chk (decide (([]:List Cv).length+[(a2.1,a2.2.1,r15.2.1.1,r15.2.1.2.1,r15.2.1.2.2.1,r15.2.1.2.2.2.1,r15.2.1.2.2.2.2.1,r15.2.1.2.2.2.2.2.1,r15.2.1.2.2.2.2.2.2.1,r15.2.1.2.2.2.2.2.2.2.1,r15.2.1.2.2.2.2.2.2.2.2.1,r15.2.1.2.2.2.2.2.2.2.2.2.1,r15.2.1.2.2.2.2.2.2.2.2.2.2.1,())].length≤4294967296)) <|
 .ob (Ga r15.1 r15.2.1) fun r16=>
 .chk (decide (([r7]++[((9:Int),(0:Int),(0:Int),([]:List YB),r13.1,(0:Int),(0:Int),r4.2.1.1,([]:List YB),a2.1,a2.2.1,a1.1,())]).length+[r16].length≤4294967296)) <|
 .leaf ((r1.1,r1.2.1,u10.1,r15.1.1,r15.1.2.1,r15.1.2.2.1,u24.1,u24.2.1,u24.2.2.1,u25.1,u25.2.1,u25.2.2.1,u25.2.2.2.1,u26.1,u26.2.1,u26.2.2.1,u26.2.2.2.1,u26.2.2.2.2.1,r14.1.1,r14.1.2.1,r14.1.2.2.1,u12.2.1,a1.1,u13.1,()),((([]:List Cv)++[(a2.1,a2.2.1,r15.2.1.1,r15.2.1.2.1,r15.2.1.2.2.1,r15.2.1.2.2.2.1,r15.2.1.2.2.2.2.1,r15.2.1.2.2.2.2.2.1,r15.2.1.2.2.2.2.2.2.1,r15.2.1.2.2.2.2.2.2.2.1,r15.2.1.2.2.2.2.2.2.2.2.1,r15.2.1.2.2.2.2.2.2.2.2.2.1,r15.2.1.2.2.2.2.2.2.2.2.2.2.1,())]),()),((([r7]++[((9:Int),(0:Int),(0:Int),([]:List YB),r13.1,(0:Int),(0:Int),r4.2.1.1,([]:List YB),a2.1,a2.2.1,a1.1,())])++[r16]),()),(true,()))))) (
 .ob (Cc (u11.1,u11.2.1,u12.1,()) a1 a2 a4) fun r17=>
 .ob (Bm r4.1 ((5:Int),()) a4) fun r18=>letI u27:=r18.1.2.2.2;letI u28:=u27.2.2.2;letI u29:=u28.2.2.2.2;
 .br (!r17.2.1) (
 .leaf ((r1.1,r1.2.1,u10.1,r4.1.1,r4.1.2.1,u14.1,u14.2.1,u15.1,u15.2.1,u16.1,u16.2.1,u17.1,u17.2.1,u18.1,u18.2.1,u19.1,u19.2.1,u20.1,u11.1,u11.2.1,u12.1,u12.2.1,a1.1,u13.1,()),(([]:List Cv),()),([r7],()),(false,()))) (
 .br (r18.2.2.1 != (0:Int)) (
 .leaf ((r1.1,r1.2.1,u10.1,r4.1.1,r4.1.2.1,u14.1,u14.2.1,u15.1,u15.2.1,u16.1,u16.2.1,u17.1,u17.2.1,u18.1,u18.2.1,u19.1,u19.2.1,u20.1,u11.1,u11.2.1,u12.1,u12.2.1,a1.1,u13.1,()),(([]:List Cv),()),([r7],()),(false,()))) (
 .chk (decide (([]:List Cv).length+[(a2.1,a2.2.1,r18.2.1.1,r18.2.1.2.1,r18.2.1.2.2.1,r18.2.1.2.2.2.1,r18.2.1.2.2.2.2.1,r18.2.1.2.2.2.2.2.1,r18.2.1.2.2.2.2.2.2.1,r18.2.1.2.2.2.2.2.2.2.1,r18.2.1.2.2.2.2.2.2.2.2.1,r18.2.1.2.2.2.2.2.2.2.2.2.1,r18.2.1.2.2.2.2.2.2.2.2.2.2.1,())].length≤4294967296)) <|
 .ob (Ga r18.1 r18.2.1) fun r19=>
 .chk (decide ([r7].length+[r19].length≤4294967296)) <|
 .leaf ((r1.1,r1.2.1,u10.1,r18.1.1,r18.1.2.1,r18.1.2.2.1,u27.1,u27.2.1,u27.2.2.1,u28.1,u28.2.1,u28.2.2.1,u28.2.2.2.1,u29.1,u29.2.1,u29.2.2.1,u29.2.2.2.1,u29.2.2.2.2.1,r17.1.1,r17.1.2.1,r17.1.2.2.1,u12.2.1,a1.1,u13.1,()),((([]:List Cv)++[(a2.1,a2.2.1,r18.2.1.1,r18.2.1.2.1,r18.2.1.2.2.1,r18.2.1.2.2.2.1,r18.2.1.2.2.2.2.1,r18.2.1.2.2.2.2.2.1,r18.2.1.2.2.2.2.2.2.1,r18.2.1.2.2.2.2.2.2.2.1,r18.2.1.2.2.2.2.2.2.2.2.1,r18.2.1.2.2.2.2.2.2.2.2.2.1,r18.2.1.2.2.2.2.2.2.2.2.2.2.1,())]),()),(([r7]++[r19]),()),(true,())))))) (
 .br (a3.1==(7:Int)) (
 .ob (N8 (r1.1,r1.2.1,u10.1,r4.1.1,r4.1.2.1,u14.1,u14.2.1,u15.1,u15.2.1,u16.1,u16.2.1,u17.1,u17.2.1,u18.1,u18.2.1,u19.1,u19.2.1,u20.1,u11.1,u11.2.1,u12.1,u12.2.1,a1.1,u13.1,()) (u9.1,()) r4.2.1) fun r20=>letI u30:=r20.1.2.2.2;letI u31:=u30.2.2.2;letI u32:=u31.2.2.2;letI u33:=u32.2.2.2;letI u34:=u33.2.2.2;letI u35:=u34.2.2.2.2;
 .chk (decide (([]:List Cv).length+r20.2.1.1.length≤4294967296)) <|
 .chk (decide ([r7].length+r20.2.2.1.length≤4294967296)) <|
 .ob (Cc (u34.2.2.2.1,u35.1,u35.2.1,()) a1 a2 a4) fun r21=>
 .ob (Bm (u30.1,u30.2.1,u30.2.2.1,u31.1,u31.2.1,u31.2.2.1,u32.1,u32.2.1,u32.2.2.1,u33.1,u33.2.1,u33.2.2.1,u34.1,u34.2.1,u34.2.2.1,()) ((5:Int),()) a4) fun r22=>letI u36:=r22.1.2.2.2;letI u37:=u36.2.2.2;letI u38:=u37.2.2.2.2;
 .br (!r21.2.1) (
 .leaf (r20.1,((([]:List Cv)++r20.2.1.1),()),(([r7]++r20.2.2.1),()),(false,()))) (
 .br (r22.2.2.1 != (0:Int)) (
 .leaf (r20.1,((([]:List Cv)++r20.2.1.1),()),(([r7]++r20.2.2.1),()),(false,()))) (
 .chk (decide ((([]:List Cv)++r20.2.1.1).length+[(a2.1,a2.2.1,r22.2.1.1,r22.2.1.2.1,r22.2.1.2.2.1,r22.2.1.2.2.2.1,r22.2.1.2.2.2.2.1,r22.2.1.2.2.2.2.2.1,r22.2.1.2.2.2.2.2.2.1,r22.2.1.2.2.2.2.2.2.2.1,r22.2.1.2.2.2.2.2.2.2.2.1,r22.2.1.2.2.2.2.2.2.2.2.2.1,r22.2.1.2.2.2.2.2.2.2.2.2.2.1,())].length≤4294967296)) <|
 .ob (Ga r22.1 r22.2.1) fun r23=>
 .chk (decide (([r7]++r20.2.2.1).length+[r23].length≤4294967296)) <|
 .leaf ((r20.1.1,r20.1.2.1,r20.1.2.2.1,r22.1.1,r22.1.2.1,r22.1.2.2.1,u36.1,u36.2.1,u36.2.2.1,u37.1,u37.2.1,u37.2.2.1,u37.2.2.2.1,u38.1,u38.2.1,u38.2.2.1,u38.2.2.2.1,u38.2.2.2.2.1,r21.1.1,r21.1.2.1,r21.1.2.2.1,u35.2.2.1,u35.2.2.2.1,u35.2.2.2.2.1,()),(((([]:List Cv)++r20.2.1.1)++[(a2.1,a2.2.1,r22.2.1.1,r22.2.1.2.1,r22.2.1.2.2.1,r22.2.1.2.2.2.1,r22.2.1.2.2.2.2.1,r22.2.1.2.2.2.2.2.1,r22.2.1.2.2.2.2.2.2.1,r22.2.1.2.2.2.2.2.2.2.1,r22.2.1.2.2.2.2.2.2.2.2.1,r22.2.1.2.2.2.2.2.2.2.2.2.1,r22.2.1.2.2.2.2.2.2.2.2.2.2.1,())]),()),((([r7]++r20.2.2.1)++[r23]),()),(true,()))))) (
 .ob (Cc (u11.1,u11.2.1,u12.1,()) a1 a2 a4) fun r24=>
 .ob (Bm r4.1 ((5:Int),()) a4) fun r25=>letI u39:=r25.1.2.2.2;letI u40:=u39.2.2.2;letI u41:=u40.2.2.2.2;
 .br (!r24.2.1) (
 .leaf ((r1.1,r1.2.1,u10.1,r4.1.1,r4.1.2.1,u14.1,u14.2.1,u15.1,u15.2.1,u16.1,u16.2.1,u17.1,u17.2.1,u18.1,u18.2.1,u19.1,u19.2.1,u20.1,u11.1,u11.2.1,u12.1,u12.2.1,a1.1,u13.1,()),(([]:List Cv),()),([r7],()),(false,()))) (
 .br (r25.2.2.1 != (0:Int)) (
 .leaf ((r1.1,r1.2.1,u10.1,r4.1.1,r4.1.2.1,u14.1,u14.2.1,u15.1,u15.2.1,u16.1,u16.2.1,u17.1,u17.2.1,u18.1,u18.2.1,u19.1,u19.2.1,u20.1,u11.1,u11.2.1,u12.1,u12.2.1,a1.1,u13.1,()),(([]:List Cv),()),([r7],()),(false,()))) (
 .chk (decide (([]:List Cv).length+[(a2.1,a2.2.1,r25.2.1.1,r25.2.1.2.1,r25.2.1.2.2.1,r25.2.1.2.2.2.1,r25.2.1.2.2.2.2.1,r25.2.1.2.2.2.2.2.1,r25.2.1.2.2.2.2.2.2.1,r25.2.1.2.2.2.2.2.2.2.1,r25.2.1.2.2.2.2.2.2.2.2.1,r25.2.1.2.2.2.2.2.2.2.2.2.1,r25.2.1.2.2.2.2.2.2.2.2.2.2.1,())].length≤4294967296)) <|
 .ob (Ga r25.1 r25.2.1) fun r26=>
 .chk (decide ([r7].length+[r26].length≤4294967296)) <|
 .leaf ((r1.1,r1.2.1,u10.1,r25.1.1,r25.1.2.1,r25.1.2.2.1,u39.1,u39.2.1,u39.2.2.1,u40.1,u40.2.1,u40.2.2.1,u40.2.2.2.1,u41.1,u41.2.1,u41.2.2.1,u41.2.2.2.1,u41.2.2.2.2.1,r24.1.1,r24.1.2.1,r24.1.2.2.1,u12.2.1,a1.1,u13.1,()),((([]:List Cv)++[(a2.1,a2.2.1,r25.2.1.1,r25.2.1.2.1,r25.2.1.2.2.1,r25.2.1.2.2.2.1,r25.2.1.2.2.2.2.1,r25.2.1.2.2.2.2.2.1,r25.2.1.2.2.2.2.2.2.1,r25.2.1.2.2.2.2.2.2.2.1,r25.2.1.2.2.2.2.2.2.2.2.1,r25.2.1.2.2.2.2.2.2.2.2.2.1,r25.2.1.2.2.2.2.2.2.2.2.2.2.1,())]),()),(([r7]++[r26]),()),(true,())))))))))))
def Ly (a0:Bp) (a1:YI) (a2:B7) (a3:Au) (a4:YBs):Option (Bp×((List Cv)×Unit)×((List B8)×Unit)×(Bool×Unit)):=(Qe a0 a1 a2 a3 a4).val
def Jm (x1:(List Cv)×Int×Unit):Option (((List Cv)×Int×Unit)⊕((Bool×Unit)⊕(Unit))):=
 Tree.val (α:=((List Cv)×Int×Unit)⊕((Bool×Unit)⊕(Unit))) <|
 .br (decide (x1.2.1<(x1.1.length:Int))) (
 .ob (idx x1.1 x1.2.1) fun e2=>letI u1:=e2.2.2.2;letI u2:=u1.2.2.2;letI u3:=u2.2.2.2;
 .ob (Lb (e2.2.2.1,u1.1,u1.2.1,u1.2.2.1,u2.1,u2.2.1,u2.2.2.1,u3.1,u3.2.1,u3.2.2.1,u3.2.2.2.1,())) fun r3=>
 .br (!r3.1) (
 .leaf (.inr (.inl (false,())))) (
 .ob (idx x1.1 x1.2.1) fun e4=>
 .ob (Ij (e4.1,e4.2.1,())) fun r5=>
 .br (!r5.1) (
 .leaf (.inr (.inl (false,())))) (
 .leaf (.inl (x1.1,(i64.wrap (x1.2.1+(1:Int))),()))))) (
 .leaf (.inr (.inr ())))
def Ad9 (a0:(List Cv)×Unit):Tree ((Bool×Unit)):=
 .ob (Ay Jm (a0.1,(0:Int),())) fun o6=>
 .sm o6 (fun o7=>
 .leaf o7) (fun o8=>
 .leaf (true,()))
def Aea (a0:(List Cv)×Unit):Option ((Bool×Unit)):=(Ad9 a0).val
def Aaf (a0:YBs) (a1:YI):Tree ((Bool×Unit)):=
 .br ((a0.1.length:Int)==(0:Int)) (
 .leaf (true,())) (
 .leaf (((a0.1.length:Int)==a1.1),()))
def Nj (a0:YBs) (a1:YI):Option ((Bool×Unit)):=(Aaf a0 a1).val
def Aeb (a0:B8):Tree ((Bool×Unit)):=
 letI u1:=a0.2.2.2;letI u2:=u1.2.2.2.2.2;.ob (Be (a0.1,()) ((1:Int),()) ((17:Int),())) fun r1=>
 .br r1.1 (
 .ob (Be (a0.2.1,()) ((0:Int),()) ((9:Int),())) fun r2=>
 .br r2.1 (
 .ob (Be (a0.2.2.1,()) ((0:Int),()) ((1:Int),())) fun r3=>
 .br r3.1 (
 .ob (Be (u1.2.2.1,()) ((0:Int),()) ((4294967295:Int),())) fun r4=>
 .br r4.1 (
 .ob (Be (u1.2.2.2.1,()) ((0:Int),()) ((281474976710655:Int),())) fun r5=>
 .br r5.1 (
 .ob (Be (u2.2.2.2.1,()) ((0:Int),()) ((1000000:Int),())) fun r6=>
 .br r6.1 (
 .ob (Nj (u1.1,()) ((12:Int),())) fun r7=>
 .br r7.1 (
 .ob (Nj (u1.2.1,()) ((12:Int),())) fun r8=>
 .br r8.1 (
 .br (decide ((a0.2.2.2.2.2.2.2.1.length:Int)≤(100:Int))) (
 .ob (Nj (u2.1,()) ((32:Int),())) fun r9=>
 .br r9.1 (
 .ob (Ij (u2.2.1,u2.2.2.1,())) fun r10=>
 .leaf r10) (
 .leaf (false,()))) (
 .leaf (false,()))) (
 .leaf (false,()))) (
 .leaf (false,()))) (
 .leaf (false,()))) (
 .leaf (false,()))) (
 .leaf (false,()))) (
 .leaf (false,()))) (
 .leaf (false,()))) (
 .leaf (false,()))
def Aec (a0:B8):Option ((Bool×Unit)):=(Aeb a0).val
def Ie (x1:(List B8)×Int×Unit):Option (((List B8)×Int×Unit)⊕((Bool×Unit)⊕(Unit))):=
 Tree.val (α:=((List B8)×Int×Unit)⊕((Bool×Unit)⊕(Unit))) <|
 .br (decide (x1.2.1<(x1.1.length:Int))) (
 .ob (idx x1.1 x1.2.1) fun e2=>
 .ob (Aec e2) fun r3=>
 .br (!r3.1) (
 .leaf (.inr (.inl (false,())))) (
 .leaf (.inl (x1.1,(i64.wrap (x1.2.1+(1:Int))),())))) (
 .leaf (.inr (.inr ())))
def Aag (a0:(List B8)×Unit):Tree ((Bool×Unit)):=
 .ob (Ay Ie (a0.1,(0:Int),())) fun o4=>
 .sm o4 (fun o5=>
 .leaf o5) (fun o6=>
 .leaf (true,()))
def Aah (a0:(List B8)×Unit):Option ((Bool×Unit)):=(Aag a0).val
def Alt (a0:YBs) (a1:YBs):Tree ((Bool×Unit)):=
 .leaf ((decide ((Nb a0.1)=(Nb a1.1))),())
def Hx (a0:YBs) (a1:YBs):Option ((Bool×Unit)):=(Alt a0 a1).val
def Hs (x1:(List YI)×(List YI)×Int×Unit):Option (((List YI)×(List YI)×Int×Unit)⊕((Bool×Unit)⊕(Unit))):=
 Tree.val (α:=((List YI)×(List YI)×Int×Unit)⊕((Bool×Unit)⊕(Unit))) <|
 .br (decide (x1.2.2.1<(x1.1.length:Int))) (
 .ob (idx x1.1 x1.2.2.1) fun e2=>
 .ob (idx x1.2.1 x1.2.2.1) fun e3=>
 .br (e2.1 != e3.1) (
 .leaf (.inr (.inl (false,())))) (
 .leaf (.inl (x1.1,x1.2.1,(i64.wrap (x1.2.2.1+(1:Int))),())))) (
 .leaf (.inr (.inr ())))
def We (a0:(List YI)×Unit) (a1:(List YI)×Unit):Tree ((Bool×Unit)):=
 .br ((a0.1.length:Int) != (a1.1.length:Int)) (
 .leaf (false,())) (
 .ob (Ay Hs (a0.1,a1.1,(0:Int),())) fun o4=>
 .sm o4 (fun o5=>
 .leaf o5) (fun o6=>
 .leaf (true,())))
def Wg (a0:(List YI)×Unit) (a1:(List YI)×Unit):Option ((Bool×Unit)):=(We a0 a1).val
def Aai (a0:B5) (a1:B5):Tree ((Bool×Unit)):=
 .br (a0.1==a1.1) (
 .ob (Wg (a0.2.1,()) (a1.2.1,())) fun r1=>
 .leaf r1) (
 .leaf (false,()))
def Aaj (a0:B5) (a1:B5):Option ((Bool×Unit)):=(Aai a0 a1).val
def Aed (a0:YEp) (a1:YEp):Tree ((Bool×Unit)):=
 .br (a0.1==a1.1) (
 .ob (Hx (a0.2.1,()) (a1.2.1,())) fun r1=>
 .br r1.1 (
 .br (a0.2.2.1==a1.2.2.1) (
 .ob (Aaj (a0.2.2.2.1,a0.2.2.2.2.1,()) (a1.2.2.2.1,a1.2.2.2.2.1,())) fun r2=>
 .leaf r2) (
 .leaf (false,()))) (
 .leaf (false,()))) (
 .leaf (false,()))
def Ux (a0:YEp) (a1:YEp):Option ((Bool×Unit)):=(Aed a0 a1).val
def Wh (a0:Al) (a1:Al):Tree ((Bool×Unit)):=
 letI u1:=a0.2.2.2;letI u2:=u1.2.2.2;letI u3:=u2.2.2.2.2;letI u4:=a1.2.2.2;letI u5:=u4.2.2.2;letI u6:=u5.2.2.2.2;.br (a0.1==a1.1) (
 .ob (Hx (a0.2.1,()) (a1.2.1,())) fun r1=>
 .br r1.1 (
 .ob (Ux (a0.2.2.1,u1.1,u1.2.1,u1.2.2.1,u2.1,()) (a1.2.2.1,u4.1,u4.2.1,u4.2.2.1,u5.1,())) fun r2=>
 .br r2.1 (
 .ob (Ux (u2.2.1,u2.2.2.1,u2.2.2.2.1,u3.1,u3.2.1,()) (u5.2.1,u5.2.2.1,u5.2.2.2.1,u6.1,u6.2.1,())) fun r3=>
 .br r3.1 (
 .br (u3.2.2.1==u6.2.2.1) (
 .br (u3.2.2.2.1==u6.2.2.2.1) (
 .ob (Hx (u3.2.2.2.2.1,()) (u6.2.2.2.2.1,())) fun r4=>
 .leaf r4) (
 .leaf (false,()))) (
 .leaf (false,()))) (
 .leaf (false,()))) (
 .leaf (false,()))) (
 .leaf (false,()))) (
 .leaf (false,()))
def Qf (a0:Al) (a1:Al):Option ((Bool×Unit)):=(Wh a0 a1).val
def Gt (x1:Int×Int×Int×(List Ap)×Int×Int×(List Ap)×Unit):Option ((Int×Int×Int×(List Ap)×Int×Int×(List Ap)×Unit)⊕((Bool×Unit)⊕(Unit))):=
 letI u1:=x1.2.2.2;letI u2:=u1.2.2.2;Tree.val (α:=(Int×Int×Int×(List Ap)×Int×Int×(List Ap)×Unit)⊕((Bool×Unit)⊕(Unit))) <|
 .br (decide (x1.1<(x1.2.2.2.1.length:Int))) (
 .ob (idx u1.1 x1.1) fun e2=>
 .ob (idx u2.1 x1.1) fun e3=>
 .br (!(and (e2.1==e3.1) (and (e2.2.1==e3.2.1) true))) (
 .leaf (.inr (.inl (false,())))) (
 .ob (idx u1.1 x1.1) fun e4=>
 .ob (idx u2.1 x1.1) fun e5=>
 .ob (Hx (e4.2.2.1,()) (e5.2.2.1,())) fun r6=>
 .br (!r6.1) (
 .leaf (.inr (.inl (false,())))) (
 .ob (idx u1.1 x1.1) fun e7=>
 .ob (idx u2.1 x1.1) fun e8=>
 .br (e7.2.2.2.1 != e8.2.2.2.1) (
 .leaf (.inr (.inl (false,())))) (
 .leaf (.inl ((i64.wrap (x1.1+(1:Int))),x1.2.1,x1.2.2.1,u1.1,u1.2.1,u1.2.2.1,u2.1,())))))) (
 .leaf (.inr (.inr ())))
def Uc (a0:Bb) (a1:Bb):Tree ((Bool×Unit)):=
 .br (!(and (a0.1==a1.1) (and (a0.2.1==a1.2.1) true))) (
 .leaf (false,())) (
 .br ((a0.2.2.1.length:Int) != (a1.2.2.1.length:Int)) (
 .leaf (false,())) (
 .ob (Ay Gt ((0:Int),a0.1,a0.2.1,a0.2.2.1,a1.1,a1.2.1,a1.2.2.1,())) fun o9=>
 .sm o9 (fun o10=>
 .leaf o10) (fun o11=>
 .leaf (true,()))))
def N9 (a0:Bb) (a1:Bb):Option ((Bool×Unit)):=(Uc a0 a1).val
def Wi (a0:Bp) (a1:Bp):Tree ((Bool×Unit)):=
 letI u1:=a0.2.2.2;letI u2:=u1.2.2.2;letI u3:=u2.2.2.2;letI u4:=u3.2.2.2;letI u5:=u4.2.2.2;letI u6:=u5.2.2.2.2;letI u7:=a1.2.2.2;letI u8:=u7.2.2.2;letI u9:=u8.2.2.2;letI u10:=u9.2.2.2;letI u11:=u10.2.2.2;letI u12:=u11.2.2.2.2;.br (a0.1==a1.1) (
 .ob (Hx (a0.2.1,()) (a1.2.1,())) fun r1=>
 .br r1.1 (
 .ob (Hx (a0.2.2.1,()) (a1.2.2.1,())) fun r2=>
 .br r2.1 (
 .ob (Qf (u1.1,u1.2.1,u1.2.2.1,u2.1,u2.2.1,u2.2.2.1,u3.1,u3.2.1,u3.2.2.1,u4.1,u4.2.1,u4.2.2.1,u5.1,u5.2.1,u5.2.2.1,()) (u7.1,u7.2.1,u7.2.2.1,u8.1,u8.2.1,u8.2.2.1,u9.1,u9.2.1,u9.2.2.1,u10.1,u10.2.1,u10.2.2.1,u11.1,u11.2.1,u11.2.2.1,())) fun r3=>
 .br r3.1 (
 .ob (N9 (u5.2.2.2.1,u6.1,u6.2.1,()) (u11.2.2.2.1,u12.1,u12.2.1,())) fun r4=>
 .br r4.1 (
 .br (u6.2.2.1==u12.2.2.1) (
 .br (u6.2.2.2.1==u12.2.2.2.1) (
 .leaf ((u6.2.2.2.2.1==u12.2.2.2.2.1),())) (
 .leaf (false,()))) (
 .leaf (false,()))) (
 .leaf (false,()))) (
 .leaf (false,()))) (
 .leaf (false,()))) (
 .leaf (false,()))) (
 .leaf (false,()))
def Wj (a0:Bp) (a1:Bp):Option ((Bool×Unit)):=(Wi a0 a1).val
def Uy (a0:Bb) (a1:B7):Tree (Ap×(Bool×Unit)):=
 .ob (Qc a0 a1) fun r1=>
 .ob (La a0) fun r2=>
 .br (!r2.1) (
 .leaf (((0:Int),(0:Int),([]:List YB),(0:Int),()),(false,()))) (
 .br (decide (r1.1<(0:Int))) (
 .leaf (((0:Int),(0:Int),([]:List YB),(0:Int),()),(false,()))) (
 .ob (De a0) fun r3=>
 .ob (idx r3.2.2.1 r1.1) fun e4=>
 .leaf (e4,(true,()))))
def Kd (a0:Bb) (a1:B7):Option (Ap×(Bool×Unit)):=(Uy a0 a1).val
end
end Go.Proofs.YtmhhajdeafijmaaGreat

/-
  What the functions of the seat answer, as plain terms (printed by a program, proved in the texts P); nothing is assumed.
-/
import Derived.Test.YtmhhajdeafijmaaEv2
namespace Go.Proofs.Ytmhhajdeafijmaa
open Go.RowKit IntKind
set_option linter.unusedVariables false
set_option maxRecDepth 100000
set_option maxHeartbeats 4000000
noncomputable section
abbrev YB:Type:=Int×Unit
abbrev YI:Type:=Int×Unit
abbrev YBs:Type:=List YB×Unit
abbrev Agy:Type:=ByteArray×Int×Unit
abbrev Al4:Type:=Int×Int×Unit
abbrev Aks:Type:=Int×Int×Bool×Int×Unit
abbrev Bf:Type:=(List YB)×Int×Int×Unit
abbrev E8:Type:=(List YI)×(List YB)×Int×Unit
abbrev YOp:Type:=Int×Int×Int×(List YB)×Unit
abbrev Dd:Type:=Int×Int×Int×Int×(List YB)×Unit
abbrev Bc:Type:=Int×Int×(List YB)×(List YB)×Int×(List YB)×(List YB)×Int×Int×(List YB)×(List YB)×Unit
def Ad8 (a0:YBs):Tree ((Bool×Unit)):=
 .leaf ((decide ((a0.1.length:Int)>(1048576:Int))),())
def Ad9 (a0:YBs):Option ((Bool×Unit)):=(Ad8 a0).val
def Jj (x1:Bf):Option (Bf⊕(((List YB)×Int×Unit))):=
 Tree.val (α:=Bf⊕(((List YB)×Int×Unit))) <|
 .br (decide (x1.2.2.1<(x1.1.length:Int))) (
 .br (decide (x1.2.2.1<(4000:Int))) (
 .ob (idx x1.1 x1.2.2.1) fun e2=>
 .leaf (.inl (x1.1,(i64.wrap ((BitVec.ofInt (i64.bits) ((i64.wrap ((i64.wrap ((i64.wrap (x1.2.1*(137:Int)))+(i64.wrap (e2.1))))+(11:Int)))) &&& BitVec.ofInt (i64.bits) ((1073741823:Int))).toNat:Nat)),(i64.wrap (x1.2.2.1+(1:Int))),()))) (
 .leaf (.inr (x1.1,x1.2.1,())))) (
 .leaf (.inr (x1.1,x1.2.1,())))
def Q0 (a0:YBs):Tree (Bf):=
 .ob (Al Jj (a0.1,(i64.wrap ((127812:Int)+(a0.1.length:Int))),(0:Int),())) fun o3=>
 .leaf (o3.1,(0:Int),o3.2.1,())
def Q1 (a0:YBs):Option (Bf):=(Q0 a0).val
def Ok (a0:Bf):Tree (YI×Bf):=
 letI u1:=a0.2.2;.br (decide (a0.2.1<(a0.1.length:Int))) (
 .ob (idx a0.1 a0.2.1) fun e1=>
 .leaf (((i64.wrap ((BitVec.ofInt (i64.bits) ((i64.wrap ((i64.wrap ((BitVec.ofInt (i64.bits) ((i64.wrap ((BitVec.ofInt (i64.bits) ((Int.fdiv (i64.wrap ((i64.wrap (u1.1*(6364136223846793005:Int)))+(1442695040888963407:Int))) (2^(min ((33:Int)).toNat i64.bits)))) ^^^ BitVec.ofInt (i64.bits) ((Int.fdiv (i64.wrap ((i64.wrap (u1.1*(6364136223846793005:Int)))+(1442695040888963407:Int))) (2^(min ((47:Int)).toNat i64.bits))))).toNat:Nat))) &&& BitVec.ofInt (i64.bits) ((255:Int))).toNat:Nat))+(i64.wrap (e1.1))))) &&& BitVec.ofInt (i64.bits) ((255:Int))).toNat:Nat)),()),(a0.1,(i64.wrap (a0.2.1+(1:Int))),(i64.wrap ((i64.wrap (u1.1*(6364136223846793005:Int)))+(1442695040888963407:Int))),()))) (
 .leaf (((i64.wrap ((BitVec.ofInt (i64.bits) ((i64.wrap ((BitVec.ofInt (i64.bits) ((Int.fdiv (i64.wrap ((i64.wrap (u1.1*(6364136223846793005:Int)))+(1442695040888963407:Int))) (2^(min ((33:Int)).toNat i64.bits)))) ^^^ BitVec.ofInt (i64.bits) ((Int.fdiv (i64.wrap ((i64.wrap (u1.1*(6364136223846793005:Int)))+(1442695040888963407:Int))) (2^(min ((47:Int)).toNat i64.bits))))).toNat:Nat))) &&& BitVec.ofInt (i64.bits) ((255:Int))).toNat:Nat)),()),(a0.1,a0.2.1,(i64.wrap ((i64.wrap (u1.1*(6364136223846793005:Int)))+(1442695040888963407:Int))),())))
def E9 (a0:Bf):Option (YI×Bf):=(Ok a0).val
def Mm (a0:Bf) (a1:YI):Tree (YI×Bf):=
 .br (decide (a1.1≤(0:Int))) (
 .leaf (((0:Int),()),a0)) (
 .br (decide (a1.1≤(256:Int))) (
 .ob (E9 a0) fun r1=>
 .chk (decide ((0:Int)<a1.1)) <|
 .chk (decide ((0:Int)≤r1.1.1)) <|
 .leaf (((r1.1.1%a1.1),()),(a0.1,r1.2.2.1,r1.2.2.2.1,()))) (
 .ob (E9 a0) fun r2=>
 .ob (E9 (a0.1,r2.2.2.1,r2.2.2.2.1,())) fun r3=>
 .ob (E9 (a0.1,r3.2.2.1,r3.2.2.2.1,())) fun r4=>
 .chk (decide ((0:Int)<a1.1)) <|
 .chk (decide ((0:Int)≤(i64.wrap ((i64.wrap ((i64.wrap (r2.1.1*(65536:Int)))+(i64.wrap (r3.1.1*(256:Int)))))+r4.1.1)))) <|
 .leaf ((((i64.wrap ((i64.wrap ((i64.wrap (r2.1.1*(65536:Int)))+(i64.wrap (r3.1.1*(256:Int)))))+r4.1.1))%a1.1),()),(a0.1,r4.2.2.1,r4.2.2.2.1,()))))
def Fm (a0:Bf) (a1:YI):Option (YI×Bf):=(Mm a0 a1).val
def Q2 (a0:Bf) (a1:(List YI)×Unit):Tree (YI×Bf):=
 .ob (Fm a0 ((a1.1.length:Int),())) fun r1=>
 .ob (idx a1.1 r1.1.1) fun e2=>
 .leaf (e2,(a0.1,r1.2.2.1,r1.2.2.2.1,()))
def D9 (a0:Bf) (a1:(List YI)×Unit):Option (YI×Bf):=(Q2 a0 a1).val
def Fi (x1:Int×(List YB)×Int×(List YB)×Int×Int×Unit):Option ((Int×(List YB)×Int×(List YB)×Int×Int×Unit)⊕(((List YB)×(List YB)×Int×Int×Unit))):=
 letI u1:=x1.2.2.2;Tree.val (α:=(Int×(List YB)×Int×(List YB)×Int×Int×Unit)⊕(((List YB)×(List YB)×Int×Int×Unit))) <|
 .br (decide (x1.2.2.1<x1.1)) (
 .ob (E9 (u1.1,u1.2.1,u1.2.2.1,())) fun r2=>
 .chk (decide (x1.2.1.length+[((u8.wrap (r2.1.1)),())].length≤4294967296)) <|
 .leaf (.inl (x1.1,(x1.2.1++[((u8.wrap (r2.1.1)),())]),(i64.wrap (x1.2.2.1+(1:Int))),u1.1,r2.2.2.1,r2.2.2.2.1,()))) (
 .leaf (.inr (x1.2.1,u1.1,u1.2.1,u1.2.2.1,())))
def Mn (a0:Bf) (a1:YI):Tree (YBs×Bf):=
 .ob (Al Fi (a1.1,([]:List YB),(0:Int),a0.1,a0.2.1,a0.2.2.1,())) fun o3=>
 .leaf ((o3.1,()),(o3.2.1,o3.2.2.1,o3.2.2.2.1,()))
def Eh (a0:Bf) (a1:YI):Option (YBs×Bf):=(Mn a0 a1).val
def Ol (a0:Bf):Tree (YI×YBs×Bf):=
 .ob (Fm a0 ((6:Int),())) fun r1=>letI u1:=r1.2.2;
 .br (r1.1.1==(0:Int)) (
 .ob (Fm (a0.1,u1.1,u1.2.1,()) ((2:Int),())) fun r2=>
 .ob (Eh (a0.1,r2.2.2.1,r2.2.2.2.1,()) ((12:Int),())) fun r3=>
 .leaf (((i64.wrap ((5:Int)+r2.1.1)),()),r3.1,(a0.1,r3.2.2.1,r3.2.2.2.1,()))) (
 .br (r1.1.1==(1:Int)) (
 .ob (Fm (a0.1,u1.1,u1.2.1,()) ((2:Int),())) fun r4=>
 .ob (Eh (a0.1,r4.2.2.1,r4.2.2.2.1,()) ((4:Int),())) fun r5=>
 .leaf (((i64.wrap ((7:Int)+r4.1.1)),()),r5.1,(a0.1,r5.2.2.1,r5.2.2.2.1,()))) (
 .ob (D9 (a0.1,u1.1,u1.2.1,()) ([((0:Int),()),((1:Int),()),((3:Int),()),((12:Int),()),((33:Int),()),((40:Int),())],())) fun r6=>
 .ob (Eh (a0.1,r6.2.2.1,r6.2.2.2.1,()) r6.1) fun r7=>
 .leaf (((4:Int),()),r7.1,(a0.1,r7.2.2.1,r7.2.2.2.1,()))))
def Om (a0:Bf):Option (YI×YBs×Bf):=(Ol a0).val
def J1 (a0:YBs):Tree (YBs×YI×YI×YBs×YI×YI×YI×YBs):=
 .ob (Q1 a0) fun r1=>
 .ob (D9 r1 ([((32:Int),()),((32:Int),()),((32:Int),()),((32:Int),()),((31:Int),())],())) fun r2=>
 .ob (Eh (r1.1,r2.2.2.1,r2.2.2.2.1,()) r2.1) fun r3=>
 .ob (Om (r1.1,r3.2.2.1,r3.2.2.2.1,())) fun r4=>
 .ob (D9 (r1.1,r4.2.2.2.1,r4.2.2.2.2.1,()) ([((0:Int),()),((1:Int),()),((11:Int),()),((12:Int),()),((-1:Int),()),((2:Int),()),((3:Int),())],())) fun r5=>
 .ob (D9 (r1.1,r5.2.2.1,r5.2.2.2.1,()) ([((0:Int),()),((1:Int),()),((0:Int),()),((1:Int),()),((0:Int),()),((1:Int),()),((2:Int),())],())) fun r6=>
 .ob (D9 (r1.1,r6.2.2.1,r6.2.2.2.1,()) ([((12:Int),()),((12:Int),()),((12:Int),()),((12:Int),()),((12:Int),()),((11:Int),())],())) fun r7=>
 .ob (Eh (r1.1,r7.2.2.1,r7.2.2.2.1,()) r7.1) fun r8=>
 .ob (D9 (r1.1,r8.2.2.1,r8.2.2.2.1,()) ([((0:Int),()),((1:Int),()),((4294967295:Int),())],())) fun r9=>
 .ob (D9 (r1.1,r9.2.2.1,r9.2.2.2.1,()) ([((0:Int),()),((3:Int),()),((281474976710655:Int),())],())) fun r10=>
 .leaf (r3.1,r5.1,r6.1,r8.1,r9.1,r10.1,r4.1,r4.2.1)
def J2 (a0:YBs):Option (YBs×YI×YI×YBs×YI×YI×YI×YBs):=(J1 a0).val
def Q3 (a0:YBs):Tree (YBs):=
 .chk (decide (([]:List YB).length+a0.1.length≤4294967296)) <|
 .leaf ((([]:List YB)++a0.1),())
def C0 (a0:YBs):Option (YBs):=(Q3 a0).val
def On (a0:YI):Tree ((Bool×Unit)):=
 .br (a0.1==(0:Int)) (
 .leaf (true,())) (
 .leaf ((a0.1==(1:Int)),()))
def H7 (a0:YI):Option ((Bool×Unit)):=(On a0).val
def Oo (a0:YI) (a1:YI) (a2:YI):Tree ((Bool×Unit)):=
 .br (decide (a0.1≥a1.1)) (
 .leaf ((decide (a0.1≤a2.1)),())) (
 .leaf (false,()))
def Bb (a0:YI) (a1:YI) (a2:YI):Option ((Bool×Unit)):=(Oo a0 a1 a2).val
def Oq (a0:YI):Tree ((Bool×Unit)):=
 .ob (Bb a0 ((4:Int),()) ((8:Int),())) fun r1=>
 .leaf r1
def H8 (a0:YI):Option ((Bool×Unit)):=(Oq a0).val
def S8 (a0:YBs):Tree ((Bool×Unit)):=
 .leaf (((a0.1.length:Int)==(12:Int)),())
def Dq (a0:YBs):Option ((Bool×Unit)):=(S8 a0).val
def Ot (a0:YI) (a1:YI):Tree ((Bool×Unit)):=
 .br (a0.1==(4:Int)) (
 .leaf ((decide (a1.1≤(40:Int))),())) (
 .br (a0.1==(5:Int)) (
 .leaf ((a1.1==(12:Int)),())) (
 .br (a0.1==(6:Int)) (
 .leaf ((a1.1==(12:Int)),())) (
 .leaf ((a1.1==(4:Int)),()))))
def Ou (a0:YI) (a1:YI):Option ((Bool×Unit)):=(Ot a0 a1).val
def Qm (a0:YBs) (a1:YBs):Tree ((Bool×Unit)):=
 .leaf ((decide ((I6 a0.1)=(I6 a1.1))),())
def Di (a0:YBs) (a1:YBs):Option ((Bool×Unit)):=(Qm a0 a1).val
def J3 (a0:Bc) (a1:Bc):Tree ((Bool×Unit)):=
 letI u1:=a0.2.2.2;letI u2:=u1.2.2.2;letI u3:=a1.2.2.2;letI u4:=u3.2.2.2;.br (a0.1==a1.1) (
 .br (a0.2.1==a1.2.1) (
 .br (u1.2.1==u3.2.1) (
 .br (u2.2.1==u4.2.1) (
 .br (u2.2.2.1==u4.2.2.1) (
 .ob (Di (a0.2.2.1,()) (a1.2.2.1,())) fun r1=>
 .br r1.1 (
 .ob (Di (u1.1,()) (u3.1,())) fun r2=>
 .br r2.1 (
 .ob (Di (u1.2.2.1,()) (u3.2.2.1,())) fun r3=>
 .br r3.1 (
 .ob (Di (u2.1,()) (u4.1,())) fun r4=>
 .br r4.1 (
 .ob (Di (u2.2.2.2.1,()) (u4.2.2.2.1,())) fun r5=>
 .br r5.1 (
 .ob (Di (u2.2.2.2.2.1,()) (u4.2.2.2.2.1,())) fun r6=>
 .leaf r6) (
 .leaf (false,()))) (
 .leaf (false,()))) (
 .leaf (false,()))) (
 .leaf (false,()))) (
 .leaf (false,()))) (
 .leaf (false,()))) (
 .leaf (false,()))) (
 .leaf (false,()))) (
 .leaf (false,()))) (
 .leaf (false,()))
def D6 (a0:Bc) (a1:Bc):Option ((Bool×Unit)):=(J3 a0 a1).val
def Mo (a0:Bc):Tree ((Bool×Unit)):=
 letI u1:=a0.2.2;letI u2:=u1.2.2;letI u3:=u2.2.2.2;.br (a0.1==(1:Int)) (
 .ob (Bb (a0.2.1,()) ((1:Int),()) ((9:Int),())) fun r1=>
 .br r1.1 (
 .ob (Dq (u1.1,())) fun r2=>
 .br r2.1 (
 .ob (D6 a0 (a0.1,a0.2.1,u1.1,([]:List YB),(0:Int),([]:List YB),([]:List YB),(0:Int),(0:Int),([]:List YB),([]:List YB),())) fun r3=>
 .leaf r3) (
 .leaf (false,()))) (
 .leaf (false,()))) (
 .br (a0.1==(2:Int)) (
 .ob (Dq (u1.1,())) fun r4=>
 .br r4.1 (
 .ob (Dq (u1.2.1,())) fun r5=>
 .br r5.1 (
 .ob (Bb (u2.1,()) ((0:Int),()) ((1000000:Int),())) fun r6=>
 .br r6.1 (
 .br ((a0.2.2.2.2.2.1.length:Int)==(16:Int)) (
 .ob (D6 a0 (a0.1,(0:Int),u1.1,u1.2.1,u2.1,u2.2.1,([]:List YB),(0:Int),(0:Int),([]:List YB),([]:List YB),())) fun r7=>
 .leaf r7) (
 .leaf (false,()))) (
 .leaf (false,()))) (
 .leaf (false,()))) (
 .leaf (false,()))) (
 .br (a0.1==(3:Int)) (
 .ob (Bb (a0.2.1,()) ((1:Int),()) ((9:Int),())) fun r8=>
 .br r8.1 (
 .ob (Dq (u1.1,())) fun r9=>
 .br r9.1 (
 .ob (Dq (u1.2.1,())) fun r10=>
 .br r10.1 (
 .ob (Bb (u2.1,()) ((0:Int),()) ((1000000:Int),())) fun r11=>
 .br r11.1 (
 .br ((a0.2.2.2.2.2.1.length:Int)==(16:Int)) (
 .br ((a0.2.2.2.2.2.2.1.length:Int)==(16:Int)) (
 .ob (D6 a0 (a0.1,a0.2.1,u1.1,u1.2.1,u2.1,u2.2.1,u2.2.2.1,(0:Int),(0:Int),([]:List YB),([]:List YB),())) fun r12=>
 .leaf r12) (
 .leaf (false,()))) (
 .leaf (false,()))) (
 .leaf (false,()))) (
 .leaf (false,()))) (
 .leaf (false,()))) (
 .leaf (false,()))) (
 .ob (H8 (a0.1,())) fun r13=>
 .br r13.1 (
 .ob (Dq (u1.2.1,())) fun r14=>
 .br r14.1 (
 .ob (Bb (u3.1,()) ((0:Int),()) ((4294967295:Int),())) fun r15=>
 .br r15.1 (
 .ob (Bb (u3.2.1,()) ((0:Int),()) ((281474976710655:Int),())) fun r16=>
 .br r16.1 (
 .br ((a0.2.2.2.2.2.2.2.2.2.2.1.length:Int)==(16:Int)) (
 .ob (Ou (a0.1,()) ((a0.2.2.2.2.2.2.2.2.2.1.length:Int),())) fun r17=>
 .br r17.1 (
 .ob (D6 a0 (a0.1,(0:Int),([]:List YB),u1.2.1,(0:Int),([]:List YB),([]:List YB),u3.1,u3.2.1,u3.2.2.1,u3.2.2.2.1,())) fun r18=>
 .leaf r18) (
 .leaf (false,()))) (
 .leaf (false,()))) (
 .leaf (false,()))) (
 .leaf (false,()))) (
 .leaf (false,()))) (
 .leaf (false,())))))
def G6 (a0:Bc):Option ((Bool×Unit)):=(Mo a0).val
def Vc (x1:Int×(List YB)×Int×Unit):Option ((Int×(List YB)×Int×Unit)⊕(YBs)):=
 letI u1:=x1.2.2;Tree.val (α:=(Int×(List YB)×Int×Unit)⊕(YBs)) <|
 .br (decide (u1.1≥(0:Int))) (
 .chk (decide ((0:Int)≤(i64.wrap ((8:Int)*u1.1)))) <|
 .chk (decide (x1.2.1.length+[((u8.wrap ((i64.wrap ((BitVec.ofInt (i64.bits) ((Int.fdiv x1.1 (2^(min ((i64.wrap ((8:Int)*u1.1))).toNat i64.bits)))) &&& BitVec.ofInt (i64.bits) ((255:Int))).toNat:Nat)))),())].length≤4294967296)) <|
 .leaf (.inl (x1.1,(x1.2.1++[((u8.wrap ((i64.wrap ((BitVec.ofInt (i64.bits) ((Int.fdiv x1.1 (2^(min ((i64.wrap ((8:Int)*u1.1))).toNat i64.bits)))) &&& BitVec.ofInt (i64.bits) ((255:Int))).toNat:Nat)))),())]),(i64.wrap (u1.1-(1:Int))),()))) (
 .leaf (.inr (x1.2.1,())))
def Aa3 (a0:YBs) (a1:YI) (a2:YI):Tree (YBs):=
 .chk (decide (([]:List YB).length+a0.1.length≤4294967296)) <|
 .br (decide (a2.1<(1:Int))) (
 .leaf ((([]:List YB)++a0.1),())) (
 .br (decide (a2.1>(6:Int))) (
 .leaf ((([]:List YB)++a0.1),())) (
 .ob (Al Vc (a1.1,(([]:List YB)++a0.1),(i64.wrap (a2.1-(1:Int))),())) fun o2=>
 .leaf o2))
def Ci (a0:YBs) (a1:YI) (a2:YI):Option (YBs):=(Aa3 a0 a1 a2).val
def Ek (x1:(List YB)×(List YBs)×Int×Int×Unit):Option (((List YB)×(List YBs)×Int×Int×Unit)⊕(YBs)):=
 letI u1:=x1.2.2;Tree.val (α:=((List YB)×(List YBs)×Int×Int×Unit)⊕(YBs)) <|
 .br (decide (u1.2.1<u1.1)) (
 .ob (idx x1.2.1 u1.2.1) fun e2=>
 .chk (decide (x1.1.length+e2.1.length≤4294967296)) <|
 .leaf (.inl ((x1.1++e2.1),x1.2.1,u1.1,(i64.wrap (u1.2.1+(1:Int))),()))) (
 .leaf (.inr (x1.1,())))
def Ov (a0:(List YBs)×Unit):Tree (YBs):=
 .ob (Al Ek (([]:List YB),a0.1,(a0.1.length:Int),(0:Int),())) fun o3=>
 .leaf o3
def Bn (a0:(List YBs)×Unit):Option (YBs):=(Ov a0).val
def Ow (a0:YI) (a1:YBs) (a2:YI) (a3:YI):Tree (YBs):=
 .ob (H7 a0) fun r1=>
 .br (!r1.1) (
 .leaf (([]:List YB),())) (
 .ob (Dq a1) fun r2=>
 .br (!r2.1) (
 .leaf (([]:List YB),())) (
 .ob (Bb a2 ((0:Int),()) ((4294967295:Int),())) fun r3=>
 .br (!r3.1) (
 .leaf (([]:List YB),())) (
 .ob (Bb a3 ((0:Int),()) ((281474976710655:Int),())) fun r4=>
 .br (!r4.1) (
 .leaf (([]:List YB),())) (
 .ob (Ci (([]:List YB),()) a2 ((4:Int),())) fun r5=>
 .ob (Ci (([]:List YB),()) a3 ((6:Int),())) fun r6=>
 .ob (Bn ([([((u8.wrap (a0.1)),())],()),a1,r5,r6],())) fun r7=>
 .leaf r7))))
def H9 (a0:YI) (a1:YBs) (a2:YI) (a3:YI):Option (YBs):=(Ow a0 a1 a2 a3).val
def Ze:Tree (((List YI)×Unit)):=
 .leaf ([((1779033703:Int),()),((3144134277:Int),()),((1013904242:Int),()),((2773480762:Int),()),((1359893119:Int),()),((2600822924:Int),()),((528734635:Int),()),((1541459225:Int),())],())
def Agz:Option (((List YI)×Unit)):=(Ze).val
def S9:Tree (E8):=
 .ob Agz fun r1=>
 .leaf (r1.1,([]:List YB),(0:Int),())
def Ta:Option (E8):=(S9).val
def El (x1:(List YI)×Int×(List YI)×Int×Int×Unit):Option (((List YI)×Int×(List YI)×Int×Int×Unit)⊕((Bool×Unit)⊕((List YI)×Int×Unit))):=
 letI u1:=x1.2.2;Tree.val (α:=((List YI)×Int×(List YI)×Int×Int×Unit)⊕((Bool×Unit)⊕((List YI)×Int×Unit))) <|
 .br (decide (u1.2.2.1<u1.2.1)) (
 .ob (idx u1.1 u1.2.2.1) fun e2=>
 .ob (Bb e2 ((0:Int),()) ((4294967295:Int),())) fun r3=>
 .br (!r3.1) (
 .leaf (.inr (.inl (false,())))) (
 .leaf (.inl (x1.1,x1.2.1,u1.1,u1.2.1,(i64.wrap (u1.2.2.1+(1:Int))),())))) (
 .leaf (.inr (.inr (x1.1,x1.2.1,()))))
def Kr (a0:(List YI)×Unit) (a1:YI):Tree ((Bool×Unit)):=
 .ob (Al El (a0.1,a1.1,a0.1,(a0.1.length:Int),(0:Int),())) fun o4=>
 .sm o4 (fun o5=>
 .leaf o5) (fun o6=>
 .leaf (((o6.1.length:Int)==o6.2.1),()))
def Ia (a0:(List YI)×Unit) (a1:YI):Option ((Bool×Unit)):=(Kr a0 a1).val
def Ox (a0:E8):Tree ((Bool×Unit)):=
 .ob (Ia (a0.1,()) ((8:Int),())) fun r1=>
 .br r1.1 (
 .ob (Bb (a0.2.2.1,()) ((0:Int),()) ((1048576:Int),())) fun r2=>
 .br r2.1 (
 .chk (decide ((0:Int)≤a0.2.2.1)) <|
 .leaf (((a0.2.2.1%(64:Int))==(a0.2.1.length:Int)),())) (
 .leaf (false,()))) (
 .leaf (false,()))
def Ka (a0:E8):Option ((Bool×Unit)):=(Ox a0).val
def Ww (a0:YBs) (a1:YI) (a2:YI):Tree (YBs×(Bool×Unit)):=
 .br (decide (a1.1<(0:Int))) (
 .leaf ((([]:List YB),()),(false,()))) (
 .br (decide (a2.1<(0:Int))) (
 .leaf ((([]:List YB),()),(false,()))) (
 .br (decide (a1.1>(a0.1.length:Int))) (
 .leaf ((([]:List YB),()),(false,()))) (
 .br (decide (a2.1>(i64.wrap ((a0.1.length:Int)-a1.1)))) (
 .leaf ((([]:List YB),()),(false,()))) (
 .chk (decide ((0:Int)≤a1.1)) <|
 .chk (decide (a1.1≤(i64.wrap (a1.1+a2.1)))) <|
 .chk (decide ((i64.wrap (a1.1+a2.1))≤(a0.1.length:Int))) <|
 .chk (decide (([]:List YB).length+((a0.1.take ((i64.wrap (a1.1+a2.1))).toNat).drop (a1.1).toNat).length≤4294967296)) <|
 .leaf (((([]:List YB)++((a0.1.take ((i64.wrap (a1.1+a2.1))).toNat).drop (a1.1).toNat)),()),(true,()))))))
def Sl (a0:YBs) (a1:YI) (a2:YI):Option (YBs×(Bool×Unit)):=(Ww a0 a1 a2).val
def Gp (x2:Int×Int×Int×(List YB)×Int×Int×Unit):Option ((Int×Int×Int×(List YB)×Int×Int×Unit)⊕((Int×Int×Int×Unit))):=
 letI u1:=x2.2.2;letI u2:=u1.2.2;Tree.val (α:=(Int×Int×Int×(List YB)×Int×Int×Unit)⊕((Int×Int×Int×Unit))) <|
 .br (decide (u2.2.1<u2.1)) (
 .ob (idx u1.2.1 u2.2.1) fun e3=>
 .leaf (.inl (x2.1,x2.2.1,(i64.wrap ((i64.wrap ((256:Int)*u1.1))+(i64.wrap (e3.1)))),u1.2.1,u2.1,(i64.wrap (u2.2.1+(1:Int))),()))) (
 .leaf (.inr (x2.1,x2.2.1,u1.1,())))
def Tx (a0:YBs) (a1:YI) (a2:YI):Tree (YI×YI×(Bool×Unit)):=
 .br (decide (a2.1<(1:Int))) (
 .leaf (((0:Int),()),((0:Int),()),(false,()))) (
 .br (decide (a2.1>(6:Int))) (
 .leaf (((0:Int),()),((0:Int),()),(false,()))) (
 .ob (Sl a0 a1 a2) fun r1=>
 .br (!r1.2.1) (
 .leaf (((0:Int),()),((0:Int),()),(false,()))) (
 .ob (Al Gp (a1.1,a2.1,(0:Int),r1.1.1,(r1.1.1.length:Int),(0:Int),())) fun o4=>
 .leaf ((o4.2.2.1,()),((i64.wrap (o4.1+o4.2.1)),()),(true,())))))
def Tz (a0:YBs) (a1:YI) (a2:YI):Option (YI×YI×(Bool×Unit)):=(Tx a0 a1 a2).val
def Wx (a0:YI) (a1:YI):Tree (YI):=
 .br (decide (a1.1<(0:Int))) (
 .leaf ((i64.wrap ((BitVec.ofInt (i64.bits) (a0.1) &&& BitVec.ofInt (i64.bits) ((4294967295:Int))).toNat:Nat)),())) (
 .br (decide (a1.1>(31:Int))) (
 .leaf ((i64.wrap ((BitVec.ofInt (i64.bits) (a0.1) &&& BitVec.ofInt (i64.bits) ((4294967295:Int))).toNat:Nat)),())) (
 .chk (decide ((0:Int)≤a1.1)) <|
 .chk (decide ((0:Int)≤(i64.wrap ((32:Int)-a1.1)))) <|
 .leaf ((i64.wrap ((BitVec.ofInt (i64.bits) ((i64.wrap ((BitVec.ofInt (i64.bits) ((Int.fdiv (i64.wrap ((BitVec.ofInt (i64.bits) (a0.1) &&& BitVec.ofInt (i64.bits) ((4294967295:Int))).toNat:Nat)) (2^(min (a1.1).toNat i64.bits)))) ||| BitVec.ofInt (i64.bits) ((i64.wrap ((i64.wrap ((BitVec.ofInt (i64.bits) (a0.1) &&& BitVec.ofInt (i64.bits) ((4294967295:Int))).toNat:Nat))*2^(min ((i64.wrap ((32:Int)-a1.1))).toNat i64.bits))))).toNat:Nat))) &&& BitVec.ofInt (i64.bits) ((4294967295:Int))).toNat:Nat)),())))
def D7 (a0:YI) (a1:YI):Option (YI):=(Wx a0 a1).val
def Dr (x1:(List YB)×(List YI)×Int×Unit):Option (((List YB)×(List YI)×Int×Unit)⊕(((List YI)×Unit))):=
 letI u1:=x1.2.2;Tree.val (α:=((List YB)×(List YI)×Int×Unit)⊕(((List YI)×Unit))) <|
 .br (decide (u1.1<(16:Int))) (
 .ob (Tz (x1.1,()) ((i64.wrap ((4:Int)*u1.1)),()) ((4:Int),())) fun r2=>
 .ob (idx x1.2.1 u1.1) fun e3=>
 let q4:=(x1.2.1.set (u1.1).toNat r2.1)
 .leaf (.inl (x1.1,q4,(i64.wrap (u1.1+(1:Int))),()))) (
 .leaf (.inr (x1.2.1,())))
def Ds (x6:(List YI)×Int×Unit):Option (((List YI)×Int×Unit)⊕(((List YI)×Unit))):=
 Tree.val (α:=((List YI)×Int×Unit)⊕(((List YI)×Unit))) <|
 .br (decide (x6.2.1<(64:Int))) (
 .ob (idx x6.1 (i64.wrap (x6.2.1-(15:Int)))) fun e7=>
 .ob (idx x6.1 (i64.wrap (x6.2.1-(2:Int)))) fun e8=>
 .ob (D7 e7 ((7:Int),())) fun r9=>
 .ob (D7 e7 ((18:Int),())) fun r10=>
 .ob (D7 e8 ((17:Int),())) fun r11=>
 .ob (D7 e8 ((19:Int),())) fun r12=>
 .ob (idx x6.1 (i64.wrap (x6.2.1-(7:Int)))) fun e13=>
 .ob (idx x6.1 (i64.wrap (x6.2.1-(16:Int)))) fun e14=>
 .ob (idx x6.1 x6.2.1) fun e15=>
 let q16:=(x6.1.set (x6.2.1).toNat ((i64.wrap ((BitVec.ofInt (i64.bits) ((i64.wrap ((i64.wrap ((i64.wrap (e13.1+e14.1))+(i64.wrap ((BitVec.ofInt (i64.bits) ((i64.wrap ((BitVec.ofInt (i64.bits) (r9.1) ^^^ BitVec.ofInt (i64.bits) (r10.1)).toNat:Nat))) ^^^ BitVec.ofInt (i64.bits) ((Int.fdiv e7.1 (2^(min ((3:Int)).toNat i64.bits))))).toNat:Nat))))+(i64.wrap ((BitVec.ofInt (i64.bits) ((i64.wrap ((BitVec.ofInt (i64.bits) (r11.1) ^^^ BitVec.ofInt (i64.bits) (r12.1)).toNat:Nat))) ^^^ BitVec.ofInt (i64.bits) ((Int.fdiv e8.1 (2^(min ((10:Int)).toNat i64.bits))))).toNat:Nat))))) &&& BitVec.ofInt (i64.bits) ((4294967295:Int))).toNat:Nat)),()))
 .leaf (.inl (q16,(i64.wrap (x6.2.1+(1:Int))),()))) (
 .leaf (.inr (x6.1,())))
def Ib (a0:YBs):Tree (((List YI)×Unit)):=
 .br ((a0.1.length:Int) != (64:Int)) (
 .leaf (([]:List YI),())) (
 .ob (Al Dr (a0.1,(List.replicate ((64:Int)).toNat ((0:Int),())),(0:Int),())) fun o5=>
 .ob (Al Ds (o5.1,(16:Int),())) fun o17=>
 .leaf o17)
def Ks (a0:YBs):Option (((List YI)×Unit)):=(Ib a0).val
def Qn (a0:YI):Tree YI:=.leaf (Js a0.1,())
def Qo (a0:YI):Option YI:=(Qn a0).val
def Zf (a0:YI) (a1:YI):Tree (YI):=
 .leaf ((i64.wrap ((BitVec.ofInt (i64.bits) ((i64.wrap (a0.1+a1.1))) &&& BitVec.ofInt (i64.bits) ((4294967295:Int))).toNat:Nat)),())
def Ly (a0:YI) (a1:YI):Option (YI):=(Zf a0 a1).val
def C8 (x11:(List YI)×(List YI)×(List YI)×Int×Int×Int×Int×Int×Int×Int×Int×Int×Unit):Option (((List YI)×(List YI)×(List YI)×Int×Int×Int×Int×Int×Int×Int×Int×Int×Unit)⊕(((List YI)×(List YI)×Int×Int×Int×Int×Int×Int×Int×Int×Unit))):=
 letI u1:=x11.2.2.2;letI u2:=u1.2.2;letI u3:=u2.2.2;letI u4:=u3.2.2;Tree.val (α:=((List YI)×(List YI)×(List YI)×Int×Int×Int×Int×Int×Int×Int×Int×Int×Unit)⊕(((List YI)×(List YI)×Int×Int×Int×Int×Int×Int×Int×Int×Unit))) <|
 .br (decide (u4.2.2.1<(64:Int))) (
 .ob (D7 (u3.1,()) ((6:Int),())) fun r12=>
 .ob (D7 (u3.1,()) ((11:Int),())) fun r13=>
 .ob (D7 (u3.1,()) ((25:Int),())) fun r14=>
 .ob (Qo (u4.2.2.1,())) fun r15=>
 .ob (idx x11.2.2.1 u4.2.2.1) fun e16=>
 .ob (D7 (u1.1,()) ((2:Int),())) fun r17=>
 .ob (D7 (u1.1,()) ((13:Int),())) fun r18=>
 .ob (D7 (u1.1,()) ((22:Int),())) fun r19=>
 .ob (Ly (u2.2.1,()) ((i64.wrap ((i64.wrap ((i64.wrap ((i64.wrap (u4.2.1+(i64.wrap ((BitVec.ofInt (i64.bits) ((i64.wrap ((BitVec.ofInt (i64.bits) (r12.1) ^^^ BitVec.ofInt (i64.bits) (r13.1)).toNat:Nat))) ^^^ BitVec.ofInt (i64.bits) (r14.1)).toNat:Nat))))+(i64.wrap ((BitVec.ofInt (i64.bits) ((i64.wrap ((BitVec.ofInt (i64.bits) (u3.1) &&& BitVec.ofInt (i64.bits) (u3.2.1)).toNat:Nat))) ^^^ BitVec.ofInt (i64.bits) ((i64.wrap ((BitVec.ofInt (i64.bits) ((i64.wrap ((BitVec.ofInt (i64.bits) ((4294967295:Int)) ^^^ BitVec.ofInt (i64.bits) (u3.1)).toNat:Nat))) &&& BitVec.ofInt (i64.bits) (u4.1)).toNat:Nat)))).toNat:Nat))))+r15.1))+e16.1)),())) fun r20=>
 .ob (Ly ((i64.wrap ((i64.wrap ((i64.wrap ((i64.wrap (u4.2.1+(i64.wrap ((BitVec.ofInt (i64.bits) ((i64.wrap ((BitVec.ofInt (i64.bits) (r12.1) ^^^ BitVec.ofInt (i64.bits) (r13.1)).toNat:Nat))) ^^^ BitVec.ofInt (i64.bits) (r14.1)).toNat:Nat))))+(i64.wrap ((BitVec.ofInt (i64.bits) ((i64.wrap ((BitVec.ofInt (i64.bits) (u3.1) &&& BitVec.ofInt (i64.bits) (u3.2.1)).toNat:Nat))) ^^^ BitVec.ofInt (i64.bits) ((i64.wrap ((BitVec.ofInt (i64.bits) ((i64.wrap ((BitVec.ofInt (i64.bits) ((4294967295:Int)) ^^^ BitVec.ofInt (i64.bits) (u3.1)).toNat:Nat))) &&& BitVec.ofInt (i64.bits) (u4.1)).toNat:Nat)))).toNat:Nat))))+r15.1))+e16.1)),()) ((i64.wrap ((i64.wrap ((BitVec.ofInt (i64.bits) ((i64.wrap ((BitVec.ofInt (i64.bits) (r17.1) ^^^ BitVec.ofInt (i64.bits) (r18.1)).toNat:Nat))) ^^^ BitVec.ofInt (i64.bits) (r19.1)).toNat:Nat))+(i64.wrap ((BitVec.ofInt (i64.bits) ((i64.wrap ((BitVec.ofInt (i64.bits) ((i64.wrap ((BitVec.ofInt (i64.bits) (u1.1) &&& BitVec.ofInt (i64.bits) (u1.2.1)).toNat:Nat))) ^^^ BitVec.ofInt (i64.bits) ((i64.wrap ((BitVec.ofInt (i64.bits) (u1.1) &&& BitVec.ofInt (i64.bits) (u2.1)).toNat:Nat)))).toNat:Nat))) ^^^ BitVec.ofInt (i64.bits) ((i64.wrap ((BitVec.ofInt (i64.bits) (u1.2.1) &&& BitVec.ofInt (i64.bits) (u2.1)).toNat:Nat)))).toNat:Nat)))),())) fun r21=>
 .leaf (.inl (x11.1,x11.2.1,x11.2.2.1,r21.1,u1.1,u1.2.1,u2.1,r20.1,u3.1,u3.2.1,u4.1,(i64.wrap (u4.2.2.1+(1:Int))),()))) (
 .leaf (.inr (x11.1,x11.2.1,u1.1,u1.2.1,u2.1,u2.2.1,u3.1,u3.2.1,u4.1,u4.2.1,())))
def Cq (x23:(List YI)×(List YI)×(List YI)×Int×Int×Unit):Option (((List YI)×(List YI)×(List YI)×Int×Int×Unit)⊕(((List YI)×Unit))):=
 letI u1:=x23.2.2;letI u2:=u1.2.2;Tree.val (α:=((List YI)×(List YI)×(List YI)×Int×Int×Unit)⊕(((List YI)×Unit))) <|
 .br (decide (u2.1<u1.2.1)) (
 .ob (idx u1.1 u2.1) fun e24=>
 .ob (idx x23.1 u2.1) fun e25=>
 .ob (Ly e25 e24) fun r26=>
 .ob (idx x23.2.1 u2.1) fun e27=>
 let q28:=(x23.2.1.set (u2.1).toNat r26)
 .leaf (.inl (x23.1,q28,u1.1,u1.2.1,(i64.wrap (u2.1+(1:Int))),()))) (
 .leaf (.inr (x23.2.1,())))
def Ic (a0:(List YI)×Unit) (a1:YBs):Tree (((List YI)×Unit)):=
 .chk (decide (([]:List YI).length+a0.1.length≤4294967296)) <|
 .ob (Ia a0 ((8:Int),())) fun r1=>
 .br (!r1.1) (
 .leaf ((([]:List YI)++a0.1),())) (
 .br ((a1.1.length:Int) != (64:Int)) (
 .leaf ((([]:List YI)++a0.1),())) (
 .ob (Ks a1) fun r2=>
 .ob (idx a0.1 (0:Int)) fun e3=>
 .ob (idx a0.1 (1:Int)) fun e4=>
 .ob (idx a0.1 (2:Int)) fun e5=>
 .ob (idx a0.1 (3:Int)) fun e6=>
 .ob (idx a0.1 (4:Int)) fun e7=>
 .ob (idx a0.1 (5:Int)) fun e8=>
 .ob (idx a0.1 (6:Int)) fun e9=>
 .ob (idx a0.1 (7:Int)) fun e10=>
 .ob (Al C8 (a0.1,(([]:List YI)++a0.1),r2.1,e3.1,e4.1,e5.1,e6.1,e7.1,e8.1,e9.1,e10.1,(0:Int),())) fun o22=>letI u1:=o22.2.2;letI u2:=u1.2.2;letI u3:=u2.2.2.2;
 .ob (Al Cq (o22.1,o22.2.1,[(u1.1,()),(u1.2.1,()),(u2.1,()),(u2.2.1,()),(u2.2.2.1,()),(u3.1,()),(u3.2.1,()),(u3.2.2.1,())],([(u1.1,()),(u1.2.1,()),(u2.1,()),(u2.2.1,()),(u2.2.2.1,()),(u3.1,()),(u3.2.1,()),(u3.2.2.1,())].length:Int),(0:Int),())) fun o29=>
 .leaf o29))
def Fw (a0:(List YI)×Unit) (a1:YBs):Option (((List YI)×Unit)):=(Ic a0 a1).val
def Ca (x3:(List YI)×(List YB)×Unit):Option (((List YI)×(List YB)×Unit)⊕(((List YI)×(List YB)×Unit))):=
 Tree.val (α:=((List YI)×(List YB)×Unit)⊕(((List YI)×(List YB)×Unit))) <|
 .br (decide ((x3.2.1.length:Int)≥(64:Int))) (
 .chk (decide ((64:Int)≤(x3.2.1.length:Int))) <|
 .ob (Fw (x3.1,()) (((x3.2.1.take ((64:Int)).toNat).drop ((0:Int)).toNat),())) fun r4=>
 .chk (decide ((64:Int)≤(x3.2.1.length:Int))) <|
 .chk (decide ((x3.2.1.length:Int)≤(x3.2.1.length:Int))) <|
 .leaf (.inl (r4.1,((x3.2.1.take ((x3.2.1.length:Int)).toNat).drop ((64:Int)).toNat),()))) (
 .leaf (.inr x3))
def Id (a0:(List YI)×Unit) (a1:YBs):Tree (((List YI)×Unit)×YBs):=
 .ob (Al Ca (a0.1,a1.1,())) fun o5=>
 .leaf ((o5.1,()),(o5.2.1,()))
def Fs (a0:(List YI)×Unit) (a1:YBs):Option (((List YI)×Unit)×YBs):=(Id a0 a1).val
def Mp (a0:E8) (a1:YBs):Tree (E8):=
 .ob (Ka a0) fun r1=>
 .br (!r1.1) (
 .chk (decide (([]:List YI).length+a0.1.length≤4294967296)) <|
 .ob (C0 (a0.2.1,())) fun r2=>
 .leaf ((([]:List YI)++a0.1),r2.1,a0.2.2.1,())) (
 .br (decide ((a1.1.length:Int)>(i64.wrap ((1048576:Int)-a0.2.2.1)))) (
 .chk (decide (([]:List YI).length+a0.1.length≤4294967296)) <|
 .ob (C0 (a0.2.1,())) fun r3=>
 .leaf ((([]:List YI)++a0.1),r3.1,a0.2.2.1,())) (
 .ob (Bn ([(a0.2.1,()),a1],())) fun r4=>
 .ob (Fs (a0.1,()) r4) fun r5=>
 .chk (decide (([]:List YI).length+r5.1.1.length≤4294967296)) <|
 .ob (C0 r5.2) fun r6=>
 .leaf ((([]:List YI)++r5.1.1),r6.1,(i64.wrap (a0.2.2.1+(a1.1.length:Int))),())))
def Mq (a0:E8) (a1:YBs):Option (E8):=(Mp a0 a1).val
def Fx (x2:Int×(List YB)×Unit):Option ((Int×(List YB)×Unit)⊕((Int×(List YB)×Unit))):=
 Tree.val (α:=(Int×(List YB)×Unit)⊕((Int×(List YB)×Unit))) <|
 .chk (decide ((0:Int)≤(i64.wrap ((i64.wrap (x2.1+(x2.2.1.length:Int)))+(8:Int))))) <|
 .br (((i64.wrap ((i64.wrap (x2.1+(x2.2.1.length:Int)))+(8:Int)))%(64:Int)) != (0:Int)) (
 .chk (decide (x2.2.1.length+[((0:Int),())].length≤4294967296)) <|
 .leaf (.inl (x2.1,(x2.2.1++[((0:Int),())]),()))) (
 .leaf (.inr x2))
def Wy (a0:YI):Tree (YBs):=
 .ob (Bb a0 ((0:Int),()) ((1048576:Int),())) fun r1=>
 .br (!r1.1) (
 .leaf (([]:List YB),())) (
 .ob (Al Fx (a0.1,[((128:Int),())],())) fun o3=>
 .chk (decide (o3.2.1.length+[((0:Int),()),((0:Int),())].length≤4294967296)) <|
 .ob (Ci ((o3.2.1++[((0:Int),()),((0:Int),())]),()) ((i64.wrap ((8:Int)*o3.1)),()) ((6:Int),())) fun r4=>
 .leaf r4)
def Wz (a0:YI):Option (YBs):=(Wy a0).val
def De (x1:(List YB)×(List YI)×Int×Int×Unit):Option (((List YB)×(List YI)×Int×Int×Unit)⊕(YBs)):=
 letI u1:=x1.2.2;Tree.val (α:=((List YB)×(List YI)×Int×Int×Unit)⊕(YBs)) <|
 .br (decide (u1.2.1<u1.1)) (
 .ob (idx x1.2.1 u1.2.1) fun e2=>
 .ob (Ci (x1.1,()) e2 ((4:Int),())) fun r3=>
 .leaf (.inl (r3.1,x1.2.1,u1.1,(i64.wrap (u1.2.1+(1:Int))),()))) (
 .leaf (.inr (x1.1,())))
def J4 (a0:(List YI)×Unit):Tree (YBs):=
 .ob (Al De (([]:List YB),a0.1,(a0.1.length:Int),(0:Int),())) fun o4=>
 .leaf o4
def J5 (a0:(List YI)×Unit):Option (YBs):=(J4 a0).val
def Mr (a0:E8):Tree (YBs):=
 .ob (Ka a0) fun r1=>
 .br (!r1.1) (
 .leaf (([]:List YB),())) (
 .ob (Wz (a0.2.2.1,())) fun r2=>
 .ob (Bn ([(a0.2.1,()),r2],())) fun r3=>
 .ob (Fs (a0.1,()) r3) fun r4=>
 .ob (J5 r4.1) fun r5=>
 .leaf r5)
def Ms (a0:E8):Option (YBs):=(Mr a0).val
def W0 (a0:YBs):Tree (YBs):=
 .br (decide ((a0.1.length:Int)>(1048576:Int))) (
 .leaf (([]:List YB),())) (
 .ob Ta fun r1=>
 .ob (Mq r1 a0) fun r2=>
 .ob (Ms r2) fun r3=>
 .leaf r3)
def Np (a0:YBs):Option (YBs):=(W0 a0).val
def Cj (x3:YBs):Option (YBs⊕(YBs)):=
 Tree.val (α:=YBs⊕(YBs)) <|
 .br (decide ((x3.1.length:Int)<(64:Int))) (
 .chk (decide (x3.1.length+[((0:Int),())].length≤4294967296)) <|
 .leaf (.inl ((x3.1++[((0:Int),())]),()))) (
 .leaf (.inr x3))
def Kt (a0:YBs):Tree (YBs):=
 .br (decide ((a0.1.length:Int)>(1048576:Int))) (
 .leaf (([]:List YB),())) (
 .ob (C0 a0) fun r1=>
 .br (decide ((a0.1.length:Int)>(64:Int))) (
 .ob (Np a0) fun r2=>
 .ob (Al Cj r2) fun o4=>
 .leaf o4) (
 .ob (Al Cj r1) fun o5=>
 .leaf o5))
def Ku (a0:YBs):Option (YBs):=(Kt a0).val
def Em (x1:Int×(List YB)×(List YB)×Int×Int×Unit):Option ((Int×(List YB)×(List YB)×Int×Int×Unit)⊕(YBs)):=
 letI u1:=x1.2.2;Tree.val (α:=(Int×(List YB)×(List YB)×Int×Int×Unit)⊕(YBs)) <|
 .br (decide (u1.2.2.1<u1.2.1)) (
 .ob (idx u1.1 u1.2.2.1) fun e2=>
 .chk (decide (x1.2.1.length+[((u8.wrap ((BitVec.ofInt (u8.bits) (e2.1) ^^^ BitVec.ofInt (u8.bits) (x1.1)).toNat:Nat)),())].length≤4294967296)) <|
 .leaf (.inl (x1.1,(x1.2.1++[((u8.wrap ((BitVec.ofInt (u8.bits) (e2.1) ^^^ BitVec.ofInt (u8.bits) (x1.1)).toNat:Nat)),())]),u1.1,u1.2.1,(i64.wrap (u1.2.2.1+(1:Int))),()))) (
 .leaf (.inr (x1.2.1,())))
def Oy (a0:YBs) (a1:YB):Tree (YBs):=
 .ob (Al Em (a1.1,([]:List YB),a0.1,(a0.1.length:Int),(0:Int),())) fun o3=>
 .leaf o3
def Kb (a0:YBs) (a1:YB):Option (YBs):=(Oy a0 a1).val
def T0 (a0:YBs) (a1:YBs):Tree (YBs):=
 .br (decide ((a0.1.length:Int)>(1048576:Int))) (
 .leaf (([]:List YB),())) (
 .br (decide ((a1.1.length:Int)>(1048512:Int))) (
 .leaf (([]:List YB),())) (
 .ob (Ku a0) fun r1=>
 .ob (Kb r1 ((92:Int),())) fun r2=>
 .ob (Kb r1 ((54:Int),())) fun r3=>
 .ob (Bn ([r3,a1],())) fun r4=>
 .ob (Np r4) fun r5=>
 .ob (Bn ([r2,r5],())) fun r6=>
 .ob (Np r6) fun r7=>
 .leaf r7))
def I7 (a0:YBs) (a1:YBs):Option (YBs):=(T0 a0 a1).val
def Mt (a0:YBs) (a1:YBs) (a2:YI):Tree (YBs):=
 .ob (Bb a2 ((0:Int),()) ((6:Int),())) fun r1=>
 .br (!r1.1) (
 .leaf (([]:List YB),())) (
 .br (decide ((a1.1.length:Int)>(100:Int))) (
 .leaf (([]:List YB),())) (
 .ob (Bn ([([((115:Int),())],()),a1],())) fun r2=>
 .ob (Ci r2 a2 ((4:Int),())) fun r3=>
 .ob (I7 a0 r3) fun r4=>
 .leaf r4))
def Mu (a0:YBs) (a1:YBs) (a2:YI):Option (YBs):=(Mt a0 a1 a2).val
def En (x2:(List YB)×(List YB)×Int×(List YB)×Int×Unit):Option (((List YB)×(List YB)×Int×(List YB)×Int×Unit)⊕((Int×(List YB)×Unit))):=
 letI u1:=x2.2.2;Tree.val (α:=((List YB)×(List YB)×Int×(List YB)×Int×Unit)⊕((Int×(List YB)×Unit))) <|
 .br (decide ((x2.2.2.2.1.length:Int)<u1.1)) (
 .ob (Mu (x2.1,()) (x2.2.1,()) (u1.2.2.1,())) fun r3=>
 .chk (decide (x2.2.2.2.1.length+r3.1.length≤4294967296)) <|
 .leaf (.inl (x2.1,x2.2.1,u1.1,(u1.2.1++r3.1),(i64.wrap (u1.2.2.1+(1:Int))),()))) (
 .leaf (.inr (u1.1,u1.2.1,())))
def Oz (a0:YBs) (a1:YBs) (a2:YI):Tree (YBs):=
 .ob (Bb a2 ((0:Int),()) ((200:Int),())) fun r1=>
 .br (!r1.1) (
 .leaf (([]:List YB),())) (
 .br (decide ((a1.1.length:Int)>(100:Int))) (
 .leaf (([]:List YB),())) (
 .br (decide ((a0.1.length:Int)>(1048576:Int))) (
 .leaf (([]:List YB),())) (
 .ob (Al En (a0.1,a1.1,a2.1,([]:List YB),(0:Int),())) fun o4=>
 .chk (decide ((0:Int)≤o4.1)) <|
 .chk (decide (o4.1≤(o4.2.1.length:Int))) <|
 .ob (C0 (((o4.2.1.take (o4.1).toNat).drop ((0:Int)).toNat),())) fun r5=>
 .leaf r5)))
def O0 (a0:YBs) (a1:YBs) (a2:YI):Option (YBs):=(Oz a0 a1 a2).val
def Ht (x2:(List YB)×(List YB)×(List YB)×Int×Int×Unit):Option (((List YB)×(List YB)×(List YB)×Int×Int×Unit)⊕(YBs)):=
 letI u1:=x2.2.2.2;Tree.val (α:=((List YB)×(List YB)×(List YB)×Int×Int×Unit)⊕(YBs)) <|
 .br (decide (u1.2.1<u1.1)) (
 .ob (idx x2.2.2.1 u1.2.1) fun e3=>
 .ob (idx x2.1 u1.2.1) fun e4=>
 .chk (decide (x2.2.1.length+[((u8.wrap ((BitVec.ofInt (u8.bits) (e3.1) ^^^ BitVec.ofInt (u8.bits) (e4.1)).toNat:Nat)),())].length≤4294967296)) <|
 .leaf (.inl (x2.1,(x2.2.1++[((u8.wrap ((BitVec.ofInt (u8.bits) (e3.1) ^^^ BitVec.ofInt (u8.bits) (e4.1)).toNat:Nat)),())]),x2.2.2.1,u1.1,(i64.wrap (u1.2.1+(1:Int))),()))) (
 .leaf (.inr (x2.2.1,())))
def W1 (a0:YBs) (a1:YBs) (a2:YBs):Tree (YBs):=
 .br (decide ((a2.1.length:Int)>(200:Int))) (
 .leaf (([]:List YB),())) (
 .br (decide ((a1.1.length:Int)>(100:Int))) (
 .leaf (([]:List YB),())) (
 .br (decide ((a0.1.length:Int)>(1048576:Int))) (
 .leaf (([]:List YB),())) (
 .ob (O0 a0 a1 ((a2.1.length:Int),())) fun r1=>
 .ob (Al Ht (a2.1,([]:List YB),r1.1,(r1.1.length:Int),(0:Int),())) fun o5=>
 .leaf o5)))
def Nq (a0:YBs) (a1:YBs) (a2:YBs):Option (YBs):=(W1 a0 a1 a2).val
def Kv (a0:YI) (a1:Bc):Tree (YBs):=
 letI u1:=a1.2.2.2.2.2.2.2;.ob (H7 a0) fun r1=>
 .br (!r1.1) (
 .leaf (([]:List YB),())) (
 .ob (H8 (a1.1,())) fun r2=>
 .br (!r2.1) (
 .leaf (([]:List YB),())) (
 .ob (G6 a1) fun r3=>
 .br (!r3.1) (
 .leaf (([]:List YB),())) (
 .ob (H9 a0 (a1.2.2.2.1,()) (u1.1,()) (u1.2.1,())) fun r4=>
 .ob (Bn ([([((116:Int),())],()),r4,([((u8.wrap (a1.1)),())],()),(u1.2.2.1,())],())) fun r5=>
 .leaf r5)))
def Fy (a0:YI) (a1:Bc):Option (YBs):=(Kv a0 a1).val
def W2 (a0:YBs) (a1:YBs):Tree (YBs):=
 .ob (I7 a0 a1) fun r1=>
 .br ((r1.1.length:Int)==(0:Int)) (
 .leaf (([]:List YB),())) (
 .chk (decide ((16:Int)≤(r1.1.length:Int))) <|
 .ob (C0 (((r1.1.take ((16:Int)).toNat).drop ((0:Int)).toNat),())) fun r2=>
 .leaf r2)
def Nr (a0:YBs) (a1:YBs):Option (YBs):=(W2 a0 a1).val
def T1 (a0:YBs) (a1:YI) (a2:YBs) (a3:YI) (a4:YI) (a5:YI) (a6:YBs):Tree (Bc×(Bool×Unit)):=
 .ob (C0 a2) fun r1=>
 .ob (C0 a6) fun r2=>
 .br ((a0.1.length:Int) != (32:Int)) (
 .leaf (((0:Int),(0:Int),([]:List YB),([]:List YB),(0:Int),([]:List YB),([]:List YB),(0:Int),(0:Int),([]:List YB),([]:List YB),()),(false,()))) (
 .ob (H7 a1) fun r3=>
 .br (!r3.1) (
 .leaf (((0:Int),(0:Int),([]:List YB),([]:List YB),(0:Int),([]:List YB),([]:List YB),(0:Int),(0:Int),([]:List YB),([]:List YB),()),(false,()))) (
 .ob (H8 a5) fun r4=>
 .br (!r4.1) (
 .leaf (((0:Int),(0:Int),([]:List YB),([]:List YB),(0:Int),([]:List YB),([]:List YB),(0:Int),(0:Int),([]:List YB),([]:List YB),()),(false,()))) (
 .ob (G6 (a5.1,(0:Int),([]:List YB),r1.1,(0:Int),([]:List YB),([]:List YB),a3.1,a4.1,r2.1,(List.replicate ((16:Int)).toNat ((0:Int),())),())) fun r5=>
 .br (!r5.1) (
 .leaf (((0:Int),(0:Int),([]:List YB),([]:List YB),(0:Int),([]:List YB),([]:List YB),(0:Int),(0:Int),([]:List YB),([]:List YB),()),(false,()))) (
 .ob (H9 a1 a2 a3 a4) fun r6=>
 .ob (Nq a0 r6 a6) fun r7=>
 .ob (Fy a1 (a5.1,(0:Int),([]:List YB),r1.1,(0:Int),([]:List YB),([]:List YB),a3.1,a4.1,r7.1,(List.replicate ((16:Int)).toNat ((0:Int),())),())) fun r8=>
 .ob (Nr a0 r8) fun r9=>
 .leaf ((a5.1,(0:Int),([]:List YB),r1.1,(0:Int),([]:List YB),([]:List YB),a3.1,a4.1,r7.1,r9.1,()),(true,()))))))
def O3 (a0:YBs) (a1:YI) (a2:YBs) (a3:YI) (a4:YI) (a5:YI) (a6:YBs):Option (Bc×(Bool×Unit)):=(T1 a0 a1 a2 a3 a4 a5 a6).val
def Q4 (a0:YBs) (a1:YI) (a2:YI) (a3:YBs) (a4:YI) (a5:YI) (a6:YI) (a7:YBs):Tree (((List YOp)×Unit)):=
 .ob (O3 a0 a2 a3 a4 a5 a6 a7) fun r1=>
 .br (!r1.2.1) (
 .leaf (([]:List YOp),())) (
 .ob (Bb a1 ((0:Int),()) ((11:Int),())) fun r2=>
 .br (!r2.1) (
 .leaf (([]:List YOp),())) (
 .ob (Ci (([]:List YB),()) a4 ((4:Int),())) fun r3=>
 .ob (Ci (([]:List YB),()) a5 ((6:Int),())) fun r4=>
 .ob (Bn ([([((u8.wrap (a6.1)),())],()),a3,r3,r4],())) fun r5=>
 .ob (Fy a2 r1.1) fun r6=>
 .leaf ([((1:Int),(0:Int),(0:Int),r5.1,()),((3:Int),a1.1,(0:Int),([]:List YB),()),((1:Int),(0:Int),(0:Int),r6.1,()),((8:Int),(0:Int),(0:Int),([]:List YB),()),((5:Int),(0:Int),(0:Int),([]:List YB),()),((1:Int),(0:Int),(0:Int),r1.1.2.2.2.2.2.2.2.2.2.1,()),((5:Int),(0:Int),(0:Int),([]:List YB),())],())))
def Q5 (a0:YBs) (a1:YI) (a2:YI) (a3:YBs) (a4:YI) (a5:YI) (a6:YI) (a7:YBs):Option (((List YOp)×Unit)):=(Q4 a0 a1 a2 a3 a4 a5 a6 a7).val
def T2 (a0:YI) (a1:YI) (a2:YI):Tree ((Bool×Unit)):=
 .br (decide (a0.1≥a1.1)) (
 .leaf ((decide (a0.1≤a2.1)),())) (
 .leaf (false,()))
def Cb (a0:YI) (a1:YI) (a2:YI):Option ((Bool×Unit)):=(T2 a0 a1 a2).val
def Ie (x1:Int×(List YB)×Int×Unit):Option ((Int×(List YB)×Int×Unit)⊕(YBs)):=
 letI u1:=x1.2.2;Tree.val (α:=(Int×(List YB)×Int×Unit)⊕(YBs)) <|
 .br (decide (u1.1≥(0:Int))) (
 .chk (decide ((0:Int)≤(i64.wrap ((8:Int)*u1.1)))) <|
 .chk (decide (x1.2.1.length+[((u8.wrap ((i64.wrap ((BitVec.ofInt (i64.bits) ((Int.fdiv x1.1 (2^(min ((i64.wrap ((8:Int)*u1.1))).toNat i64.bits)))) &&& BitVec.ofInt (i64.bits) ((255:Int))).toNat:Nat)))),())].length≤4294967296)) <|
 .leaf (.inl (x1.1,(x1.2.1++[((u8.wrap ((i64.wrap ((BitVec.ofInt (i64.bits) ((Int.fdiv x1.1 (2^(min ((i64.wrap ((8:Int)*u1.1))).toNat i64.bits)))) &&& BitVec.ofInt (i64.bits) ((255:Int))).toNat:Nat)))),())]),(i64.wrap (u1.1-(1:Int))),()))) (
 .leaf (.inr (x1.2.1,())))
def T3 (a0:YBs) (a1:YI) (a2:YI):Tree (YBs):=
 .chk (decide (([]:List YB).length+a0.1.length≤4294967296)) <|
 .br (decide (a2.1<(1:Int))) (
 .leaf ((([]:List YB)++a0.1),())) (
 .br (decide (a2.1>(6:Int))) (
 .leaf ((([]:List YB)++a0.1),())) (
 .ob (Al Ie (a1.1,(([]:List YB)++a0.1),(i64.wrap (a2.1-(1:Int))),())) fun o2=>
 .leaf o2))
def Dw (a0:YBs) (a1:YI) (a2:YI):Option (YBs):=(T3 a0 a1 a2).val
def O4 (a0:YI) (a1:YBs) (a2:YI) (a3:YI):Tree (YBs):=
 .ob (Cb a0 ((0:Int),()) ((1:Int),())) fun r1=>
 .br (!r1.1) (
 .leaf (([]:List YB),())) (
 .br ((a1.1.length:Int) != (12:Int)) (
 .leaf (([]:List YB),())) (
 .ob (Cb a2 ((0:Int),()) ((4294967295:Int),())) fun r2=>
 .br (!r2.1) (
 .leaf (([]:List YB),())) (
 .ob (Cb a3 ((0:Int),()) ((281474976710655:Int),())) fun r3=>
 .br (!r3.1) (
 .leaf (([]:List YB),())) (
 .chk (decide ([((u8.wrap (a0.1)),())].length+a1.1.length≤4294967296)) <|
 .ob (Dw (([((u8.wrap (a0.1)),())]++a1.1),()) a2 ((4:Int),())) fun r4=>
 .ob (Dw r4 a3 ((6:Int),())) fun r5=>
 .leaf r5))))
def Kc (a0:YI) (a1:YBs) (a2:YI) (a3:YI):Option (YBs):=(O4 a0 a1 a2 a3).val
def O5 (a0:YI):Tree ((Bool×Unit)):=
 .ob (Cb a0 ((4:Int),()) ((8:Int),())) fun r1=>
 .leaf r1
def Ig (a0:YI):Option ((Bool×Unit)):=(O5 a0).val
def O6 (a0:YI) (a1:YI):Tree ((Bool×Unit)):=
 .br (a0.1==(4:Int)) (
 .leaf ((decide (a1.1≤(40:Int))),())) (
 .br (a0.1==(5:Int)) (
 .leaf ((a1.1==(12:Int)),())) (
 .br (a0.1==(6:Int)) (
 .leaf ((a1.1==(12:Int)),())) (
 .leaf ((a1.1==(4:Int)),()))))
def Kd (a0:YI) (a1:YI):Option ((Bool×Unit)):=(O6 a0 a1).val
def Q6 (x1:Int×(List YB)×Unit):Option ((Int×(List YB)×Unit)⊕((Int×(List YB)×Unit))):=
 Tree.val (α:=(Int×(List YB)×Unit)⊕((Int×(List YB)×Unit))) <|
 .chk (decide ((0:Int)≤(i64.wrap ((i64.wrap (x1.1+(x1.2.1.length:Int)))+(8:Int))))) <|
 .br (((i64.wrap ((i64.wrap (x1.1+(x1.2.1.length:Int)))+(8:Int)))%(64:Int)) != (0:Int)) (
 .chk (decide (x1.2.1.length+[((0:Int),())].length≤4294967296)) <|
 .leaf (.inl (x1.1,(x1.2.1++[((0:Int),())]),()))) (
 .leaf (.inr x1))
def W3 (a0:YI):Tree (YBs):=
 .br (decide (a0.1<(0:Int))) (
 .leaf (([]:List YB),())) (
 .br (decide (a0.1>(1048576:Int))) (
 .leaf (([]:List YB),())) (
 .ob (Al Q6 (a0.1,[((128:Int),())],())) fun o2=>
 .ob (Dw (o2.2.1,()) ((0:Int),()) ((4:Int),())) fun r3=>
 .ob (Dw r3 ((i64.wrap ((8:Int)*o2.1)),()) ((4:Int),())) fun r4=>
 .leaf r4))
def W4 (a0:YI):Option (YBs):=(W3 a0).val
def Zg:Tree (((List YI)×Unit)):=
 .leaf ([((1779033703:Int),()),((3144134277:Int),()),((1013904242:Int),()),((2773480762:Int),()),((1359893119:Int),()),((2600822924:Int),()),((528734635:Int),()),((1541459225:Int),())],())
def Zh:Option (((List YI)×Unit)):=(Zg).val
def Fj (x1:(List YI)×Int×Unit):Option (((List YI)×Int×Unit)⊕((Bool×Unit)⊕((List YI)×Unit))):=
 Tree.val (α:=((List YI)×Int×Unit)⊕((Bool×Unit)⊕((List YI)×Unit))) <|
 .br (decide (x1.2.1<(x1.1.length:Int))) (
 .ob (idx x1.1 x1.2.1) fun e2=>
 .ob (Cb e2 ((0:Int),()) ((4294967295:Int),())) fun r3=>
 .br (!r3.1) (
 .leaf (.inr (.inl (false,())))) (
 .leaf (.inl (x1.1,(i64.wrap (x1.2.1+(1:Int))),())))) (
 .leaf (.inr (.inr (x1.1,()))))
def Mv (a0:(List YI)×Unit):Tree ((Bool×Unit)):=
 .ob (Al Fj (a0.1,(0:Int),())) fun o4=>
 .sm o4 (fun o5=>
 .leaf o5) (fun o6=>
 .leaf (((o6.1.length:Int)==(8:Int)),()))
def Mw (a0:(List YI)×Unit):Option ((Bool×Unit)):=(Mv a0).val
def Aea:Tree (((List YI)×Unit)):=
 .leaf ([((1116352408:Int),()),((1899447441:Int),()),((3049323471:Int),()),((3921009573:Int),()),((961987163:Int),()),((1508970993:Int),()),((2453635748:Int),()),((2870763221:Int),()),((3624381080:Int),()),((310598401:Int),()),((607225278:Int),()),((1426881987:Int),()),((1925078388:Int),()),((2162078206:Int),()),((2614888103:Int),()),((3248222580:Int),()),((3835390401:Int),()),((4022224774:Int),()),((264347078:Int),()),((604807628:Int),()),((770255983:Int),()),((1249150122:Int),()),((1555081692:Int),()),((1996064986:Int),()),((2554220882:Int),()),((2821834349:Int),()),((2952996808:Int),()),((3210313671:Int),()),((3336571891:Int),()),((3584528711:Int),()),((113926993:Int),()),((338241895:Int),()),((666307205:Int),()),((773529912:Int),()),((1294757372:Int),()),((1396182291:Int),()),((1695183700:Int),()),((1986661051:Int),()),((2177026350:Int),()),((2456956037:Int),()),((2730485921:Int),()),((2820302411:Int),()),((3259730800:Int),()),((3345764771:Int),()),((3516065817:Int),()),((3600352804:Int),()),((4094571909:Int),()),((275423344:Int),()),((430227734:Int),()),((506948616:Int),()),((659060556:Int),()),((883997877:Int),()),((958139571:Int),()),((1322822218:Int),()),((1537002063:Int),()),((1747873779:Int),()),((1955562222:Int),()),((2024104815:Int),()),((2227730452:Int),()),((2361852424:Int),()),((2428436474:Int),()),((2756734187:Int),()),((3204031479:Int),()),((3329325298:Int),())],())
def Aeb:Option (((List YI)×Unit)):=(Aea).val
def Gq (x1:(List YB)×Int×Int×Int×Int×Unit):Option (((List YB)×Int×Int×Int×Int×Unit)⊕((Int×Int×Int×Unit))):=
 letI u1:=x1.2.2;Tree.val (α:=((List YB)×Int×Int×Int×Int×Unit)⊕((Int×Int×Int×Unit))) <|
 .br (decide (u1.2.2.1<u1.1)) (
 .ob (idx x1.1 (i64.wrap (x1.2.1+u1.2.2.1))) fun e2=>
 .leaf (.inl (x1.1,x1.2.1,u1.1,(i64.wrap ((i64.wrap (u1.2.1*(256:Int)))+(i64.wrap (e2.1)))),(i64.wrap (u1.2.2.1+(1:Int))),()))) (
 .leaf (.inr (x1.2.1,u1.1,u1.2.1,())))
def T4 (a0:YBs) (a1:YI) (a2:YI):Tree (YI×YI×(Bool×Unit)):=
 .br (decide (a2.1<(1:Int))) (
 .leaf (((0:Int),()),((0:Int),()),(false,()))) (
 .br (decide (a2.1>(6:Int))) (
 .leaf (((0:Int),()),((0:Int),()),(false,()))) (
 .br (decide (a1.1<(0:Int))) (
 .leaf (((0:Int),()),((0:Int),()),(false,()))) (
 .br (decide (a1.1>(i64.wrap ((a0.1.length:Int)-a2.1)))) (
 .leaf (((0:Int),()),((0:Int),()),(false,()))) (
 .ob (Al Gq (a0.1,a1.1,a2.1,(0:Int),(0:Int),())) fun o3=>
 .leaf ((o3.2.2.1,()),((i64.wrap (o3.1+o3.2.1)),()),(true,()))))))
def T5 (a0:YBs) (a1:YI) (a2:YI):Option (YI×YI×(Bool×Unit)):=(T4 a0 a1 a2).val
def W5 (a0:YI) (a1:YI):Tree (YI):=
 .br (decide (a1.1<(1:Int))) (
 .leaf ((i64.wrap ((BitVec.ofInt (i64.bits) (a0.1) &&& BitVec.ofInt (i64.bits) ((4294967295:Int))).toNat:Nat)),())) (
 .br (decide (a1.1>(31:Int))) (
 .leaf ((i64.wrap ((BitVec.ofInt (i64.bits) (a0.1) &&& BitVec.ofInt (i64.bits) ((4294967295:Int))).toNat:Nat)),())) (
 .chk (decide ((0:Int)≤a1.1)) <|
 .chk (decide ((0:Int)≤(i64.wrap ((32:Int)-a1.1)))) <|
 .leaf ((i64.wrap ((BitVec.ofInt (i64.bits) ((i64.wrap ((BitVec.ofInt (i64.bits) ((Int.fdiv (i64.wrap ((BitVec.ofInt (i64.bits) (a0.1) &&& BitVec.ofInt (i64.bits) ((4294967295:Int))).toNat:Nat)) (2^(min (a1.1).toNat i64.bits)))) ||| BitVec.ofInt (i64.bits) ((i64.wrap ((i64.wrap ((BitVec.ofInt (i64.bits) (a0.1) &&& BitVec.ofInt (i64.bits) ((4294967295:Int))).toNat:Nat))*2^(min ((i64.wrap ((32:Int)-a1.1))).toNat i64.bits))))).toNat:Nat))) &&& BitVec.ofInt (i64.bits) ((4294967295:Int))).toNat:Nat)),())))
def D8 (a0:YI) (a1:YI):Option (YI):=(W5 a0 a1).val
def Dt (x1:(List YB)×(List YI)×Int×Unit):Option (((List YB)×(List YI)×Int×Unit)⊕(((List YI)×Unit))):=
 Tree.val (α:=((List YB)×(List YI)×Int×Unit)⊕(((List YI)×Unit))) <|
 .br (decide (x1.2.2.1<(16:Int))) (
 .ob (T5 (x1.1,()) ((i64.wrap ((4:Int)*x1.2.2.1)),()) ((4:Int),())) fun r2=>
 .chk (decide (x1.2.1.length+[r2.1].length≤4294967296)) <|
 .leaf (.inl (x1.1,(x1.2.1++[r2.1]),(i64.wrap (x1.2.2.1+(1:Int))),()))) (
 .leaf (.inr (x1.2.1,())))
def Df (x4:(List YI)×Int×Unit):Option (((List YI)×Int×Unit)⊕(((List YI)×Unit))):=
 Tree.val (α:=((List YI)×Int×Unit)⊕(((List YI)×Unit))) <|
 .br (decide (x4.2.1<(64:Int))) (
 .ob (idx x4.1 (i64.wrap (x4.2.1-(15:Int)))) fun e5=>
 .ob (idx x4.1 (i64.wrap (x4.2.1-(2:Int)))) fun e6=>
 .ob (D8 e5 ((7:Int),())) fun r7=>
 .ob (D8 e5 ((18:Int),())) fun r8=>
 .ob (D8 e6 ((17:Int),())) fun r9=>
 .ob (D8 e6 ((19:Int),())) fun r10=>
 .ob (idx x4.1 (i64.wrap (x4.2.1-(7:Int)))) fun e11=>
 .ob (idx x4.1 (i64.wrap (x4.2.1-(16:Int)))) fun e12=>
 .chk (decide (x4.1.length+[((i64.wrap ((BitVec.ofInt (i64.bits) ((i64.wrap ((i64.wrap ((i64.wrap (e11.1+e12.1))+(i64.wrap ((BitVec.ofInt (i64.bits) ((i64.wrap ((BitVec.ofInt (i64.bits) (r7.1) ^^^ BitVec.ofInt (i64.bits) (r8.1)).toNat:Nat))) ^^^ BitVec.ofInt (i64.bits) ((Int.fdiv e5.1 (2^(min ((3:Int)).toNat i64.bits))))).toNat:Nat))))+(i64.wrap ((BitVec.ofInt (i64.bits) ((i64.wrap ((BitVec.ofInt (i64.bits) (r9.1) ^^^ BitVec.ofInt (i64.bits) (r10.1)).toNat:Nat))) ^^^ BitVec.ofInt (i64.bits) ((Int.fdiv e6.1 (2^(min ((10:Int)).toNat i64.bits))))).toNat:Nat))))) &&& BitVec.ofInt (i64.bits) ((4294967295:Int))).toNat:Nat)),())].length≤4294967296)) <|
 .leaf (.inl ((x4.1++[((i64.wrap ((BitVec.ofInt (i64.bits) ((i64.wrap ((i64.wrap ((i64.wrap (e11.1+e12.1))+(i64.wrap ((BitVec.ofInt (i64.bits) ((i64.wrap ((BitVec.ofInt (i64.bits) (r7.1) ^^^ BitVec.ofInt (i64.bits) (r8.1)).toNat:Nat))) ^^^ BitVec.ofInt (i64.bits) ((Int.fdiv e5.1 (2^(min ((3:Int)).toNat i64.bits))))).toNat:Nat))))+(i64.wrap ((BitVec.ofInt (i64.bits) ((i64.wrap ((BitVec.ofInt (i64.bits) (r9.1) ^^^ BitVec.ofInt (i64.bits) (r10.1)).toNat:Nat))) ^^^ BitVec.ofInt (i64.bits) ((Int.fdiv e6.1 (2^(min ((10:Int)).toNat i64.bits))))).toNat:Nat))))) &&& BitVec.ofInt (i64.bits) ((4294967295:Int))).toNat:Nat)),())]),(i64.wrap (x4.2.1+(1:Int))),()))) (
 .leaf (.inr (x4.1,())))
def Ih (a0:YBs):Tree (((List YI)×Unit)):=
 .br ((a0.1.length:Int) != (64:Int)) (
 .leaf (([]:List YI),())) (
 .ob (Al Dt (a0.1,([]:List YI),(0:Int),())) fun o3=>
 .ob (Al Df (o3.1,(16:Int),())) fun o13=>
 .leaf o13)
def Kw (a0:YBs):Option (((List YI)×Unit)):=(Ih a0).val
def C9 (x12:(List YI)×(List YI)×(List YI)×(List YI)×Int×Int×Int×Int×Int×Int×Int×Int×Int×Unit):Option (((List YI)×(List YI)×(List YI)×(List YI)×Int×Int×Int×Int×Int×Int×Int×Int×Int×Unit)⊕(((List YI)×(List YI)×Int×Int×Int×Int×Int×Int×Int×Int×Unit))):=
 letI u1:=x12.2.2;letI u2:=u1.2.2;letI u3:=u2.2.2;letI u4:=u3.2.2;letI u5:=u4.2.2;Tree.val (α:=((List YI)×(List YI)×(List YI)×(List YI)×Int×Int×Int×Int×Int×Int×Int×Int×Int×Unit)⊕(((List YI)×(List YI)×Int×Int×Int×Int×Int×Int×Int×Int×Unit))) <|
 .br (decide (u5.2.2.1<(64:Int))) (
 .ob (D8 (u4.1,()) ((6:Int),())) fun r13=>
 .ob (D8 (u4.1,()) ((11:Int),())) fun r14=>
 .ob (D8 (u4.1,()) ((25:Int),())) fun r15=>
 .ob (idx u1.1 u5.2.2.1) fun e16=>
 .ob (idx u1.2.1 u5.2.2.1) fun e17=>
 .ob (D8 (u2.1,()) ((2:Int),())) fun r18=>
 .ob (D8 (u2.1,()) ((13:Int),())) fun r19=>
 .ob (D8 (u2.1,()) ((22:Int),())) fun r20=>
 .leaf (.inl (x12.1,x12.2.1,u1.1,u1.2.1,(i64.wrap ((BitVec.ofInt (i64.bits) ((i64.wrap ((i64.wrap ((BitVec.ofInt (i64.bits) ((i64.wrap ((i64.wrap ((i64.wrap ((i64.wrap (u5.2.1+(i64.wrap ((BitVec.ofInt (i64.bits) ((i64.wrap ((BitVec.ofInt (i64.bits) (r13.1) ^^^ BitVec.ofInt (i64.bits) (r14.1)).toNat:Nat))) ^^^ BitVec.ofInt (i64.bits) (r15.1)).toNat:Nat))))+(i64.wrap ((BitVec.ofInt (i64.bits) ((i64.wrap ((BitVec.ofInt (i64.bits) (u4.1) &&& BitVec.ofInt (i64.bits) (u4.2.1)).toNat:Nat))) ^^^ BitVec.ofInt (i64.bits) ((i64.wrap ((BitVec.ofInt (i64.bits) ((i64.wrap ((BitVec.ofInt (i64.bits) (u4.1) ^^^ BitVec.ofInt (i64.bits) ((4294967295:Int))).toNat:Nat))) &&& BitVec.ofInt (i64.bits) (u5.1)).toNat:Nat)))).toNat:Nat))))+e16.1))+e17.1))) &&& BitVec.ofInt (i64.bits) ((4294967295:Int))).toNat:Nat))+(i64.wrap ((BitVec.ofInt (i64.bits) ((i64.wrap ((i64.wrap ((BitVec.ofInt (i64.bits) ((i64.wrap ((BitVec.ofInt (i64.bits) (r18.1) ^^^ BitVec.ofInt (i64.bits) (r19.1)).toNat:Nat))) ^^^ BitVec.ofInt (i64.bits) (r20.1)).toNat:Nat))+(i64.wrap ((BitVec.ofInt (i64.bits) ((i64.wrap ((BitVec.ofInt (i64.bits) ((i64.wrap ((BitVec.ofInt (i64.bits) (u2.1) &&& BitVec.ofInt (i64.bits) (u2.2.1)).toNat:Nat))) ^^^ BitVec.ofInt (i64.bits) ((i64.wrap ((BitVec.ofInt (i64.bits) (u2.1) &&& BitVec.ofInt (i64.bits) (u3.1)).toNat:Nat)))).toNat:Nat))) ^^^ BitVec.ofInt (i64.bits) ((i64.wrap ((BitVec.ofInt (i64.bits) (u2.2.1) &&& BitVec.ofInt (i64.bits) (u3.1)).toNat:Nat)))).toNat:Nat))))) &&& BitVec.ofInt (i64.bits) ((4294967295:Int))).toNat:Nat))))) &&& BitVec.ofInt (i64.bits) ((4294967295:Int))).toNat:Nat)),u2.1,u2.2.1,u3.1,(i64.wrap ((BitVec.ofInt (i64.bits) ((i64.wrap (u3.2.1+(i64.wrap ((BitVec.ofInt (i64.bits) ((i64.wrap ((i64.wrap ((i64.wrap ((i64.wrap (u5.2.1+(i64.wrap ((BitVec.ofInt (i64.bits) ((i64.wrap ((BitVec.ofInt (i64.bits) (r13.1) ^^^ BitVec.ofInt (i64.bits) (r14.1)).toNat:Nat))) ^^^ BitVec.ofInt (i64.bits) (r15.1)).toNat:Nat))))+(i64.wrap ((BitVec.ofInt (i64.bits) ((i64.wrap ((BitVec.ofInt (i64.bits) (u4.1) &&& BitVec.ofInt (i64.bits) (u4.2.1)).toNat:Nat))) ^^^ BitVec.ofInt (i64.bits) ((i64.wrap ((BitVec.ofInt (i64.bits) ((i64.wrap ((BitVec.ofInt (i64.bits) (u4.1) ^^^ BitVec.ofInt (i64.bits) ((4294967295:Int))).toNat:Nat))) &&& BitVec.ofInt (i64.bits) (u5.1)).toNat:Nat)))).toNat:Nat))))+e16.1))+e17.1))) &&& BitVec.ofInt (i64.bits) ((4294967295:Int))).toNat:Nat))))) &&& BitVec.ofInt (i64.bits) ((4294967295:Int))).toNat:Nat)),u4.1,u4.2.1,u5.1,(i64.wrap (u5.2.2.1+(1:Int))),()))) (
 .leaf (.inr (x12.1,x12.2.1,u2.1,u2.2.1,u3.1,u3.2.1,u4.1,u4.2.1,u5.1,u5.2.1,())))
def Cr (x22:(List YI)×(List YI)×(List YI)×Int×Unit):Option (((List YI)×(List YI)×(List YI)×Int×Unit)⊕(((List YI)×Unit))):=
 letI u1:=x22.2.2.2;Tree.val (α:=((List YI)×(List YI)×(List YI)×Int×Unit)⊕(((List YI)×Unit))) <|
 .br (decide (u1.1<(8:Int))) (
 .ob (idx x22.1 u1.1) fun e23=>
 .ob (idx x22.2.2.1 u1.1) fun e24=>
 .ob (idx x22.2.1 u1.1) fun e25=>
 let q26:=(x22.2.1.set (u1.1).toNat ((i64.wrap ((BitVec.ofInt (i64.bits) ((i64.wrap (e23.1+e24.1))) &&& BitVec.ofInt (i64.bits) ((4294967295:Int))).toNat:Nat)),()))
 .leaf (.inl (x22.1,q26,x22.2.2.1,(i64.wrap (u1.1+(1:Int))),()))) (
 .leaf (.inr (x22.2.1,())))
def Ii (a0:(List YI)×Unit) (a1:YBs):Tree (((List YI)×Unit)):=
 .chk (decide (([]:List YI).length+a0.1.length≤4294967296)) <|
 .ob (Mw a0) fun r1=>
 .br (!r1.1) (
 .leaf ((([]:List YI)++a0.1),())) (
 .br ((a1.1.length:Int) != (64:Int)) (
 .leaf ((([]:List YI)++a0.1),())) (
 .ob Aeb fun r2=>
 .ob (Kw a1) fun r3=>
 .ob (idx a0.1 (0:Int)) fun e4=>
 .ob (idx a0.1 (1:Int)) fun e5=>
 .ob (idx a0.1 (2:Int)) fun e6=>
 .ob (idx a0.1 (3:Int)) fun e7=>
 .ob (idx a0.1 (4:Int)) fun e8=>
 .ob (idx a0.1 (5:Int)) fun e9=>
 .ob (idx a0.1 (6:Int)) fun e10=>
 .ob (idx a0.1 (7:Int)) fun e11=>
 .ob (Al C9 (a0.1,(([]:List YI)++a0.1),r2.1,r3.1,e4.1,e5.1,e6.1,e7.1,e8.1,e9.1,e10.1,e11.1,(0:Int),())) fun o21=>letI u1:=o21.2.2.2;letI u2:=u1.2.2.2;
 .ob (Al Cr (o21.1,o21.2.1,[(o21.2.2.1,()),(u1.1,()),(u1.2.1,()),(u1.2.2.1,()),(u2.1,()),(u2.2.1,()),(u2.2.2.1,()),(u2.2.2.2.1,())],(0:Int),())) fun o27=>
 .leaf o27))
def Ij (a0:(List YI)×Unit) (a1:YBs):Option (((List YI)×Unit)):=(Ii a0 a1).val
def Fo (x1:E8):Option (E8⊕(YBs)):=
 Tree.val (α:=E8⊕(YBs)) <|
 .br (decide (x1.2.2.1<(8:Int))) (
 .ob (idx x1.1 x1.2.2.1) fun e2=>
 .ob (Dw (x1.2.1,()) e2 ((4:Int),())) fun r3=>
 .leaf (.inl (x1.1,r3.1,(i64.wrap (x1.2.2.1+(1:Int))),()))) (
 .leaf (.inr (x1.2.1,())))
def Q7 (a0:(List YI)×Unit):Tree (YBs):=
 .ob (Al Fo (a0.1,([]:List YB),(0:Int),())) fun o4=>
 .leaf o4
def Q8 (a0:(List YI)×Unit):Option (YBs):=(Q7 a0).val
def Hu (x3:(List YB)×(List YI)×Int×Unit):Option (((List YB)×(List YI)×Int×Unit)⊕(((List YI)×Unit))):=
 letI u1:=x3.2.2;Tree.val (α:=((List YB)×(List YI)×Int×Unit)⊕(((List YI)×Unit))) <|
 .br (decide (u1.1<(x3.1.length:Int))) (
 .chk (decide ((0:Int)≤u1.1)) <|
 .chk (decide (u1.1≤(i64.wrap (u1.1+(64:Int))))) <|
 .chk (decide ((i64.wrap (u1.1+(64:Int)))≤(x3.1.length:Int))) <|
 .ob (Ij (x3.2.1,()) (((x3.1.take ((i64.wrap (u1.1+(64:Int)))).toNat).drop (u1.1).toNat),())) fun r4=>
 .leaf (.inl (x3.1,r4.1,(i64.wrap (u1.1+(64:Int))),()))) (
 .leaf (.inr (x3.2.1,())))
def W6 (a0:YBs):Tree (YBs):=
 .br (decide ((a0.1.length:Int)>(1048576:Int))) (
 .leaf (([]:List YB),())) (
 .chk (decide (([]:List YB).length+a0.1.length≤4294967296)) <|
 .ob (W4 ((a0.1.length:Int),())) fun r1=>
 .chk (decide ((([]:List YB)++a0.1).length+r1.1.length≤4294967296)) <|
 .ob Zh fun r2=>
 .ob (Al Hu (((([]:List YB)++a0.1)++r1.1),r2.1,(0:Int),())) fun o5=>
 .ob (Q8 o5) fun r6=>
 .leaf r6)
def Ns (a0:YBs):Option (YBs):=(W6 a0).val
def Gr (x2:YBs):Option (YBs⊕(YBs)):=
 Tree.val (α:=YBs⊕(YBs)) <|
 .br (decide ((x2.1.length:Int)<(64:Int))) (
 .chk (decide (x2.1.length+[((0:Int),())].length≤4294967296)) <|
 .leaf (.inl ((x2.1++[((0:Int),())]),()))) (
 .leaf (.inr x2))
def Kx (a0:YBs):Tree (YBs):=
 .br (decide ((a0.1.length:Int)>(1048576:Int))) (
 .leaf (([]:List YB),())) (
 .chk (decide (([]:List YB).length+a0.1.length≤4294967296)) <|
 .br (decide ((a0.1.length:Int)>(64:Int))) (
 .ob (Ns a0) fun r1=>
 .ob (Al Gr r1) fun o3=>
 .leaf o3) (
 .ob (Al Gr ((([]:List YB)++a0.1),())) fun o4=>
 .leaf o4))
def Ky (a0:YBs):Option (YBs):=(Kx a0).val
def Gs (x2:(List YB)×(List YB)×(List YB)×(List YB)×Int×Unit):Option (((List YB)×(List YB)×(List YB)×(List YB)×Int×Unit)⊕(((List YB)×(List YB)×(List YB)×Unit))):=
 letI u1:=x2.2.2.2;Tree.val (α:=((List YB)×(List YB)×(List YB)×(List YB)×Int×Unit)⊕(((List YB)×(List YB)×(List YB)×Unit))) <|
 .br (decide (u1.2.1<(64:Int))) (
 .ob (idx x2.2.1 u1.2.1) fun e3=>
 .chk (decide (x2.2.2.1.length+[((u8.wrap ((BitVec.ofInt (u8.bits) (e3.1) ^^^ BitVec.ofInt (u8.bits) ((54:Int))).toNat:Nat)),())].length≤4294967296)) <|
 .ob (idx x2.2.1 u1.2.1) fun e4=>
 .chk (decide (x2.2.2.2.1.length+[((u8.wrap ((BitVec.ofInt (u8.bits) (e4.1) ^^^ BitVec.ofInt (u8.bits) ((92:Int))).toNat:Nat)),())].length≤4294967296)) <|
 .leaf (.inl (x2.1,x2.2.1,(x2.2.2.1++[((u8.wrap ((BitVec.ofInt (u8.bits) (e3.1) ^^^ BitVec.ofInt (u8.bits) ((54:Int))).toNat:Nat)),())]),(u1.1++[((u8.wrap ((BitVec.ofInt (u8.bits) (e4.1) ^^^ BitVec.ofInt (u8.bits) ((92:Int))).toNat:Nat)),())]),(i64.wrap (u1.2.1+(1:Int))),()))) (
 .leaf (.inr (x2.1,x2.2.2.1,u1.1,())))
def T6 (a0:YBs) (a1:YBs):Tree (YBs):=
 .br (decide ((a0.1.length:Int)>(1048576:Int))) (
 .leaf (([]:List YB),())) (
 .br (decide ((a1.1.length:Int)>(1048512:Int))) (
 .leaf (([]:List YB),())) (
 .ob (Ky a0) fun r1=>
 .ob (Al Gs (a1.1,r1.1,([]:List YB),([]:List YB),(0:Int),())) fun o5=>
 .chk (decide (o5.2.1.length+o5.1.length≤4294967296)) <|
 .ob (Ns ((o5.2.1++o5.1),())) fun r6=>
 .chk (decide (o5.2.2.1.length+r6.1.length≤4294967296)) <|
 .ob (Ns ((o5.2.2.1++r6.1),())) fun r7=>
 .leaf r7))
def O7 (a0:YBs) (a1:YBs):Option (YBs):=(T6 a0 a1).val
def Mx (a0:YBs) (a1:YBs) (a2:YI):Tree (YBs):=
 .ob (Cb a2 ((0:Int),()) ((6:Int),())) fun r1=>
 .br (!r1.1) (
 .leaf (([]:List YB),())) (
 .br (decide ((a1.1.length:Int)>(100:Int))) (
 .leaf (([]:List YB),())) (
 .chk (decide ([((115:Int),())].length+a1.1.length≤4294967296)) <|
 .ob (Dw (([((115:Int),())]++a1.1),()) a2 ((4:Int),())) fun r2=>
 .ob (O7 a0 r2) fun r3=>
 .leaf r3))
def My (a0:YBs) (a1:YBs) (a2:YI):Option (YBs):=(Mx a0 a1 a2).val
def Eo (x2:(List YB)×(List YB)×Int×(List YB)×Int×Unit):Option (((List YB)×(List YB)×Int×(List YB)×Int×Unit)⊕((Int×(List YB)×Unit))):=
 letI u1:=x2.2.2;Tree.val (α:=((List YB)×(List YB)×Int×(List YB)×Int×Unit)⊕((Int×(List YB)×Unit))) <|
 .br (decide ((x2.2.2.2.1.length:Int)<u1.1)) (
 .ob (My (x2.1,()) (x2.2.1,()) (u1.2.2.1,())) fun r3=>
 .chk (decide (x2.2.2.2.1.length+r3.1.length≤4294967296)) <|
 .leaf (.inl (x2.1,x2.2.1,u1.1,(u1.2.1++r3.1),(i64.wrap (u1.2.2.1+(1:Int))),()))) (
 .leaf (.inr (u1.1,u1.2.1,())))
def O8 (a0:YBs) (a1:YBs) (a2:YI):Tree (YBs):=
 .ob (Cb a2 ((0:Int),()) ((200:Int),())) fun r1=>
 .br (!r1.1) (
 .leaf (([]:List YB),())) (
 .br (decide ((a1.1.length:Int)>(100:Int))) (
 .leaf (([]:List YB),())) (
 .br (decide ((a0.1.length:Int)>(1048576:Int))) (
 .leaf (([]:List YB),())) (
 .ob (Al Eo (a0.1,a1.1,a2.1,([]:List YB),(0:Int),())) fun o4=>
 .chk (decide ((0:Int)≤o4.1)) <|
 .chk (decide (o4.1≤(o4.2.1.length:Int))) <|
 .chk (decide (([]:List YB).length+((o4.2.1.take (o4.1).toNat).drop ((0:Int)).toNat).length≤4294967296)) <|
 .leaf ((([]:List YB)++((o4.2.1.take (o4.1).toNat).drop ((0:Int)).toNat)),()))))
def O9 (a0:YBs) (a1:YBs) (a2:YI):Option (YBs):=(O8 a0 a1 a2).val
def Hv (x2:(List YB)×(List YB)×(List YB)×Int×Unit):Option (((List YB)×(List YB)×(List YB)×Int×Unit)⊕(YBs)):=
 letI u1:=x2.2.2;Tree.val (α:=((List YB)×(List YB)×(List YB)×Int×Unit)⊕(YBs)) <|
 .br (decide (u1.2.1<(x2.1.length:Int))) (
 .ob (idx x2.1 u1.2.1) fun e3=>
 .ob (idx u1.1 u1.2.1) fun e4=>
 .chk (decide (x2.2.1.length+[((u8.wrap ((BitVec.ofInt (u8.bits) (e3.1) ^^^ BitVec.ofInt (u8.bits) (e4.1)).toNat:Nat)),())].length≤4294967296)) <|
 .leaf (.inl (x2.1,(x2.2.1++[((u8.wrap ((BitVec.ofInt (u8.bits) (e3.1) ^^^ BitVec.ofInt (u8.bits) (e4.1)).toNat:Nat)),())]),u1.1,(i64.wrap (u1.2.1+(1:Int))),()))) (
 .leaf (.inr (x2.2.1,())))
def W7 (a0:YBs) (a1:YBs) (a2:YBs):Tree (YBs):=
 .br (decide ((a2.1.length:Int)>(200:Int))) (
 .leaf (([]:List YB),())) (
 .br (decide ((a1.1.length:Int)>(100:Int))) (
 .leaf (([]:List YB),())) (
 .br (decide ((a0.1.length:Int)>(1048576:Int))) (
 .leaf (([]:List YB),())) (
 .ob (O9 a0 a1 ((a2.1.length:Int),())) fun r1=>
 .ob (Al Hv (a2.1,([]:List YB),r1.1,(0:Int),())) fun o5=>
 .leaf o5)))
def W8 (a0:YBs) (a1:YBs) (a2:YBs):Option (YBs):=(W7 a0 a1 a2).val
def Mz (a0:Bc):Tree ((Bool×Unit)):=
 letI u1:=a0.2.2.2.2;letI u2:=u1.2.2.2;.ob (Ig (a0.1,())) fun r1=>
 .br r1.1 (
 .br (a0.2.1==(0:Int)) (
 .br ((a0.2.2.1.length:Int)==(0:Int)) (
 .br ((a0.2.2.2.1.length:Int)==(12:Int)) (
 .br (u1.1==(0:Int)) (
 .br ((a0.2.2.2.2.2.1.length:Int)==(0:Int)) (
 .br ((a0.2.2.2.2.2.2.1.length:Int)==(0:Int)) (
 .ob (Cb (u2.1,()) ((0:Int),()) ((4294967295:Int),())) fun r2=>
 .br r2.1 (
 .ob (Cb (u2.2.1,()) ((0:Int),()) ((281474976710655:Int),())) fun r3=>
 .br r3.1 (
 .ob (Kd (a0.1,()) ((a0.2.2.2.2.2.2.2.2.2.1.length:Int),())) fun r4=>
 .br r4.1 (
 .leaf (((a0.2.2.2.2.2.2.2.2.2.2.1.length:Int)==(16:Int)),())) (
 .leaf (false,()))) (
 .leaf (false,()))) (
 .leaf (false,()))) (
 .leaf (false,()))) (
 .leaf (false,()))) (
 .leaf (false,()))) (
 .leaf (false,()))) (
 .leaf (false,()))) (
 .leaf (false,()))) (
 .br (u2.1 != (0:Int)) (
 .leaf (false,())) (
 .br (u2.2.1 != (0:Int)) (
 .leaf (false,())) (
 .br ((a0.2.2.2.2.2.2.2.2.2.1.length:Int) != (0:Int)) (
 .leaf (false,())) (
 .br ((a0.2.2.2.2.2.2.2.2.2.2.1.length:Int) != (0:Int)) (
 .leaf (false,())) (
 .br ((a0.2.2.1.length:Int) != (12:Int)) (
 .leaf (false,())) (
 .br (a0.1==(1:Int)) (
 .ob (Cb (a0.2.1,()) ((1:Int),()) ((9:Int),())) fun r5=>
 .br r5.1 (
 .br ((a0.2.2.2.1.length:Int)==(0:Int)) (
 .br (u1.1==(0:Int)) (
 .br ((a0.2.2.2.2.2.1.length:Int)==(0:Int)) (
 .leaf (((a0.2.2.2.2.2.2.1.length:Int)==(0:Int)),())) (
 .leaf (false,()))) (
 .leaf (false,()))) (
 .leaf (false,()))) (
 .leaf (false,()))) (
 .br (a0.1==(2:Int)) (
 .br (a0.2.1==(0:Int)) (
 .br ((a0.2.2.2.1.length:Int)==(12:Int)) (
 .ob (Cb (u1.1,()) ((0:Int),()) ((1000000:Int),())) fun r6=>
 .br r6.1 (
 .br ((a0.2.2.2.2.2.1.length:Int)==(16:Int)) (
 .leaf (((a0.2.2.2.2.2.2.1.length:Int)==(0:Int)),())) (
 .leaf (false,()))) (
 .leaf (false,()))) (
 .leaf (false,()))) (
 .leaf (false,()))) (
 .br (a0.1==(3:Int)) (
 .ob (Cb (a0.2.1,()) ((1:Int),()) ((9:Int),())) fun r7=>
 .br r7.1 (
 .br ((a0.2.2.2.1.length:Int)==(12:Int)) (
 .ob (Cb (u1.1,()) ((0:Int),()) ((1000000:Int),())) fun r8=>
 .br r8.1 (
 .br ((a0.2.2.2.2.2.1.length:Int)==(16:Int)) (
 .leaf (((a0.2.2.2.2.2.2.1.length:Int)==(16:Int)),())) (
 .leaf (false,()))) (
 .leaf (false,()))) (
 .leaf (false,()))) (
 .leaf (false,()))) (
 .leaf (false,()))))))))))
def M0 (a0:Bc):Option ((Bool×Unit)):=(Mz a0).val
def Kz (a0:YI) (a1:Bc):Tree (YBs):=
 letI u1:=a1.2.2.2.2.2.2.2;.ob (Cb a0 ((0:Int),()) ((1:Int),())) fun r1=>
 .br (!r1.1) (
 .leaf (([]:List YB),())) (
 .ob (M0 a1) fun r2=>
 .br (!r2.1) (
 .leaf (([]:List YB),())) (
 .ob (Ig (a1.1,())) fun r3=>
 .br (!r3.1) (
 .leaf (([]:List YB),())) (
 .ob (Kc a0 (a1.2.2.2.1,()) (u1.1,()) (u1.2.1,())) fun r4=>
 .chk (decide ([((116:Int),())].length+r4.1.length≤4294967296)) <|
 .chk (decide (([((116:Int),())]++r4.1).length+[((u8.wrap (a1.1)),())].length≤4294967296)) <|
 .chk (decide ((([((116:Int),())]++r4.1)++[((u8.wrap (a1.1)),())]).length+a1.2.2.2.2.2.2.2.2.2.1.length≤4294967296)) <|
 .leaf (((([((116:Int),())]++r4.1)++[((u8.wrap (a1.1)),())])++u1.2.2.1),()))))
def K0 (a0:YI) (a1:Bc):Option (YBs):=(Kz a0 a1).val
def W9 (a0:YBs) (a1:YBs):Tree (YBs):=
 .ob (O7 a0 a1) fun r1=>
 .br (decide ((r1.1.length:Int)<(16:Int))) (
 .leaf (([]:List YB),())) (
 .chk (decide ((16:Int)≤(r1.1.length:Int))) <|
 .chk (decide (([]:List YB).length+((r1.1.take ((16:Int)).toNat).drop ((0:Int)).toNat).length≤4294967296)) <|
 .leaf ((([]:List YB)++((r1.1.take ((16:Int)).toNat).drop ((0:Int)).toNat)),()))
def Xa (a0:YBs) (a1:YBs):Option (YBs):=(W9 a0 a1).val
def Fa (x5:(List YB)×Int×Int×Int×Int×(List YB)×(List YB)×Int×(List YB)×(List YB)×Int×Int×(List YB)×(List YB)×Int×Int×(List YB)×(List YB)×Int×(List YB)×(List YB)×Int×Int×(List YB)×(List YB)×Unit):Option (((List YB)×Int×Int×Int×Int×(List YB)×(List YB)×Int×(List YB)×(List YB)×Int×Int×(List YB)×(List YB)×Int×Int×(List YB)×(List YB)×Int×(List YB)×(List YB)×Int×Int×(List YB)×(List YB)×Unit)⊕(((List YB)×Int×Int×Int×(List YB)×(List YB)×Int×(List YB)×(List YB)×Int×Int×(List YB)×(List YB)×Int×Int×(List YB)×(List YB)×Int×(List YB)×(List YB)×Int×Int×(List YB)×(List YB)×Unit))):=
 letI u1:=x5.2.2;letI u2:=u1.2.2;letI u3:=u2.2.2;letI u4:=u3.2.2;letI u5:=u4.2.2;letI u6:=u5.2.2;letI u7:=u6.2.2;letI u8:=u7.2.2;letI u9:=u8.2.2;letI u10:=u9.2.2;letI u11:=u10.2.2;Tree.val (α:=((List YB)×Int×Int×Int×Int×(List YB)×(List YB)×Int×(List YB)×(List YB)×Int×Int×(List YB)×(List YB)×Int×Int×(List YB)×(List YB)×Int×(List YB)×(List YB)×Int×Int×(List YB)×(List YB)×Unit)⊕(((List YB)×Int×Int×Int×(List YB)×(List YB)×Int×(List YB)×(List YB)×Int×Int×(List YB)×(List YB)×Int×Int×(List YB)×(List YB)×Int×(List YB)×(List YB)×Int×Int×(List YB)×(List YB)×Unit))) <|
 .br (decide (u1.1<(16:Int))) (
 .chk (decide (x5.2.2.2.2.2.2.2.2.2.2.2.2.2.2.2.2.2.2.2.2.2.2.2.2.1.length+[((0:Int),())].length≤4294967296)) <|
 .leaf (.inl (x5.1,x5.2.1,(i64.wrap (u1.1+(1:Int))),u1.2.1,u2.1,u2.2.1,u3.1,u3.2.1,u4.1,u4.2.1,u5.1,u5.2.1,u6.1,u6.2.1,u7.1,u7.2.1,u8.1,u8.2.1,u9.1,u9.2.1,u10.1,u10.2.1,u11.1,u11.2.1,(u11.2.2.1++[((0:Int),())]),()))) (
 .leaf (.inr (x5.1,x5.2.1,u1.2.1,u2.1,u2.2.1,u3.1,u3.2.1,u4.1,u4.2.1,u5.1,u5.2.1,u6.1,u6.2.1,u7.1,u7.2.1,u8.1,u8.2.1,u9.1,u9.2.1,u10.1,u10.2.1,u11.1,u11.2.1,u11.2.2.1,())))
def Pa (a0:YBs) (a1:YI) (a2:YBs) (a3:YI) (a4:YI) (a5:YI) (a6:YBs):Tree (Bc×(Bool×Unit)):=
 .ob (Kc a1 a2 a3 a4) fun r1=>
 .br ((a0.1.length:Int) != (32:Int)) (
 .leaf (((0:Int),(0:Int),([]:List YB),([]:List YB),(0:Int),([]:List YB),([]:List YB),(0:Int),(0:Int),([]:List YB),([]:List YB),()),(false,()))) (
 .br ((r1.1.length:Int)==(0:Int)) (
 .leaf (((0:Int),(0:Int),([]:List YB),([]:List YB),(0:Int),([]:List YB),([]:List YB),(0:Int),(0:Int),([]:List YB),([]:List YB),()),(false,()))) (
 .ob (Ig a5) fun r2=>
 .br (!r2.1) (
 .leaf (((0:Int),(0:Int),([]:List YB),([]:List YB),(0:Int),([]:List YB),([]:List YB),(0:Int),(0:Int),([]:List YB),([]:List YB),()),(false,()))) (
 .ob (Kd a5 ((a6.1.length:Int),())) fun r3=>
 .br (!r3.1) (
 .leaf (((0:Int),(0:Int),([]:List YB),([]:List YB),(0:Int),([]:List YB),([]:List YB),(0:Int),(0:Int),([]:List YB),([]:List YB),()),(false,()))) (
 .chk (decide (([]:List YB).length+a2.1.length≤4294967296)) <|
 .ob (W8 a0 r1 a6) fun r4=>
 .ob (Al Fa (a0.1,a1.1,(0:Int),(0:Int),(0:Int),([]:List YB),([]:List YB),(0:Int),([]:List YB),([]:List YB),(0:Int),(0:Int),([]:List YB),([]:List YB),a5.1,(0:Int),([]:List YB),(([]:List YB)++a2.1),(0:Int),([]:List YB),([]:List YB),a3.1,a4.1,r4.1,([]:List YB),())) fun o6=>letI u1:=o6.2.2.2.2.2.2.2.2.2.2.2.2.2;letI u2:=u1.2.2;letI u3:=u2.2.2;letI u4:=u3.2.2;letI u5:=u4.2.2;
 .ob (K0 (o6.2.1,()) (u1.1,u1.2.1,u2.1,u2.2.1,u3.1,u3.2.1,u4.1,u4.2.1,u5.1,u5.2.1,u5.2.2.1,())) fun r7=>
 .ob (Xa (o6.1,()) r7) fun r8=>
 .leaf ((u1.1,u1.2.1,u2.1,u2.2.1,u3.1,u3.2.1,u4.1,u4.2.1,u5.1,u5.2.1,r8.1,()),(true,()))))))
def T7 (a0:YBs) (a1:YI) (a2:YBs) (a3:YI) (a4:YI) (a5:YI) (a6:YBs):Option (Bc×(Bool×Unit)):=(Pa a0 a1 a2 a3 a4 a5 a6).val
def Q9 (a0:YI):Tree (YI):=
 .br (a0.1==(4:Int)) (
 .leaf ((1:Int),())) (
 .br (a0.1==(9:Int)) (
 .leaf ((1:Int),())) (
 .br (a0.1==(5:Int)) (
 .leaf ((2:Int),())) (
 .br (a0.1==(6:Int)) (
 .leaf ((2:Int),())) (
 .br (a0.1==(7:Int)) (
 .leaf ((2:Int),())) (
 .br (a0.1==(8:Int)) (
 .leaf ((2:Int),())) (
 .br (a0.1==(10:Int)) (
 .leaf ((3:Int),())) (
 .leaf ((0:Int),()))))))))
def K1 (a0:YI):Option (YI):=(Q9 a0).val
def Pb (a0:YOp):Tree ((Bool×Unit)):=
 .ob (Bb (a0.1,()) ((1:Int),()) ((10:Int),())) fun r1=>
 .br r1.1 (
 .br (decide ((a0.2.2.2.1.length:Int)≤(200:Int))) (
 .ob (Bb (a0.2.1,()) ((0:Int),()) ((200:Int),())) fun r2=>
 .br r2.1 (
 .ob (Bb (a0.2.2.1,()) ((0:Int),()) ((200:Int),())) fun r3=>
 .leaf r3) (
 .leaf (false,()))) (
 .leaf (false,()))) (
 .leaf (false,()))
def Pc (a0:YOp):Option ((Bool×Unit)):=(Pb a0).val
def Tb (x1:(List YB)×(List YB)×(List YB)×Int×Int×Unit):Option (((List YB)×(List YB)×(List YB)×Int×Int×Unit)⊕(YBs)):=
 letI u1:=x1.2.2.2;Tree.val (α:=((List YB)×(List YB)×(List YB)×Int×Int×Unit)⊕(YBs)) <|
 .br (decide (u1.2.1<u1.1)) (
 .ob (idx x1.2.2.1 u1.2.1) fun e2=>
 .ob (idx x1.1 u1.2.1) fun e3=>
 .chk (decide (x1.2.1.length+[((u8.wrap ((BitVec.ofInt (u8.bits) (e2.1) ^^^ BitVec.ofInt (u8.bits) (e3.1)).toNat:Nat)),())].length≤4294967296)) <|
 .leaf (.inl (x1.1,(x1.2.1++[((u8.wrap ((BitVec.ofInt (u8.bits) (e2.1) ^^^ BitVec.ofInt (u8.bits) (e3.1)).toNat:Nat)),())]),x1.2.2.1,u1.1,(i64.wrap (u1.2.1+(1:Int))),()))) (
 .leaf (.inr (x1.2.1,())))
def Zi (a0:YBs) (a1:YBs):Tree (YBs):=
 .ob (Al Tb (a1.1,([]:List YB),a0.1,(a0.1.length:Int),(0:Int),())) fun o4=>
 .leaf o4
def Ag0 (a0:YBs) (a1:YBs):Option (YBs):=(Zi a0 a1).val
def Ra (x2:(List YB)×(List YB)×Int×(List YB)×(List YB)×Int×Unit):Option (((List YB)×(List YB)×Int×(List YB)×(List YB)×Int×Unit)⊕((Int×(List YB)×Unit))):=
 letI u1:=x2.2.2;Tree.val (α:=((List YB)×(List YB)×Int×(List YB)×(List YB)×Int×Unit)⊕((Int×(List YB)×Unit))) <|
 .br (decide ((x2.2.2.2.1.length:Int)<u1.1)) (
 .ob (Bn ([(u1.2.2.1,()),(x2.2.1,()),([((u8.wrap (u1.2.2.2.1)),())],())],())) fun r3=>
 .ob (I7 (x2.1,()) r3) fun r4=>
 .chk (decide (x2.2.2.2.1.length+r4.1.length≤4294967296)) <|
 .leaf (.inl (x2.1,x2.2.1,u1.1,(u1.2.1++r4.1),r4.1,(i64.wrap (u1.2.2.2.1+(1:Int))),()))) (
 .leaf (.inr (u1.1,u1.2.1,())))
def Vd (a0:YBs) (a1:YBs) (a2:YI):Tree (YBs×(Bool×Unit)):=
 .ob (Bb a2 ((0:Int),()) ((8160:Int),())) fun r1=>
 .br (!r1.1) (
 .leaf ((([]:List YB),()),(false,()))) (
 .br (decide ((a1.1.length:Int)>(100:Int))) (
 .leaf ((([]:List YB),()),(false,()))) (
 .br (decide ((a0.1.length:Int)>(1048576:Int))) (
 .leaf ((([]:List YB),()),(false,()))) (
 .ob (Al Ra (a0.1,a1.1,a2.1,([]:List YB),([]:List YB),(1:Int),())) fun o5=>
 .chk (decide ((0:Int)≤o5.1)) <|
 .chk (decide (o5.1≤(o5.2.1.length:Int))) <|
 .ob (C0 (((o5.2.1.take (o5.1).toNat).drop ((0:Int)).toNat),())) fun r6=>
 .leaf (r6,(true,())))))
def Afb (a0:YBs) (a1:YBs) (a2:YI):Option (YBs×(Bool×Unit)):=(Vd a0 a1 a2).val
def Ve (a0:YBs) (a1:ByteArray×Unit):Tree (YBs):=
 .chk (decide (a1.1.size≤4294967296)) <|
 .ob (Afb a0 ((Rb a1.1),()) ((32:Int),())) fun r1=>
 .leaf r1.1
def Afc (a0:YBs) (a1:ByteArray×Unit):Option (YBs):=(Ve a0 a1).val
def Gt (a0:YOp) (a1:(List YBs)×Unit) (a2:(List Dd)×Unit) (a3:(List YBs)×Unit):Tree (YBs×(Bool×Unit)):=
 .br (a0.1==(1:Int)) (
 .leaf ((a0.2.2.2.1,()),(true,()))) (
 .br (a0.1==(2:Int)) (
 .br (decide (a0.2.1<(a2.1.length:Int))) (
 .ob (idx a2.1 a0.2.1) fun e1=>
 .leaf ((e1.2.2.2.2.1,()),(true,()))) (
 .leaf ((([]:List YB),()),(false,())))) (
 .br (a0.1==(3:Int)) (
 .br (decide (a0.2.1<(a3.1.length:Int))) (
 .ob (idx a3.1 a0.2.1) fun e2=>
 .leaf (e2,(true,()))) (
 .leaf ((([]:List YB),()),(false,())))) (
 .br (a0.1==(4:Int)) (
 .ob (idx a1.1 (0:Int)) fun e3=>
 .ob (Sl e3 (a0.2.1,()) (a0.2.2.1,())) fun r4=>
 .leaf (r4.1,r4.2)) (
 .br (a0.1==(5:Int)) (
 .ob (idx a1.1 (0:Int)) fun e5=>
 .ob (idx a1.1 (1:Int)) fun e6=>
 .ob (Bn ([e5,e6],())) fun r7=>
 .leaf (r7,(true,()))) (
 .br (a0.1==(6:Int)) (
 .ob (idx a1.1 (0:Int)) fun e8=>
 .ob (idx a1.1 (1:Int)) fun e9=>
 .br ((e8.1.length:Int)==(e9.1.length:Int)) (
 .ob (idx a1.1 (0:Int)) fun e10=>
 .ob (idx a1.1 (1:Int)) fun e11=>
 .ob (Ag0 e10 e11) fun r12=>
 .leaf (r12,(true,()))) (
 .leaf ((([]:List YB),()),(false,())))) (
 .br (a0.1==(7:Int)) (
 .ob (idx a1.1 (0:Int)) fun e13=>
 .ob (idx a1.1 (1:Int)) fun e14=>
 .ob (I7 e13 e14) fun r15=>
 .leaf (r15,(true,()))) (
 .br (a0.1==(8:Int)) (
 .ob (idx a1.1 (0:Int)) fun e16=>
 .ob (idx a1.1 (1:Int)) fun e17=>
 .ob (Nr e16 e17) fun r18=>
 .leaf (r18,(true,()))) (
 .br (a0.1==(9:Int)) (
 .ob (idx a1.1 (0:Int)) fun e19=>
 .ob (Afc e19 ((Aik [114,101,107,101,121]),())) fun r20=>
 .leaf (r20,(true,()))) (
 .br (a0.1==(10:Int)) (
 .ob (idx a1.1 (0:Int)) fun e21=>
 .ob (idx a1.1 (1:Int)) fun e22=>
 .ob (idx a1.1 (2:Int)) fun e23=>
 .ob (Nq e21 e22 e23) fun r24=>
 .leaf (r24,(true,()))) (
 .leaf ((([]:List YB),()),(false,()))))))))))))
def Cs (a0:YOp) (a1:(List YBs)×Unit) (a2:(List Dd)×Unit) (a3:(List YBs)×Unit):Option (YBs×(Bool×Unit)):=(Gt a0 a1 a2 a3).val
def Bx (x6:(List Dd)×(List YBs)×(List YBs)×(List YOp)×Int×Int×Unit):Option (((List Dd)×(List YBs)×(List YBs)×(List YOp)×Int×Int×Unit)⊕(((List YB)×Bool×Unit)⊕((List YBs)×Unit))):=
 letI u1:=x6.2.2.2;Tree.val (α:=((List Dd)×(List YBs)×(List YBs)×(List YOp)×Int×Int×Unit)⊕(((List YB)×Bool×Unit)⊕((List YBs)×Unit))) <|
 .br (decide (u1.2.2.1<u1.2.1)) (
 .ob (idx u1.1 u1.2.2.1) fun e7=>
 .ob (K1 (e7.1,())) fun r8=>
 .ob (Pc e7) fun r9=>
 .br (!r9.1) (
 .leaf (.inr (.inl (([]:List YB),false,())))) (
 .br (decide ((i64.wrap ((x6.2.2.1.length:Int)-r8.1))<(0:Int))) (
 .leaf (.inr (.inl (([]:List YB),false,())))) (
 .chk (decide ((0:Int)≤(i64.wrap ((x6.2.2.1.length:Int)-r8.1)))) <|
 .chk (decide ((i64.wrap ((x6.2.2.1.length:Int)-r8.1))≤(x6.2.2.1.length:Int))) <|
 .chk (decide ((x6.2.2.1.length:Int)≤(x6.2.2.1.length:Int))) <|
 .ob (Cs e7 (((x6.2.2.1.take ((x6.2.2.1.length:Int)).toNat).drop ((i64.wrap ((x6.2.2.1.length:Int)-r8.1))).toNat),()) (x6.1,()) (x6.2.1,())) fun r10=>
 .br (!r10.2.1) (
 .leaf (.inr (.inl (([]:List YB),false,())))) (
 .br (decide ((r10.1.1.length:Int)>(200:Int))) (
 .leaf (.inr (.inl (([]:List YB),false,())))) (
 .br (decide ((i64.wrap ((i64.wrap ((x6.2.2.1.length:Int)-r8.1))+(1:Int)))>(8:Int))) (
 .leaf (.inr (.inl (([]:List YB),false,())))) (
 .chk (decide ((0:Int)≤(i64.wrap ((x6.2.2.1.length:Int)-r8.1)))) <|
 .chk (decide ((i64.wrap ((x6.2.2.1.length:Int)-r8.1))≤(x6.2.2.1.length:Int))) <|
 .chk (decide (([]:List YBs).length+((x6.2.2.1.take ((i64.wrap ((x6.2.2.1.length:Int)-r8.1))).toNat).drop ((0:Int)).toNat).length≤4294967296)) <|
 .chk (decide ((([]:List YBs)++((x6.2.2.1.take ((i64.wrap ((x6.2.2.1.length:Int)-r8.1))).toNat).drop ((0:Int)).toNat)).length+[r10.1].length≤4294967296)) <|
 .leaf (.inl (x6.1,x6.2.1,((([]:List YBs)++((x6.2.2.1.take ((i64.wrap ((x6.2.2.1.length:Int)-r8.1))).toNat).drop ((0:Int)).toNat))++[r10.1]),u1.1,u1.2.1,(i64.wrap (u1.2.2.1+(1:Int))),())))))))) (
 .leaf (.inr (.inr (x6.2.2.1,()))))
def Pd (a0:(List YOp)×Unit) (a1:(List Dd)×Unit) (a2:(List YBs)×Unit):Tree (YBs×(Bool×Unit)):=
 .br (decide ((a0.1.length:Int)>(16:Int))) (
 .leaf ((([]:List YB),()),(false,()))) (
 .ob (Al Bx (a1.1,a2.1,([]:List YBs),a0.1,(a0.1.length:Int),(0:Int),())) fun o11=>
 .sm o11 (fun o12=>
 .leaf ((o12.1,()),(o12.2.1,()))) (fun o13=>
 .br ((o13.1.length:Int) != (1:Int)) (
 .leaf ((([]:List YB),()),(false,()))) (
 .ob (idx o13.1 (0:Int)) fun e14=>
 .ob (C0 e14) fun r15=>
 .leaf (r15,(true,())))))
def Hj (a0:(List YOp)×Unit) (a1:(List Dd)×Unit) (a2:(List YBs)×Unit):Option (YBs×(Bool×Unit)):=(Pd a0 a1 a2).val
def Gu (x1:(List YB)×(List YB)×Int×Int×Int×Unit):Option (((List YB)×(List YB)×Int×Int×Int×Unit)⊕(YI)):=
 letI u1:=x1.2.2.2;Tree.val (α:=((List YB)×(List YB)×Int×Int×Int×Unit)⊕(YI)) <|
 .br (decide (u1.2.1<u1.1)) (
 .ob (idx x1.1 u1.2.1) fun e2=>
 .ob (idx x1.2.1 u1.2.1) fun e3=>
 .leaf (.inl (x1.1,x1.2.1,(i64.wrap ((BitVec.ofInt (i64.bits) (x1.2.2.1) ||| BitVec.ofInt (i64.bits) ((i64.wrap ((u8.wrap ((BitVec.ofInt (u8.bits) (e2.1) ^^^ BitVec.ofInt (u8.bits) (e3.1)).toNat:Nat)))))).toNat:Nat)),u1.1,(i64.wrap (u1.2.1+(1:Int))),()))) (
 .leaf (.inr (x1.2.2.1,())))
def T8 (a0:YBs) (a1:YBs):Tree (YI):=
 .br ((a0.1.length:Int) != (a1.1.length:Int)) (
 .leaf ((-1:Int),())) (
 .ob (Al Gu (a0.1,a1.1,(0:Int),(a0.1.length:Int),(0:Int),())) fun o4=>
 .leaf o4)
def T9 (a0:YBs) (a1:YBs):Option (YI):=(T8 a0 a1).val
def M4 (a0:YBs) (a1:YBs):Tree ((Bool×Unit)):=
 .br ((a0.1.length:Int)==(16:Int)) (
 .ob (T9 a0 a1) fun r1=>
 .leaf ((r1.1==(0:Int)),())) (
 .leaf (false,()))
def M5 (a0:YBs) (a1:YBs):Option ((Bool×Unit)):=(M4 a0 a1).val
def Pe (a0:YBs) (a1:YI) (a2:Bc):Tree (YBs×(Bool×Unit)):=
 letI u1:=a2.2.2.2.2.2.2.2;.ob (Fy a1 a2) fun r1=>
 .br ((a0.1.length:Int) != (32:Int)) (
 .leaf ((([]:List YB),()),(false,()))) (
 .br ((r1.1.length:Int)==(0:Int)) (
 .leaf ((([]:List YB),()),(false,()))) (
 .ob (Nr a0 r1) fun r2=>
 .ob (M5 (u1.2.2.2.1,()) r2) fun r3=>
 .br (!r3.1) (
 .leaf ((([]:List YB),()),(false,()))) (
 .ob (H9 a1 (a2.2.2.2.1,()) (u1.1,()) (u1.2.1,())) fun r4=>
 .ob (Nq a0 r4 (u1.2.2.1,())) fun r5=>
 .leaf (r5,(true,())))))
def Pf (a0:YBs) (a1:YI) (a2:Bc):Option (YBs×(Bool×Unit)):=(Pe a0 a1 a2).val
def K2 (a0:Bc):Tree (YBs):=
 letI u1:=a0.2.2;letI u2:=u1.2.2;letI u3:=u2.2.2.2;.ob (G6 a0) fun r1=>
 .br (!r1.1) (
 .leaf (([]:List YB),())) (
 .br (a0.1==(1:Int)) (
 .ob (Bn ([([((u8.wrap (a0.1)),())],()),([((u8.wrap (a0.2.1)),())],()),(u1.1,()),((List.replicate ((20:Int)).toNat ((0:Int),())),())],())) fun r2=>
 .leaf r2) (
 .br (a0.1==(2:Int)) (
 .ob (Ci (([]:List YB),()) (u2.1,()) ((4:Int),())) fun r3=>
 .ob (Bn ([([((u8.wrap (a0.1)),())],()),(u1.1,()),(u1.2.1,()),r3,(u2.2.1,())],())) fun r4=>
 .leaf r4) (
 .br (a0.1==(3:Int)) (
 .ob (Ci (([]:List YB),()) (u2.1,()) ((4:Int),())) fun r5=>
 .ob (Bn ([([((u8.wrap (a0.1)),())],()),([((u8.wrap (a0.2.1)),())],()),(u1.1,()),(u1.2.1,()),r5,(u2.2.1,()),(u2.2.2.1,())],())) fun r6=>
 .leaf r6) (
 .ob (Ci (([]:List YB),()) (u3.1,()) ((4:Int),())) fun r7=>
 .ob (Ci (([]:List YB),()) (u3.2.1,()) ((6:Int),())) fun r8=>
 .ob (Bn ([([((u8.wrap (a0.1)),())],()),(u1.2.1,()),r7,r8,(u3.2.2.2.1,()),(u3.2.2.1,())],())) fun r9=>
 .leaf r9))))
def K3 (a0:Bc):Option (YBs):=(K2 a0).val
def Ua (a0:YBs) (a1:YBs):Tree ((Bool×Unit)):=
 .leaf ((decide ((I6 a0.1)=(I6 a1.1))),())
def Pg (a0:YBs) (a1:YBs):Option ((Bool×Unit)):=(Ua a0 a1).val
def Dg (x7:(List YB)×Int×Int×(List YB)×(List YOp)×(List YBs)×Int×Int×Int×(List YB)×(List YB)×Int×(List YB)×(List YB)×Int×Int×(List YB)×(List YB)×Unit):Option (((List YB)×Int×Int×(List YB)×(List YOp)×(List YBs)×Int×Int×Int×(List YB)×(List YB)×Int×(List YB)×(List YB)×Int×Int×(List YB)×(List YB)×Unit)⊕(((List YB)×Int×Int×(List YB)×(List YOp)×(List YBs)×Int×Int×(List YB)×(List YB)×Int×(List YB)×(List YB)×Int×Int×(List YB)×(List YB)×Unit))):=
 letI u1:=x7.2.2;letI u2:=u1.2.2;letI u3:=u2.2.2;letI u4:=u3.2.2;letI u5:=u4.2.2;letI u6:=u5.2.2;letI u7:=u6.2.2.2;Tree.val (α:=((List YB)×Int×Int×(List YB)×(List YOp)×(List YBs)×Int×Int×Int×(List YB)×(List YB)×Int×(List YB)×(List YB)×Int×Int×(List YB)×(List YB)×Unit)⊕(((List YB)×Int×Int×(List YB)×(List YOp)×(List YBs)×Int×Int×(List YB)×(List YB)×Int×(List YB)×(List YB)×Int×Int×(List YB)×(List YB)×Unit))) <|
 .br (decide (u3.1≤x7.2.1)) (
 .chk (decide (x7.2.2.2.2.2.1.length+[(x7.1,())].length≤4294967296)) <|
 .leaf (.inl (x7.1,x7.2.1,u1.1,u1.2.1,u2.1,(u2.2.1++[(x7.1,())]),(i64.wrap (u3.1+(1:Int))),u3.2.1,u4.1,u4.2.1,u5.1,u5.2.1,u6.1,u6.2.1,u6.2.2.1,u7.1,u7.2.1,u7.2.2.1,()))) (
 .leaf (.inr (x7.1,x7.2.1,u1.1,u1.2.1,u2.1,u2.2.1,u3.2.1,u4.1,u4.2.1,u5.1,u5.2.1,u6.1,u6.2.1,u6.2.2.1,u7.1,u7.2.1,u7.2.2.1,())))
def Fz (a0:YBs):Tree ((Bool×Unit)):=
 .ob (Ad9 a0) fun r1=>
 .br r1.1 (
 .leaf (true,())) (
 .ob (J2 a0) fun r2=>letI u1:=r2.2.2;letI u2:=u1.2.2;letI u3:=u2.2.2;
 .ob (Q5 r2.1 r2.2.1 u1.1 u1.2.1 u2.1 u2.2.1 u3.1 u3.2) fun r3=>
 .ob (O3 r2.1 u1.1 u1.2.1 u2.1 u2.2.1 u3.1 u3.2) fun r4=>letI u4:=r4.1.2.2.2;letI u5:=u4.2.2.2;
 .ob (T7 r2.1 u1.1 u1.2.1 u2.1 u2.2.1 u3.1 u3.2) fun r5=>
 .br (!(r4.2.1==r5.2.1)) (
 .leaf (false,())) (
 .br (!r4.2.1) (
 .leaf (((r3.1.length:Int)==(0:Int)),())) (
 .br (decide (r2.2.1.1<(0:Int))) (
 .leaf (((r3.1.length:Int)==(0:Int)),())) (
 .br (decide (r2.2.1.1≥(12:Int))) (
 .leaf (((r3.1.length:Int)==(0:Int)),())) (
 .ob (Al Dg (r2.1.1,r2.2.1.1,u1.1.1,u3.2.1,r3.1,([]:List YBs),(0:Int),r4.1.1,r4.1.2.1,r4.1.2.2.1,u4.1,u4.2.1,u4.2.2.1,u5.1,u5.2.1,u5.2.2.1,u5.2.2.2.1,u5.2.2.2.2.1,())) fun o8=>letI u6:=o8.2.2.2;letI u7:=u6.2.2.2;letI u8:=u7.2.2;letI u9:=u8.2.2;letI u10:=u9.2.2;letI u11:=u10.2.2;
 .ob (Hj (u6.2.1,()) (([]:List Dd),()) (u6.2.2.1,())) fun r9=>
 .chk (decide ((0:Int)≤o8.2.1)) <|
 .chk (decide (o8.2.1≤(o8.2.2.2.2.2.1.length:Int))) <|
 .ob (Hj (u6.2.1,()) (([]:List Dd),()) (((o8.2.2.2.2.2.1.take (o8.2.1).toNat).drop ((0:Int)).toNat),())) fun r10=>
 .ob (Pf (o8.1,()) (o8.2.2.1,()) (u7.1,u7.2.1,u8.1,u8.2.1,u9.1,u9.2.1,u10.1,u10.2.1,u11.1,u11.2.1,u11.2.2.1,())) fun r11=>
 .br r9.2.1 (
 .br (!r10.2.1) (
 .ob (K3 (u7.1,u7.2.1,u8.1,u8.2.1,u9.1,u9.2.1,u10.1,u10.2.1,u11.1,u11.2.1,u11.2.2.1,())) fun r12=>
 .ob (Pg r9.1 r12) fun r13=>
 .br r13.1 (
 .br r11.2.1 (
 .ob (Pg r11.1 (u6.1,())) fun r14=>
 .leaf r14) (
 .leaf (false,()))) (
 .leaf (false,()))) (
 .leaf (false,()))) (
 .leaf (false,())))))))
def Rc (a0:YBs):Option ((Bool×Unit)):=(Fz a0).val
end
end Go.Proofs.Ytmhhajdeafijmaa

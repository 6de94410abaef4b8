/-
  What the functions of the seat answer, as plain terms (printed by a program, proved in the texts P); nothing is assumed.
-/
import Derived.Test.YtmhhajdeafijmaaEv2
namespace Go.Proofs.Ytmhhajdeafijmaa
open Go.RowKit IntKind
set_option linter.unusedVariables false
set_option maxRecDepth 100000
set_option maxHeartbeats 4000000
noncomputable section
abbrev YB:Type:=Int×Unit
abbrev YI:Type:=Int×Unit
abbrev YBs:Type:=List YB×Unit
abbrev Ag1:Type:=ByteArray×Int×Unit
abbrev Sm:Type:=Int×Int×Unit
abbrev Ak3:Type:=Int×Int×Bool×Int×Unit
abbrev Ax:Type:=(List YB)×Int×Int×Unit
abbrev Fh:Type:=(List YI)×(List YB)×Int×Unit
abbrev YOp:Type:=Int×Int×Int×(List YB)×Unit
abbrev A5:Type:=Int×Int×Int×Int×(List YB)×Unit
abbrev Ee:Type:=Int×Int×(List YB)×(List YB)×Int×(List YB)×(List YB)×Int×Int×(List YB)×(List YB)×Unit
def Aee (a0:YBs):Tree ((Bool×Unit)):=
 .leaf ((decide ((a0.1.length:Int)>(1048576:Int))),())
def Aef (a0:YBs):Option ((Bool×Unit)):=(Aee a0).val
def Jt (x1:Ax):Option (Ax⊕(((List YB)×Int×Unit))):=
 Tree.val (α:=Ax⊕(((List YB)×Int×Unit))) <|
 .br (decide (x1.2.2.1<(x1.1.length:Int))) (
 .br (decide (x1.2.2.1<(4000:Int))) (
 .ob (idx x1.1 x1.2.2.1) fun e2=>
 .leaf (.inl (x1.1,(i64.wrap ((BitVec.ofInt (i64.bits) ((i64.wrap ((i64.wrap ((i64.wrap (x1.2.1*(137:Int)))+(i64.wrap (e2.1))))+(11:Int)))) &&& BitVec.ofInt (i64.bits) ((1073741823:Int))).toNat:Nat)),(i64.wrap (x1.2.2.1+(1:Int))),()))) (
 .leaf (.inr (x1.1,x1.2.1,())))) (
 .leaf (.inr (x1.1,x1.2.1,())))
def Qy (a0:YBs):Tree (Ax):=
 .ob (Am Jt (a0.1,(i64.wrap ((127812:Int)+(a0.1.length:Int))),(0:Int),())) fun o3=>
 .leaf (o3.1,(0:Int),o3.2.1,())
def Qz (a0:YBs):Option (Ax):=(Qy a0).val
def Om (a0:Ax):Tree (YI×Ax):=
 letI u1:=a0.2.2;.br (decide (a0.2.1<(a0.1.length:Int))) (
 .ob (idx a0.1 a0.2.1) fun e1=>
 .leaf (((i64.wrap ((BitVec.ofInt (i64.bits) ((i64.wrap ((i64.wrap ((BitVec.ofInt (i64.bits) ((i64.wrap ((BitVec.ofInt (i64.bits) ((Int.fdiv (i64.wrap ((i64.wrap (u1.1*(6364136223846793005:Int)))+(1442695040888963407:Int))) (2^(min ((33:Int)).toNat i64.bits)))) ^^^ BitVec.ofInt (i64.bits) ((Int.fdiv (i64.wrap ((i64.wrap (u1.1*(6364136223846793005:Int)))+(1442695040888963407:Int))) (2^(min ((47:Int)).toNat i64.bits))))).toNat:Nat))) &&& BitVec.ofInt (i64.bits) ((255:Int))).toNat:Nat))+(i64.wrap (e1.1))))) &&& BitVec.ofInt (i64.bits) ((255:Int))).toNat:Nat)),()),(a0.1,(i64.wrap (a0.2.1+(1:Int))),(i64.wrap ((i64.wrap (u1.1*(6364136223846793005:Int)))+(1442695040888963407:Int))),()))) (
 .leaf (((i64.wrap ((BitVec.ofInt (i64.bits) ((i64.wrap ((BitVec.ofInt (i64.bits) ((Int.fdiv (i64.wrap ((i64.wrap (u1.1*(6364136223846793005:Int)))+(1442695040888963407:Int))) (2^(min ((33:Int)).toNat i64.bits)))) ^^^ BitVec.ofInt (i64.bits) ((Int.fdiv (i64.wrap ((i64.wrap (u1.1*(6364136223846793005:Int)))+(1442695040888963407:Int))) (2^(min ((47:Int)).toNat i64.bits))))).toNat:Nat))) &&& BitVec.ofInt (i64.bits) ((255:Int))).toNat:Nat)),()),(a0.1,a0.2.1,(i64.wrap ((i64.wrap (u1.1*(6364136223846793005:Int)))+(1442695040888963407:Int))),())))
def Fi (a0:Ax):Option (YI×Ax):=(Om a0).val
def Mt (a0:Ax) (a1:YI):Tree (YI×Ax):=
 .br (decide (a1.1≤(0:Int))) (
 .leaf (((0:Int),()),a0)) (
 .br (decide (a1.1≤(256:Int))) (
 .ob (Fi a0) fun r1=>
 .chk (decide ((0:Int)<a1.1)) <|
 .chk (decide ((0:Int)≤r1.1.1)) <|
 .leaf (((r1.1.1%a1.1),()),(a0.1,r1.2.2.1,r1.2.2.2.1,()))) (
 .ob (Fi a0) fun r2=>
 .ob (Fi (a0.1,r2.2.2.1,r2.2.2.2.1,())) fun r3=>
 .ob (Fi (a0.1,r3.2.2.1,r3.2.2.2.1,())) fun r4=>
 .chk (decide ((0:Int)<a1.1)) <|
 .chk (decide ((0:Int)≤(i64.wrap ((i64.wrap ((i64.wrap (r2.1.1*(65536:Int)))+(i64.wrap (r3.1.1*(256:Int)))))+r4.1.1)))) <|
 .leaf ((((i64.wrap ((i64.wrap ((i64.wrap (r2.1.1*(65536:Int)))+(i64.wrap (r3.1.1*(256:Int)))))+r4.1.1))%a1.1),()),(a0.1,r4.2.2.1,r4.2.2.2.1,()))))
def Bi (a0:Ax) (a1:YI):Option (YI×Ax):=(Mt a0 a1).val
def Q0 (a0:Ax) (a1:(List YI)×Unit):Tree (YI×Ax):=
 .ob (Bi a0 ((a1.1.length:Int),())) fun r1=>
 .ob (idx a1.1 r1.1.1) fun e2=>
 .leaf (e2,(a0.1,r1.2.2.1,r1.2.2.2.1,()))
def Bz (a0:Ax) (a1:(List YI)×Unit):Option (YI×Ax):=(Q0 a0 a1).val
def Fs (x1:Int×(List YB)×Int×(List YB)×Int×Int×Unit):Option ((Int×(List YB)×Int×(List YB)×Int×Int×Unit)⊕(((List YB)×(List YB)×Int×Int×Unit))):=
 letI u1:=x1.2.2.2;Tree.val (α:=(Int×(List YB)×Int×(List YB)×Int×Int×Unit)⊕(((List YB)×(List YB)×Int×Int×Unit))) <|
 .br (decide (x1.2.2.1<x1.1)) (
 .ob (Fi (u1.1,u1.2.1,u1.2.2.1,())) fun r2=>
 .chk (decide (x1.2.1.length+[((u8.wrap (r2.1.1)),())].length≤4294967296)) <|
 .leaf (.inl (x1.1,(x1.2.1++[((u8.wrap (r2.1.1)),())]),(i64.wrap (x1.2.2.1+(1:Int))),u1.1,r2.2.2.1,r2.2.2.2.1,()))) (
 .leaf (.inr (x1.2.1,u1.1,u1.2.1,u1.2.2.1,())))
def Mu (a0:Ax) (a1:YI):Tree (YBs×Ax):=
 .ob (Am Fs (a1.1,([]:List YB),(0:Int),a0.1,a0.2.1,a0.2.2.1,())) fun o3=>
 .leaf ((o3.1,()),(o3.2.1,o3.2.2.1,o3.2.2.2.1,()))
def A6 (a0:Ax) (a1:YI):Option (YBs×Ax):=(Mu a0 a1).val
def Q1 (a0:Ax):Tree (YOp×Ax):=
 .ob (Bz a0 ([((1:Int),()),((1:Int),()),((2:Int),()),((2:Int),()),((3:Int),()),((4:Int),()),((4:Int),()),((5:Int),()),((5:Int),()),((6:Int),()),((7:Int),()),((8:Int),()),((9:Int),()),((10:Int),())],())) fun r1=>
 .br (r1.1.1==(1:Int)) (
 .ob (Bz (a0.1,r1.2.2.1,r1.2.2.2.1,()) ([((0:Int),()),((1:Int),()),((4:Int),()),((12:Int),()),((32:Int),())],())) fun r2=>
 .ob (A6 (a0.1,r2.2.2.1,r2.2.2.2.1,()) r2.1) fun r3=>
 .ob (Bi (a0.1,r3.2.2.1,r3.2.2.2.1,()) ((5:Int),())) fun r4=>
 .ob (Bz (a0.1,r4.2.2.1,r4.2.2.2.1,()) ([((0:Int),()),((1:Int),()),((4:Int),()),((12:Int),()),((16:Int),())],())) fun r5=>
 .leaf ((r1.1.1,r4.1.1,r5.1.1,r3.1.1,()),(a0.1,r5.2.2.1,r5.2.2.2.1,()))) (
 .ob (Bi (a0.1,r1.2.2.1,r1.2.2.2.1,()) ((5:Int),())) fun r6=>
 .ob (Bz (a0.1,r6.2.2.1,r6.2.2.2.1,()) ([((0:Int),()),((1:Int),()),((4:Int),()),((12:Int),()),((16:Int),())],())) fun r7=>
 .leaf ((r1.1.1,r6.1.1,r7.1.1,([]:List YB),()),(a0.1,r7.2.2.1,r7.2.2.2.1,())))
def J0 (a0:Ax):Option (YOp×Ax):=(Q1 a0).val
def Mv (a0:YI):Tree (YI):=
 .ob (idx [((0:Int),()),((0:Int),()),((0:Int),()),((0:Int),()),((1:Int),()),((2:Int),()),((2:Int),()),((2:Int),()),((2:Int),()),((1:Int),()),((3:Int),())] a0.1) fun e1=>
 .leaf e1
def Bq (a0:YI):Option (YI):=(Mv a0).val
def Eg (x4:(List YOp)×Int×Int×Int×(List YB)×Int×Int×Int×Int×Int×(List YB)×Unit):Option (((List YOp)×Int×Int×Int×(List YB)×Int×Int×Int×Int×Int×(List YB)×Unit)⊕(((List YOp)×Int×Int×(List YB)×Int×Int×Int×Int×Int×(List YB)×Unit))):=
 letI u1:=x4.2.2;letI u2:=u1.2.2;letI u3:=u2.2.2;letI u4:=u3.2.2;Tree.val (α:=((List YOp)×Int×Int×Int×(List YB)×Int×Int×Int×Int×Int×(List YB)×Unit)⊕(((List YOp)×Int×Int×(List YB)×Int×Int×Int×Int×Int×(List YB)×Unit))) <|
 .br (decide (u1.2.1<(6:Int))) (
 .ob (Bq (u3.2.1,())) fun r5=>
 .br (decide (r5.1>x4.2.1)) (
 .ob (J0 (u2.1,u2.2.1,u3.1,())) fun r6=>
 .leaf (.inl (x4.1,x4.2.1,u1.1,(i64.wrap (u1.2.1+(1:Int))),u2.1,r6.2.2.1,r6.2.2.2.1,r6.1.1,r6.1.2.1,r6.1.2.2.1,r6.1.2.2.2.1,()))) (
 .leaf (.inr (x4.1,x4.2.1,u1.1,u2.1,u2.2.1,u3.1,u3.2.1,u4.1,u4.2.1,u4.2.2.1,())))) (
 .leaf (.inr (x4.1,x4.2.1,u1.1,u2.1,u2.2.1,u3.1,u3.2.1,u4.1,u4.2.1,u4.2.2.1,())))
def F3 (x2:(List YOp)×Int×Int×(List YB)×Int×Int×Unit):Option (((List YOp)×Int×Int×(List YB)×Int×Int×Unit)⊕(((List YOp)×Int×(List YB)×Int×Int×Unit))):=
 letI u1:=x2.2.2.2;Tree.val (α:=((List YOp)×Int×Int×(List YB)×Int×Int×Unit)⊕(((List YOp)×Int×(List YB)×Int×Int×Unit))) <|
 .br (decide (x2.2.2.1>(0:Int))) (
 .ob (J0 (u1.1,u1.2.1,u1.2.2.1,())) fun r3=>
 .ob (Am Eg (x2.1,x2.2.1,x2.2.2.1,(0:Int),u1.1,r3.2.2.1,r3.2.2.2.1,r3.1.1,r3.1.2.1,r3.1.2.2.1,r3.1.2.2.2.1,())) fun o7=>letI u2:=o7.2.2.2;letI u3:=u2.2.2.2;
 .ob (Bq (u3.1,())) fun r8=>
 .chk (decide (o7.1.length+[(u3.1,u3.2.1,u3.2.2.1,u3.2.2.2.1,())].length≤4294967296)) <|
 .leaf (.inl ((o7.1++[(u3.1,u3.2.1,u3.2.2.1,u3.2.2.2.1,())]),(i64.wrap ((i64.wrap (o7.2.1-r8.1))+(1:Int))),(i64.wrap (o7.2.2.1-(1:Int))),u2.1,u2.2.1,u2.2.2.1,()))) (
 .leaf (.inr (x2.1,x2.2.1,u1.1,u1.2.1,u1.2.2.1,())))
def Fj (x10:(List YOp)×Int×(List YB)×Int×Int×Unit):Option (((List YOp)×Int×(List YB)×Int×Int×Unit)⊕(((List YOp)×(List YB)×Int×Int×Unit))):=
 letI u1:=x10.2.2;Tree.val (α:=((List YOp)×Int×(List YB)×Int×Int×Unit)⊕(((List YOp)×(List YB)×Int×Int×Unit))) <|
 .br (decide (x10.2.1>(1:Int))) (
 .chk (decide (x10.1.length+[((5:Int),(0:Int),(0:Int),([]:List YB),())].length≤4294967296)) <|
 .leaf (.inl ((x10.1++[((5:Int),(0:Int),(0:Int),([]:List YB),())]),(i64.wrap (x10.2.1-(1:Int))),u1.1,u1.2.1,u1.2.2.1,()))) (
 .leaf (.inr (x10.1,u1.1,u1.2.1,u1.2.2.1,())))
def Hq (a0:Ax) (a1:YI):Tree (((List YOp)×Unit)×Ax):=
 .ob (Bi a0 a1) fun r1=>
 .ob (Am F3 (([]:List YOp),(0:Int),(i64.wrap ((1:Int)+r1.1.1)),a0.1,r1.2.2.1,r1.2.2.2.1,())) fun o9=>
 .ob (Am Fj o9) fun o11=>
 .leaf ((o11.1,()),(o11.2.1,o11.2.2.1,o11.2.2.2.1,()))
def Kb (a0:Ax) (a1:YI):Option (((List YOp)×Unit)×Ax):=(Hq a0 a1).val
def On (a0:Ax) (a1:YI):Tree ((Bool×Unit)×Ax):=
 .ob (Bi a0 a1) fun r1=>
 .leaf (((r1.1.1==(0:Int)),()),(a0.1,r1.2.2.1,r1.2.2.2.1,()))
def Ki (a0:Ax) (a1:YI):Option ((Bool×Unit)×Ax):=(On a0 a1).val
def Oo (a0:Ax):Tree (YOp×Ax):=
 .ob (J0 a0) fun r1=>letI u1:=r1.1.2.2;
 .ob (Bi (a0.1,r1.2.2.1,r1.2.2.2.1,()) ((14:Int),())) fun r2=>letI u2:=r2.2.2;
 .br (r2.1.1==(0:Int)) (
 .ob (Bz (a0.1,u2.1,u2.2.1,()) ([((-1:Int),()),((0:Int),()),((11:Int),())],())) fun r3=>
 .leaf ((r3.1.1,r1.1.2.1,u1.1,u1.2.1,()),(a0.1,r3.2.2.1,r3.2.2.2.1,()))) (
 .br (r2.1.1==(1:Int)) (
 .ob (Bz (a0.1,u2.1,u2.2.1,()) ([((-1:Int),()),((200:Int),()),((201:Int),())],())) fun r4=>
 .leaf ((r1.1.1,r4.1.1,u1.1,u1.2.1,()),(a0.1,r4.2.2.1,r4.2.2.2.1,()))) (
 .br (r2.1.1==(2:Int)) (
 .ob (Bz (a0.1,u2.1,u2.2.1,()) ([((-1:Int),()),((200:Int),()),((201:Int),())],())) fun r5=>
 .leaf ((r1.1.1,r1.1.2.1,r5.1.1,u1.2.1,()),(a0.1,r5.2.2.1,r5.2.2.2.1,()))) (
 .br (r2.1.1==(3:Int)) (
 .ob (Bz (a0.1,u2.1,u2.2.1,()) ([((200:Int),()),((201:Int),())],())) fun r6=>
 .ob (A6 (a0.1,r6.2.2.1,r6.2.2.2.1,()) r6.1) fun r7=>
 .leaf ((r1.1.1,r1.1.2.1,u1.1,r7.1.1,()),(a0.1,r7.2.2.1,r7.2.2.2.1,()))) (
 .leaf (r1.1,(a0.1,u2.1,u2.2.1,()))))))
def Oq (a0:Ax):Option (YOp×Ax):=(Oo a0).val
def T4 (a0:YI) (a1:YI) (a2:YI):Tree ((Bool×Unit)):=
 .br (decide (a0.1≥a1.1)) (
 .leaf ((decide (a0.1≤a2.1)),())) (
 .leaf (false,()))
def B7 (a0:YI) (a1:YI) (a2:YI):Option ((Bool×Unit)):=(T4 a0 a1 a2).val
def T5 (a0:YI):Tree (Sm):=
 .ob (B7 a0 ((0:Int),()) ((255:Int),())) fun r1=>
 .br (!r1.1) (
 .leaf ((0:Int),(0:Int),())) (
 .leaf ((i64.wrap ((167772160:Int)+a0.1)),(i64.wrap ((7000:Int)+a0.1)),()))
def Je (a0:YI):Option (Sm):=(T5 a0).val
def Ot (a0:Ax):Tree (Ee×Ax):=
 .ob (Bi a0 ((8:Int),())) fun r1=>letI u1:=r1.2.2;
 .br ((i64.wrap ((1:Int)+r1.1.1))==(1:Int)) (
 .ob (Bi (a0.1,u1.1,u1.2.1,()) ((9:Int),())) fun r2=>
 .ob (A6 (a0.1,r2.2.2.1,r2.2.2.2.1,()) ((12:Int),())) fun r3=>
 .leaf (((i64.wrap ((1:Int)+r1.1.1)),(i64.wrap ((1:Int)+r2.1.1)),r3.1.1,([]:List YB),(0:Int),([]:List YB),([]:List YB),(0:Int),(0:Int),([]:List YB),([]:List YB),()),(a0.1,r3.2.2.1,r3.2.2.2.1,()))) (
 .br ((i64.wrap ((1:Int)+r1.1.1))==(2:Int)) (
 .ob (A6 (a0.1,u1.1,u1.2.1,()) ((12:Int),())) fun r4=>
 .ob (A6 (a0.1,r4.2.2.1,r4.2.2.2.1,()) ((12:Int),())) fun r5=>
 .ob (Bz (a0.1,r5.2.2.1,r5.2.2.2.1,()) ([((0:Int),()),((1:Int),()),((300:Int),()),((1000000:Int),())],())) fun r6=>
 .ob (A6 (a0.1,r6.2.2.1,r6.2.2.2.1,()) ((16:Int),())) fun r7=>
 .br ((i64.wrap ((1:Int)+r1.1.1))==(3:Int)) (
 .ob (Bi (a0.1,r7.2.2.1,r7.2.2.2.1,()) ((9:Int),())) fun r8=>
 .ob (A6 (a0.1,r8.2.2.1,r8.2.2.2.1,()) ((16:Int),())) fun r9=>
 .leaf (((i64.wrap ((1:Int)+r1.1.1)),(i64.wrap ((1:Int)+r8.1.1)),r4.1.1,r5.1.1,r6.1.1,r7.1.1,r9.1.1,(0:Int),(0:Int),([]:List YB),([]:List YB),()),(a0.1,r9.2.2.1,r9.2.2.2.1,()))) (
 .leaf (((i64.wrap ((1:Int)+r1.1.1)),(0:Int),r4.1.1,r5.1.1,r6.1.1,r7.1.1,([]:List YB),(0:Int),(0:Int),([]:List YB),([]:List YB),()),(a0.1,r7.2.2.1,r7.2.2.2.1,())))) (
 .br ((i64.wrap ((1:Int)+r1.1.1))==(3:Int)) (
 .ob (A6 (a0.1,u1.1,u1.2.1,()) ((12:Int),())) fun r10=>
 .ob (A6 (a0.1,r10.2.2.1,r10.2.2.2.1,()) ((12:Int),())) fun r11=>
 .ob (Bz (a0.1,r11.2.2.1,r11.2.2.2.1,()) ([((0:Int),()),((1:Int),()),((300:Int),()),((1000000:Int),())],())) fun r12=>
 .ob (A6 (a0.1,r12.2.2.1,r12.2.2.2.1,()) ((16:Int),())) fun r13=>
 .br ((i64.wrap ((1:Int)+r1.1.1))==(3:Int)) (
 .ob (Bi (a0.1,r13.2.2.1,r13.2.2.2.1,()) ((9:Int),())) fun r14=>
 .ob (A6 (a0.1,r14.2.2.1,r14.2.2.2.1,()) ((16:Int),())) fun r15=>
 .leaf (((i64.wrap ((1:Int)+r1.1.1)),(i64.wrap ((1:Int)+r14.1.1)),r10.1.1,r11.1.1,r12.1.1,r13.1.1,r15.1.1,(0:Int),(0:Int),([]:List YB),([]:List YB),()),(a0.1,r15.2.2.1,r15.2.2.2.1,()))) (
 .leaf (((i64.wrap ((1:Int)+r1.1.1)),(0:Int),r10.1.1,r11.1.1,r12.1.1,r13.1.1,([]:List YB),(0:Int),(0:Int),([]:List YB),([]:List YB),()),(a0.1,r13.2.2.1,r13.2.2.2.1,())))) (
 .ob (A6 (a0.1,u1.1,u1.2.1,()) ((12:Int),())) fun r16=>
 .ob (Bz (a0.1,r16.2.2.1,r16.2.2.2.1,()) ([((0:Int),()),((1:Int),()),((2:Int),()),((4294967295:Int),())],())) fun r17=>
 .ob (Bz (a0.1,r17.2.2.1,r17.2.2.2.1,()) ([((0:Int),()),((1:Int),()),((70000:Int),()),((281474976710655:Int),())],())) fun r18=>
 .ob (A6 (a0.1,r18.2.2.1,r18.2.2.2.1,()) ((16:Int),())) fun r19=>
 .ob (Bz (a0.1,r19.2.2.1,r19.2.2.2.1,()) ([((0:Int),()),((1:Int),()),((12:Int),()),((40:Int),())],())) fun r20=>letI u2:=r20.2.2;
 .br ((i64.wrap ((1:Int)+r1.1.1))==(5:Int)) (
 .br (decide ((i64.wrap ((1:Int)+r1.1.1))≥(7:Int))) (
 .ob (A6 (a0.1,u2.1,u2.2.1,()) ((4:Int),())) fun r21=>
 .leaf (((i64.wrap ((1:Int)+r1.1.1)),(0:Int),([]:List YB),r16.1.1,(0:Int),([]:List YB),([]:List YB),r17.1.1,r18.1.1,r21.1.1,r19.1.1,()),(a0.1,r21.2.2.1,r21.2.2.2.1,()))) (
 .ob (A6 (a0.1,u2.1,u2.2.1,()) ((12:Int),())) fun r22=>
 .leaf (((i64.wrap ((1:Int)+r1.1.1)),(0:Int),([]:List YB),r16.1.1,(0:Int),([]:List YB),([]:List YB),r17.1.1,r18.1.1,r22.1.1,r19.1.1,()),(a0.1,r22.2.2.1,r22.2.2.2.1,())))) (
 .br ((i64.wrap ((1:Int)+r1.1.1))==(6:Int)) (
 .br (decide ((i64.wrap ((1:Int)+r1.1.1))≥(7:Int))) (
 .ob (A6 (a0.1,u2.1,u2.2.1,()) ((4:Int),())) fun r23=>
 .leaf (((i64.wrap ((1:Int)+r1.1.1)),(0:Int),([]:List YB),r16.1.1,(0:Int),([]:List YB),([]:List YB),r17.1.1,r18.1.1,r23.1.1,r19.1.1,()),(a0.1,r23.2.2.1,r23.2.2.2.1,()))) (
 .ob (A6 (a0.1,u2.1,u2.2.1,()) ((12:Int),())) fun r24=>
 .leaf (((i64.wrap ((1:Int)+r1.1.1)),(0:Int),([]:List YB),r16.1.1,(0:Int),([]:List YB),([]:List YB),r17.1.1,r18.1.1,r24.1.1,r19.1.1,()),(a0.1,r24.2.2.1,r24.2.2.2.1,())))) (
 .br (decide ((i64.wrap ((1:Int)+r1.1.1))≥(7:Int))) (
 .ob (A6 (a0.1,u2.1,u2.2.1,()) ((4:Int),())) fun r25=>
 .leaf (((i64.wrap ((1:Int)+r1.1.1)),(0:Int),([]:List YB),r16.1.1,(0:Int),([]:List YB),([]:List YB),r17.1.1,r18.1.1,r25.1.1,r19.1.1,()),(a0.1,r25.2.2.1,r25.2.2.2.1,()))) (
 .ob (A6 (a0.1,u2.1,u2.2.1,()) r20.1) fun r26=>
 .leaf (((i64.wrap ((1:Int)+r1.1.1)),(0:Int),([]:List YB),r16.1.1,(0:Int),([]:List YB),([]:List YB),r17.1.1,r18.1.1,r26.1.1,r19.1.1,()),(a0.1,r26.2.2.1,r26.2.2.2.1,()))))))))
def Ou (a0:Ax):Option (Ee×Ax):=(Ot a0).val
def Ov (a0:YI):Tree ((Bool×Unit)):=
 .ob (B7 a0 ((4:Int),()) ((8:Int),())) fun r1=>
 .leaf r1
def Ow (a0:YI):Option ((Bool×Unit)):=(Ov a0).val
def Ox (a0:YI) (a1:YI):Tree ((Bool×Unit)):=
 .br (a0.1==(4:Int)) (
 .leaf ((decide (a1.1≤(40:Int))),())) (
 .br (a0.1==(5:Int)) (
 .leaf ((a1.1==(12:Int)),())) (
 .br (a0.1==(6:Int)) (
 .leaf ((a1.1==(12:Int)),())) (
 .leaf ((a1.1==(4:Int)),()))))
def Oy (a0:YI) (a1:YI):Option ((Bool×Unit)):=(Ox a0 a1).val
def Mw (a0:Ee):Tree ((Bool×Unit)):=
 letI u1:=a0.2.2.2.2;letI u2:=u1.2.2.2;.ob (Ow (a0.1,())) fun r1=>
 .br r1.1 (
 .br (a0.2.1==(0:Int)) (
 .br ((a0.2.2.1.length:Int)==(0:Int)) (
 .br ((a0.2.2.2.1.length:Int)==(12:Int)) (
 .br (u1.1==(0:Int)) (
 .br ((a0.2.2.2.2.2.1.length:Int)==(0:Int)) (
 .br ((a0.2.2.2.2.2.2.1.length:Int)==(0:Int)) (
 .ob (B7 (u2.1,()) ((0:Int),()) ((4294967295:Int),())) fun r2=>
 .br r2.1 (
 .ob (B7 (u2.2.1,()) ((0:Int),()) ((281474976710655:Int),())) fun r3=>
 .br r3.1 (
 .ob (Oy (a0.1,()) ((a0.2.2.2.2.2.2.2.2.2.1.length:Int),())) fun r4=>
 .br r4.1 (
 .leaf (((a0.2.2.2.2.2.2.2.2.2.2.1.length:Int)==(16:Int)),())) (
 .leaf (false,()))) (
 .leaf (false,()))) (
 .leaf (false,()))) (
 .leaf (false,()))) (
 .leaf (false,()))) (
 .leaf (false,()))) (
 .leaf (false,()))) (
 .leaf (false,()))) (
 .leaf (false,()))) (
 .br (u2.1 != (0:Int)) (
 .leaf (false,())) (
 .br (u2.2.1 != (0:Int)) (
 .leaf (false,())) (
 .br ((a0.2.2.2.2.2.2.2.2.2.1.length:Int) != (0:Int)) (
 .leaf (false,())) (
 .br ((a0.2.2.2.2.2.2.2.2.2.2.1.length:Int) != (0:Int)) (
 .leaf (false,())) (
 .br ((a0.2.2.1.length:Int) != (12:Int)) (
 .leaf (false,())) (
 .br (a0.1==(1:Int)) (
 .ob (B7 (a0.2.1,()) ((1:Int),()) ((9:Int),())) fun r5=>
 .br r5.1 (
 .br ((a0.2.2.2.1.length:Int)==(0:Int)) (
 .br (u1.1==(0:Int)) (
 .br ((a0.2.2.2.2.2.1.length:Int)==(0:Int)) (
 .leaf (((a0.2.2.2.2.2.2.1.length:Int)==(0:Int)),())) (
 .leaf (false,()))) (
 .leaf (false,()))) (
 .leaf (false,()))) (
 .leaf (false,()))) (
 .br (a0.1==(2:Int)) (
 .br (a0.2.1==(0:Int)) (
 .br ((a0.2.2.2.1.length:Int)==(12:Int)) (
 .ob (B7 (u1.1,()) ((0:Int),()) ((1000000:Int),())) fun r6=>
 .br r6.1 (
 .br ((a0.2.2.2.2.2.1.length:Int)==(16:Int)) (
 .leaf (((a0.2.2.2.2.2.2.1.length:Int)==(0:Int)),())) (
 .leaf (false,()))) (
 .leaf (false,()))) (
 .leaf (false,()))) (
 .leaf (false,()))) (
 .br (a0.1==(3:Int)) (
 .ob (B7 (a0.2.1,()) ((1:Int),()) ((9:Int),())) fun r7=>
 .br r7.1 (
 .br ((a0.2.2.2.1.length:Int)==(12:Int)) (
 .ob (B7 (u1.1,()) ((0:Int),()) ((1000000:Int),())) fun r8=>
 .br r8.1 (
 .br ((a0.2.2.2.2.2.1.length:Int)==(16:Int)) (
 .leaf (((a0.2.2.2.2.2.2.1.length:Int)==(16:Int)),())) (
 .leaf (false,()))) (
 .leaf (false,()))) (
 .leaf (false,()))) (
 .leaf (false,()))) (
 .leaf (false,()))))))))))
def Mx (a0:Ee):Option ((Bool×Unit)):=(Mw a0).val
def Ik (x1:Int×(List YB)×Int×Unit):Option ((Int×(List YB)×Int×Unit)⊕(YBs)):=
 letI u1:=x1.2.2;Tree.val (α:=(Int×(List YB)×Int×Unit)⊕(YBs)) <|
 .br (decide (u1.1≥(0:Int))) (
 .chk (decide ((0:Int)≤(i64.wrap ((8:Int)*u1.1)))) <|
 .chk (decide (x1.2.1.length+[((u8.wrap ((i64.wrap ((BitVec.ofInt (i64.bits) ((Int.fdiv x1.1 (2^(min ((i64.wrap ((8:Int)*u1.1))).toNat i64.bits)))) &&& BitVec.ofInt (i64.bits) ((255:Int))).toNat:Nat)))),())].length≤4294967296)) <|
 .leaf (.inl (x1.1,(x1.2.1++[((u8.wrap ((i64.wrap ((BitVec.ofInt (i64.bits) ((Int.fdiv x1.1 (2^(min ((i64.wrap ((8:Int)*u1.1))).toNat i64.bits)))) &&& BitVec.ofInt (i64.bits) ((255:Int))).toNat:Nat)))),())]),(i64.wrap (u1.1-(1:Int))),()))) (
 .leaf (.inr (x1.2.1,())))
def T6 (a0:YBs) (a1:YI) (a2:YI):Tree (YBs):=
 .chk (decide (([]:List YB).length+a0.1.length≤4294967296)) <|
 .br (decide (a2.1<(1:Int))) (
 .leaf ((([]:List YB)++a0.1),())) (
 .br (decide (a2.1>(6:Int))) (
 .leaf ((([]:List YB)++a0.1),())) (
 .ob (Am Ik (a1.1,(([]:List YB)++a0.1),(i64.wrap (a2.1-(1:Int))),())) fun o2=>
 .leaf o2))
def Da (a0:YBs) (a1:YI) (a2:YI):Option (YBs):=(T6 a0 a1 a2).val
def Dk (x2:(List YB)×Int×Unit):Option (((List YB)×Int×Unit)⊕(YBs)):=
 Tree.val (α:=((List YB)×Int×Unit)⊕(YBs)) <|
 .br (decide (x2.2.1<(20:Int))) (
 .chk (decide (x2.1.length+[((0:Int),())].length≤4294967296)) <|
 .leaf (.inl ((x2.1++[((0:Int),())]),(i64.wrap (x2.2.1+(1:Int))),()))) (
 .leaf (.inr (x2.1,())))
def Kv (a0:Ee):Tree (YBs):=
 letI u1:=a0.2.2;letI u2:=u1.2.2.2;letI u3:=u2.2.2.2;.ob (Mx a0) fun r1=>
 .br (!r1.1) (
 .leaf (([]:List YB),())) (
 .br (a0.1==(1:Int)) (
 .chk (decide ([((u8.wrap (a0.1)),())].length+[((u8.wrap (a0.2.1)),())].length≤4294967296)) <|
 .chk (decide (([((u8.wrap (a0.1)),())]++[((u8.wrap (a0.2.1)),())]).length+a0.2.2.1.length≤4294967296)) <|
 .ob (Am Dk ((([((u8.wrap (a0.1)),())]++[((u8.wrap (a0.2.1)),())])++u1.1),(0:Int),())) fun o3=>
 .leaf o3) (
 .br (a0.1==(2:Int)) (
 .chk (decide ([((u8.wrap (a0.1)),())].length+a0.2.2.1.length≤4294967296)) <|
 .chk (decide (([((u8.wrap (a0.1)),())]++u1.1).length+a0.2.2.2.1.length≤4294967296)) <|
 .ob (Da ((([((u8.wrap (a0.1)),())]++u1.1)++u1.2.1),()) (u1.2.2.1,()) ((4:Int),())) fun r4=>
 .chk (decide (r4.1.length+a0.2.2.2.2.2.1.length≤4294967296)) <|
 .leaf ((r4.1++u2.1),())) (
 .br (a0.1==(3:Int)) (
 .chk (decide ([((u8.wrap (a0.1)),())].length+[((u8.wrap (a0.2.1)),())].length≤4294967296)) <|
 .chk (decide (([((u8.wrap (a0.1)),())]++[((u8.wrap (a0.2.1)),())]).length+a0.2.2.1.length≤4294967296)) <|
 .chk (decide ((([((u8.wrap (a0.1)),())]++[((u8.wrap (a0.2.1)),())])++u1.1).length+a0.2.2.2.1.length≤4294967296)) <|
 .ob (Da (((([((u8.wrap (a0.1)),())]++[((u8.wrap (a0.2.1)),())])++u1.1)++u1.2.1),()) (u1.2.2.1,()) ((4:Int),())) fun r5=>
 .chk (decide (r5.1.length+a0.2.2.2.2.2.1.length≤4294967296)) <|
 .chk (decide ((r5.1++u2.1).length+a0.2.2.2.2.2.2.1.length≤4294967296)) <|
 .leaf (((r5.1++u2.1)++u2.2.1),())) (
 .chk (decide ([((u8.wrap (a0.1)),())].length+a0.2.2.2.1.length≤4294967296)) <|
 .ob (Da (([((u8.wrap (a0.1)),())]++u1.2.1),()) (u2.2.2.1,()) ((4:Int),())) fun r6=>
 .ob (Da r6 (u3.1,()) ((6:Int),())) fun r7=>
 .chk (decide (r7.1.length+a0.2.2.2.2.2.2.2.2.2.2.1.length≤4294967296)) <|
 .chk (decide ((r7.1++u3.2.2.1).length+a0.2.2.2.2.2.2.2.2.2.1.length≤4294967296)) <|
 .leaf (((r7.1++u3.2.2.1)++u3.2.1),())))))
def Kw (a0:Ee):Option (YBs):=(Kv a0).val
def Kx (a0:Sm) (a1:Sm) (a2:Ee):Tree (A5):=
 .ob (Kw a2) fun r1=>
 .leaf (a0.1,a0.2.1,a1.1,a1.2.1,r1.1,())
def Q2 (a0:Sm) (a1:Sm) (a2:Ee):Option (A5):=(Kx a0 a1 a2).val
def My (a0:Ax):Tree (A5×Ax):=
 .ob (Ki a0 ((3:Int),())) fun r1=>
 .br r1.1.1 (
 .ob (Bi (a0.1,r1.2.2.1,r1.2.2.2.1,()) ((3:Int),())) fun r2=>
 .ob (Je r2.1) fun r3=>
 .ob (Bi (a0.1,r2.2.2.1,r2.2.2.2.1,()) ((3:Int),())) fun r4=>
 .ob (Je r4.1) fun r5=>
 .ob (Bz (a0.1,r4.2.2.1,r4.2.2.2.1,()) ([((0:Int),()),((5:Int),()),((45:Int),()),((200:Int),())],())) fun r6=>
 .ob (A6 (a0.1,r6.2.2.1,r6.2.2.2.1,()) r6.1) fun r7=>
 .leaf ((r3.1,r3.2.1,r5.1,r5.2.1,r7.1.1,()),(a0.1,r7.2.2.1,r7.2.2.2.1,()))) (
 .ob (Bi (a0.1,r1.2.2.1,r1.2.2.2.1,()) ((3:Int),())) fun r8=>
 .ob (Je r8.1) fun r9=>
 .ob (Bi (a0.1,r8.2.2.1,r8.2.2.2.1,()) ((3:Int),())) fun r10=>
 .ob (Je r10.1) fun r11=>
 .ob (Ou (a0.1,r10.2.2.1,r10.2.2.2.1,())) fun r12=>
 .ob (Q2 r9 r11 r12.1) fun r13=>
 .leaf (r13,(a0.1,r12.2.2.1,r12.2.2.2.1,())))
def Mz (a0:Ax):Option (A5×Ax):=(My a0).val
def Dz (x7:(List YOp)×(List A5)×Int×(List YB)×Int×Int×Unit):Option (((List YOp)×(List A5)×Int×(List YB)×Int×Int×Unit)⊕(((List YOp)×(List A5)×(List YB)×Int×Int×Unit))):=
 letI u1:=x7.2.2.2;Tree.val (α:=((List YOp)×(List A5)×Int×(List YB)×Int×Int×Unit)⊕(((List YOp)×(List A5)×(List YB)×Int×Int×Unit))) <|
 .br (decide (x7.2.2.1>(0:Int))) (
 .ob (Mz (u1.1,u1.2.1,u1.2.2.1,())) fun r8=>
 .chk (decide (x7.2.1.length+[r8.1].length≤4294967296)) <|
 .leaf (.inl (x7.1,(x7.2.1++[r8.1]),(i64.wrap (x7.2.2.1-(1:Int))),u1.1,r8.2.2.1,r8.2.2.2.1,()))) (
 .leaf (.inr (x7.1,x7.2.1,u1.1,u1.2.1,u1.2.2.1,())))
def Dl (x11:(List YOp)×(List A5)×(List YBs)×Int×(List YB)×Int×Int×Unit):Option (((List YOp)×(List A5)×(List YBs)×Int×(List YB)×Int×Int×Unit)⊕(((List YOp)×(List A5)×(List YBs)×Unit))):=
 letI u1:=x11.2.2.2;Tree.val (α:=((List YOp)×(List A5)×(List YBs)×Int×(List YB)×Int×Int×Unit)⊕(((List YOp)×(List A5)×(List YBs)×Unit))) <|
 .br (decide (u1.1>(0:Int))) (
 .ob (A6 (u1.2.1,u1.2.2.1,u1.2.2.2.1,()) ((32:Int),())) fun r12=>
 .chk (decide (x11.2.2.1.length+[r12.1].length≤4294967296)) <|
 .leaf (.inl (x11.1,x11.2.1,(x11.2.2.1++[r12.1]),(i64.wrap (u1.1-(1:Int))),u1.2.1,r12.2.2.1,r12.2.2.2.1,()))) (
 .leaf (.inr (x11.1,x11.2.1,x11.2.2.1,())))
def Il (a0:YBs):Tree (((List YOp)×Unit)×((List A5)×Unit)×((List YBs)×Unit)):=
 .ob (Qz a0) fun r1=>
 .ob (Bz r1 ([((3:Int),()),((6:Int),()),((9:Int),()),((14:Int),())],())) fun r2=>
 .ob (Kb (r1.1,r2.2.2.1,r2.2.2.2.1,()) r2.1) fun r3=>
 .ob (Ki (r1.1,r3.2.2.1,r3.2.2.2.1,()) ((4:Int),())) fun r4=>
 .br r4.1.1 (
 .ob (Oq (r1.1,r4.2.2.1,r4.2.2.2.1,())) fun r5=>
 .chk (decide (r3.1.1.length+[r5.1].length≤4294967296)) <|
 .ob (Bi (r1.1,r5.2.2.1,r5.2.2.2.1,()) ((6:Int),())) fun r6=>
 .ob (Am Dz ((r3.1.1++[r5.1]),([]:List A5),r6.1.1,r1.1,r6.2.2.1,r6.2.2.2.1,())) fun o9=>
 .ob (Bi (o9.2.2.1,o9.2.2.2.1,o9.2.2.2.2.1,()) ((5:Int),())) fun r10=>
 .ob (Am Dl (o9.1,o9.2.1,([]:List YBs),r10.1.1,o9.2.2.1,r10.2.2.1,r10.2.2.2.1,())) fun o13=>
 .leaf ((o13.1,()),(o13.2.1,()),(o13.2.2.1,()))) (
 .ob (Bi (r1.1,r4.2.2.1,r4.2.2.2.1,()) ((6:Int),())) fun r14=>
 .ob (Am Dz (r3.1.1,([]:List A5),r14.1.1,r1.1,r14.2.2.1,r14.2.2.2.1,())) fun o15=>
 .ob (Bi (o15.2.2.1,o15.2.2.2.1,o15.2.2.2.2.1,()) ((5:Int),())) fun r16=>
 .ob (Am Dl (o15.1,o15.2.1,([]:List YBs),r16.1.1,o15.2.2.1,r16.2.2.1,r16.2.2.2.1,())) fun o17=>
 .leaf ((o17.1,()),(o17.2.1,()),(o17.2.2.1,())))
def Ky (a0:YBs):Option (((List YOp)×Unit)×((List A5)×Unit)×((List YBs)×Unit)):=(Il a0).val
def Kz (a0:YI):Tree (YI):=
 .br (a0.1==(4:Int)) (
 .leaf ((1:Int),())) (
 .br (a0.1==(9:Int)) (
 .leaf ((1:Int),())) (
 .br (a0.1==(5:Int)) (
 .leaf ((2:Int),())) (
 .br (a0.1==(6:Int)) (
 .leaf ((2:Int),())) (
 .br (a0.1==(7:Int)) (
 .leaf ((2:Int),())) (
 .br (a0.1==(8:Int)) (
 .leaf ((2:Int),())) (
 .br (a0.1==(10:Int)) (
 .leaf ((3:Int),())) (
 .leaf ((0:Int),()))))))))
def Br (a0:YI):Option (YI):=(Kz a0).val
def Oz (a0:YI) (a1:YI) (a2:YI):Tree ((Bool×Unit)):=
 .br (decide (a0.1≥a1.1)) (
 .leaf ((decide (a0.1≤a2.1)),())) (
 .leaf (false,()))
def Ct (a0:YI) (a1:YI) (a2:YI):Option ((Bool×Unit)):=(Oz a0 a1 a2).val
def O0 (a0:YOp):Tree ((Bool×Unit)):=
 .ob (Ct (a0.1,()) ((1:Int),()) ((10:Int),())) fun r1=>
 .br r1.1 (
 .br (decide ((a0.2.2.2.1.length:Int)≤(200:Int))) (
 .ob (Ct (a0.2.1,()) ((0:Int),()) ((200:Int),())) fun r2=>
 .br r2.1 (
 .ob (Ct (a0.2.2.1,()) ((0:Int),()) ((200:Int),())) fun r3=>
 .leaf r3) (
 .leaf (false,()))) (
 .leaf (false,()))) (
 .leaf (false,()))
def O3 (a0:YOp):Option ((Bool×Unit)):=(O0 a0).val
def W2 (a0:YBs) (a1:YI) (a2:YI):Tree (YBs×(Bool×Unit)):=
 .br (decide (a1.1<(0:Int))) (
 .leaf ((([]:List YB),()),(false,()))) (
 .br (decide (a2.1<(0:Int))) (
 .leaf ((([]:List YB),()),(false,()))) (
 .br (decide (a1.1>(a0.1.length:Int))) (
 .leaf ((([]:List YB),()),(false,()))) (
 .br (decide (a2.1>(i64.wrap ((a0.1.length:Int)-a1.1)))) (
 .leaf ((([]:List YB),()),(false,()))) (
 .chk (decide ((0:Int)≤a1.1)) <|
 .chk (decide (a1.1≤(i64.wrap (a1.1+a2.1)))) <|
 .chk (decide ((i64.wrap (a1.1+a2.1))≤(a0.1.length:Int))) <|
 .chk (decide (([]:List YB).length+((a0.1.take ((i64.wrap (a1.1+a2.1))).toNat).drop (a1.1).toNat).length≤4294967296)) <|
 .leaf (((([]:List YB)++((a0.1.take ((i64.wrap (a1.1+a2.1))).toNat).drop (a1.1).toNat)),()),(true,()))))))
def So (a0:YBs) (a1:YI) (a2:YI):Option (YBs×(Bool×Unit)):=(W2 a0 a1 a2).val
def Eu (x1:(List YB)×(List YBs)×Int×Int×Unit):Option (((List YB)×(List YBs)×Int×Int×Unit)⊕(YBs)):=
 letI u1:=x1.2.2;Tree.val (α:=((List YB)×(List YBs)×Int×Int×Unit)⊕(YBs)) <|
 .br (decide (u1.2.1<u1.1)) (
 .ob (idx x1.2.1 u1.2.1) fun e2=>
 .chk (decide (x1.1.length+e2.1.length≤4294967296)) <|
 .leaf (.inl ((x1.1++e2.1),x1.2.1,u1.1,(i64.wrap (u1.2.1+(1:Int))),()))) (
 .leaf (.inr (x1.1,())))
def O4 (a0:(List YBs)×Unit):Tree (YBs):=
 .ob (Am Eu (([]:List YB),a0.1,(a0.1.length:Int),(0:Int),())) fun o3=>
 .leaf o3
def Dt (a0:(List YBs)×Unit):Option (YBs):=(O4 a0).val
def Fv (x1:(List YB)×(List YB)×(List YB)×Int×Int×Unit):Option (((List YB)×(List YB)×(List YB)×Int×Int×Unit)⊕(YBs)):=
 letI u1:=x1.2.2.2;Tree.val (α:=((List YB)×(List YB)×(List YB)×Int×Int×Unit)⊕(YBs)) <|
 .br (decide (u1.2.1<u1.1)) (
 .ob (idx x1.2.2.1 u1.2.1) fun e2=>
 .ob (idx x1.1 u1.2.1) fun e3=>
 .chk (decide (x1.2.1.length+[((u8.wrap ((BitVec.ofInt (u8.bits) (e2.1) ^^^ BitVec.ofInt (u8.bits) (e3.1)).toNat:Nat)),())].length≤4294967296)) <|
 .leaf (.inl (x1.1,(x1.2.1++[((u8.wrap ((BitVec.ofInt (u8.bits) (e2.1) ^^^ BitVec.ofInt (u8.bits) (e3.1)).toNat:Nat)),())]),x1.2.2.1,u1.1,(i64.wrap (u1.2.1+(1:Int))),()))) (
 .leaf (.inr (x1.2.1,())))
def Q3 (a0:YBs) (a1:YBs):Tree (YBs):=
 .ob (Am Fv (a1.1,([]:List YB),a0.1,(a0.1.length:Int),(0:Int),())) fun o4=>
 .leaf o4
def Q4 (a0:YBs) (a1:YBs):Option (YBs):=(Q3 a0 a1).val
def Q5 (a0:YBs):Tree (YBs):=
 .chk (decide (([]:List YB).length+a0.1.length≤4294967296)) <|
 .leaf ((([]:List YB)++a0.1),())
def Dy (a0:YBs):Option (YBs):=(Q5 a0).val
def Zk:Tree (((List YI)×Unit)):=
 .leaf ([((1779033703:Int),()),((3144134277:Int),()),((1013904242:Int),()),((2773480762:Int),()),((1359893119:Int),()),((2600822924:Int),()),((528734635:Int),()),((1541459225:Int),())],())
def Ag2:Option (((List YI)×Unit)):=(Zk).val
def Ta:Tree (Fh):=
 .ob Ag2 fun r1=>
 .leaf (r1.1,([]:List YB),(0:Int),())
def Tb:Option (Fh):=(Ta).val
def Ev (x1:(List YI)×Int×(List YI)×Int×Int×Unit):Option (((List YI)×Int×(List YI)×Int×Int×Unit)⊕((Bool×Unit)⊕((List YI)×Int×Unit))):=
 letI u1:=x1.2.2;Tree.val (α:=((List YI)×Int×(List YI)×Int×Int×Unit)⊕((Bool×Unit)⊕((List YI)×Int×Unit))) <|
 .br (decide (u1.2.2.1<u1.2.1)) (
 .ob (idx u1.1 u1.2.2.1) fun e2=>
 .ob (Ct e2 ((0:Int),()) ((4294967295:Int),())) fun r3=>
 .br (!r3.1) (
 .leaf (.inr (.inl (false,())))) (
 .leaf (.inl (x1.1,x1.2.1,u1.1,u1.2.1,(i64.wrap (u1.2.2.1+(1:Int))),())))) (
 .leaf (.inr (.inr (x1.1,x1.2.1,()))))
def K0 (a0:(List YI)×Unit) (a1:YI):Tree ((Bool×Unit)):=
 .ob (Am Ev (a0.1,a1.1,a0.1,(a0.1.length:Int),(0:Int),())) fun o4=>
 .sm o4 (fun o5=>
 .leaf o5) (fun o6=>
 .leaf (((o6.1.length:Int)==o6.2.1),()))
def Im (a0:(List YI)×Unit) (a1:YI):Option ((Bool×Unit)):=(K0 a0 a1).val
def O5 (a0:Fh):Tree ((Bool×Unit)):=
 .ob (Im (a0.1,()) ((8:Int),())) fun r1=>
 .br r1.1 (
 .ob (Ct (a0.2.2.1,()) ((0:Int),()) ((1048576:Int),())) fun r2=>
 .br r2.1 (
 .chk (decide ((0:Int)≤a0.2.2.1)) <|
 .leaf (((a0.2.2.1%(64:Int))==(a0.2.1.length:Int)),())) (
 .leaf (false,()))) (
 .leaf (false,()))
def Kj (a0:Fh):Option ((Bool×Unit)):=(O5 a0).val
def Gy (x2:Int×Int×Int×(List YB)×Int×Int×Unit):Option ((Int×Int×Int×(List YB)×Int×Int×Unit)⊕((Int×Int×Int×Unit))):=
 letI u1:=x2.2.2;letI u2:=u1.2.2;Tree.val (α:=(Int×Int×Int×(List YB)×Int×Int×Unit)⊕((Int×Int×Int×Unit))) <|
 .br (decide (u2.2.1<u2.1)) (
 .ob (idx u1.2.1 u2.2.1) fun e3=>
 .leaf (.inl (x2.1,x2.2.1,(i64.wrap ((i64.wrap ((256:Int)*u1.1))+(i64.wrap (e3.1)))),u1.2.1,u2.1,(i64.wrap (u2.2.1+(1:Int))),()))) (
 .leaf (.inr (x2.1,x2.2.1,u1.1,())))
def T7 (a0:YBs) (a1:YI) (a2:YI):Tree (YI×YI×(Bool×Unit)):=
 .br (decide (a2.1<(1:Int))) (
 .leaf (((0:Int),()),((0:Int),()),(false,()))) (
 .br (decide (a2.1>(6:Int))) (
 .leaf (((0:Int),()),((0:Int),()),(false,()))) (
 .ob (So a0 a1 a2) fun r1=>
 .br (!r1.2.1) (
 .leaf (((0:Int),()),((0:Int),()),(false,()))) (
 .ob (Am Gy (a1.1,a2.1,(0:Int),r1.1.1,(r1.1.1.length:Int),(0:Int),())) fun o4=>
 .leaf ((o4.2.2.1,()),((i64.wrap (o4.1+o4.2.1)),()),(true,())))))
def T8 (a0:YBs) (a1:YI) (a2:YI):Option (YI×YI×(Bool×Unit)):=(T7 a0 a1 a2).val
def W3 (a0:YI) (a1:YI):Tree (YI):=
 .br (decide (a1.1<(0:Int))) (
 .leaf ((i64.wrap ((BitVec.ofInt (i64.bits) (a0.1) &&& BitVec.ofInt (i64.bits) ((4294967295:Int))).toNat:Nat)),())) (
 .br (decide (a1.1>(31:Int))) (
 .leaf ((i64.wrap ((BitVec.ofInt (i64.bits) (a0.1) &&& BitVec.ofInt (i64.bits) ((4294967295:Int))).toNat:Nat)),())) (
 .chk (decide ((0:Int)≤a1.1)) <|
 .chk (decide ((0:Int)≤(i64.wrap ((32:Int)-a1.1)))) <|
 .leaf ((i64.wrap ((BitVec.ofInt (i64.bits) ((i64.wrap ((BitVec.ofInt (i64.bits) ((Int.fdiv (i64.wrap ((BitVec.ofInt (i64.bits) (a0.1) &&& BitVec.ofInt (i64.bits) ((4294967295:Int))).toNat:Nat)) (2^(min (a1.1).toNat i64.bits)))) ||| BitVec.ofInt (i64.bits) ((i64.wrap ((i64.wrap ((BitVec.ofInt (i64.bits) (a0.1) &&& BitVec.ofInt (i64.bits) ((4294967295:Int))).toNat:Nat))*2^(min ((i64.wrap ((32:Int)-a1.1))).toNat i64.bits))))).toNat:Nat))) &&& BitVec.ofInt (i64.bits) ((4294967295:Int))).toNat:Nat)),())))
def Eb (a0:YI) (a1:YI):Option (YI):=(W3 a0 a1).val
def D0 (x1:(List YB)×(List YI)×Int×Unit):Option (((List YB)×(List YI)×Int×Unit)⊕(((List YI)×Unit))):=
 letI u1:=x1.2.2;Tree.val (α:=((List YB)×(List YI)×Int×Unit)⊕(((List YI)×Unit))) <|
 .br (decide (u1.1<(16:Int))) (
 .ob (T8 (x1.1,()) ((i64.wrap ((4:Int)*u1.1)),()) ((4:Int),())) fun r2=>
 .ob (idx x1.2.1 u1.1) fun e3=>
 let q4:=(x1.2.1.set (u1.1).toNat r2.1)
 .leaf (.inl (x1.1,q4,(i64.wrap (u1.1+(1:Int))),()))) (
 .leaf (.inr (x1.2.1,())))
def D3 (x6:(List YI)×Int×Unit):Option (((List YI)×Int×Unit)⊕(((List YI)×Unit))):=
 Tree.val (α:=((List YI)×Int×Unit)⊕(((List YI)×Unit))) <|
 .br (decide (x6.2.1<(64:Int))) (
 .ob (idx x6.1 (i64.wrap (x6.2.1-(15:Int)))) fun e7=>
 .ob (idx x6.1 (i64.wrap (x6.2.1-(2:Int)))) fun e8=>
 .ob (Eb e7 ((7:Int),())) fun r9=>
 .ob (Eb e7 ((18:Int),())) fun r10=>
 .ob (Eb e8 ((17:Int),())) fun r11=>
 .ob (Eb e8 ((19:Int),())) fun r12=>
 .ob (idx x6.1 (i64.wrap (x6.2.1-(7:Int)))) fun e13=>
 .ob (idx x6.1 (i64.wrap (x6.2.1-(16:Int)))) fun e14=>
 .ob (idx x6.1 x6.2.1) fun e15=>
 let q16:=(x6.1.set (x6.2.1).toNat ((i64.wrap ((BitVec.ofInt (i64.bits) ((i64.wrap ((i64.wrap ((i64.wrap (e13.1+e14.1))+(i64.wrap ((BitVec.ofInt (i64.bits) ((i64.wrap ((BitVec.ofInt (i64.bits) (r9.1) ^^^ BitVec.ofInt (i64.bits) (r10.1)).toNat:Nat))) ^^^ BitVec.ofInt (i64.bits) ((Int.fdiv e7.1 (2^(min ((3:Int)).toNat i64.bits))))).toNat:Nat))))+(i64.wrap ((BitVec.ofInt (i64.bits) ((i64.wrap ((BitVec.ofInt (i64.bits) (r11.1) ^^^ BitVec.ofInt (i64.bits) (r12.1)).toNat:Nat))) ^^^ BitVec.ofInt (i64.bits) ((Int.fdiv e8.1 (2^(min ((10:Int)).toNat i64.bits))))).toNat:Nat))))) &&& BitVec.ofInt (i64.bits) ((4294967295:Int))).toNat:Nat)),()))
 .leaf (.inl (q16,(i64.wrap (x6.2.1+(1:Int))),()))) (
 .leaf (.inr (x6.1,())))
def Ip (a0:YBs):Tree (((List YI)×Unit)):=
 .br ((a0.1.length:Int) != (64:Int)) (
 .leaf (([]:List YI),())) (
 .ob (Am D0 (a0.1,(List.replicate ((64:Int)).toNat ((0:Int),())),(0:Int),())) fun o5=>
 .ob (Am D3 (o5.1,(16:Int),())) fun o17=>
 .leaf o17)
def K1 (a0:YBs):Option (((List YI)×Unit)):=(Ip a0).val
def Qn (a0:YI):Tree YI:=.leaf (J1 a0.1,())
def Qo (a0:YI):Option YI:=(Qn a0).val
def Zl (a0:YI) (a1:YI):Tree (YI):=
 .leaf ((i64.wrap ((BitVec.ofInt (i64.bits) ((i64.wrap (a0.1+a1.1))) &&& BitVec.ofInt (i64.bits) ((4294967295:Int))).toNat:Nat)),())
def Lz (a0:YI) (a1:YI):Option (YI):=(Zl a0 a1).val
def Db (x11:(List YI)×(List YI)×(List YI)×Int×Int×Int×Int×Int×Int×Int×Int×Int×Unit):Option (((List YI)×(List YI)×(List YI)×Int×Int×Int×Int×Int×Int×Int×Int×Int×Unit)⊕(((List YI)×(List YI)×Int×Int×Int×Int×Int×Int×Int×Int×Unit))):=
 letI u1:=x11.2.2.2;letI u2:=u1.2.2;letI u3:=u2.2.2;letI u4:=u3.2.2;Tree.val (α:=((List YI)×(List YI)×(List YI)×Int×Int×Int×Int×Int×Int×Int×Int×Int×Unit)⊕(((List YI)×(List YI)×Int×Int×Int×Int×Int×Int×Int×Int×Unit))) <|
 .br (decide (u4.2.2.1<(64:Int))) (
 .ob (Eb (u3.1,()) ((6:Int),())) fun r12=>
 .ob (Eb (u3.1,()) ((11:Int),())) fun r13=>
 .ob (Eb (u3.1,()) ((25:Int),())) fun r14=>
 .ob (Qo (u4.2.2.1,())) fun r15=>
 .ob (idx x11.2.2.1 u4.2.2.1) fun e16=>
 .ob (Eb (u1.1,()) ((2:Int),())) fun r17=>
 .ob (Eb (u1.1,()) ((13:Int),())) fun r18=>
 .ob (Eb (u1.1,()) ((22:Int),())) fun r19=>
 .ob (Lz (u2.2.1,()) ((i64.wrap ((i64.wrap ((i64.wrap ((i64.wrap (u4.2.1+(i64.wrap ((BitVec.ofInt (i64.bits) ((i64.wrap ((BitVec.ofInt (i64.bits) (r12.1) ^^^ BitVec.ofInt (i64.bits) (r13.1)).toNat:Nat))) ^^^ BitVec.ofInt (i64.bits) (r14.1)).toNat:Nat))))+(i64.wrap ((BitVec.ofInt (i64.bits) ((i64.wrap ((BitVec.ofInt (i64.bits) (u3.1) &&& BitVec.ofInt (i64.bits) (u3.2.1)).toNat:Nat))) ^^^ BitVec.ofInt (i64.bits) ((i64.wrap ((BitVec.ofInt (i64.bits) ((i64.wrap ((BitVec.ofInt (i64.bits) ((4294967295:Int)) ^^^ BitVec.ofInt (i64.bits) (u3.1)).toNat:Nat))) &&& BitVec.ofInt (i64.bits) (u4.1)).toNat:Nat)))).toNat:Nat))))+r15.1))+e16.1)),())) fun r20=>
 .ob (Lz ((i64.wrap ((i64.wrap ((i64.wrap ((i64.wrap (u4.2.1+(i64.wrap ((BitVec.ofInt (i64.bits) ((i64.wrap ((BitVec.ofInt (i64.bits) (r12.1) ^^^ BitVec.ofInt (i64.bits) (r13.1)).toNat:Nat))) ^^^ BitVec.ofInt (i64.bits) (r14.1)).toNat:Nat))))+(i64.wrap ((BitVec.ofInt (i64.bits) ((i64.wrap ((BitVec.ofInt (i64.bits) (u3.1) &&& BitVec.ofInt (i64.bits) (u3.2.1)).toNat:Nat))) ^^^ BitVec.ofInt (i64.bits) ((i64.wrap ((BitVec.ofInt (i64.bits) ((i64.wrap ((BitVec.ofInt (i64.bits) ((4294967295:Int)) ^^^ BitVec.ofInt (i64.bits) (u3.1)).toNat:Nat))) &&& BitVec.ofInt (i64.bits) (u4.1)).toNat:Nat)))).toNat:Nat))))+r15.1))+e16.1)),()) ((i64.wrap ((i64.wrap ((BitVec.ofInt (i64.bits) ((i64.wrap ((BitVec.ofInt (i64.bits) (r17.1) ^^^ BitVec.ofInt (i64.bits) (r18.1)).toNat:Nat))) ^^^ BitVec.ofInt (i64.bits) (r19.1)).toNat:Nat))+(i64.wrap ((BitVec.ofInt (i64.bits) ((i64.wrap ((BitVec.ofInt (i64.bits) ((i64.wrap ((BitVec.ofInt (i64.bits) (u1.1) &&& BitVec.ofInt (i64.bits) (u1.2.1)).toNat:Nat))) ^^^ BitVec.ofInt (i64.bits) ((i64.wrap ((BitVec.ofInt (i64.bits) (u1.1) &&& BitVec.ofInt (i64.bits) (u2.1)).toNat:Nat)))).toNat:Nat))) ^^^ BitVec.ofInt (i64.bits) ((i64.wrap ((BitVec.ofInt (i64.bits) (u1.2.1) &&& BitVec.ofInt (i64.bits) (u2.1)).toNat:Nat)))).toNat:Nat)))),())) fun r21=>
 .leaf (.inl (x11.1,x11.2.1,x11.2.2.1,r21.1,u1.1,u1.2.1,u2.1,r20.1,u3.1,u3.2.1,u4.1,(i64.wrap (u4.2.2.1+(1:Int))),()))) (
 .leaf (.inr (x11.1,x11.2.1,u1.1,u1.2.1,u2.1,u2.2.1,u3.1,u3.2.1,u4.1,u4.2.1,())))
def Cu (x23:(List YI)×(List YI)×(List YI)×Int×Int×Unit):Option (((List YI)×(List YI)×(List YI)×Int×Int×Unit)⊕(((List YI)×Unit))):=
 letI u1:=x23.2.2;letI u2:=u1.2.2;Tree.val (α:=((List YI)×(List YI)×(List YI)×Int×Int×Unit)⊕(((List YI)×Unit))) <|
 .br (decide (u2.1<u1.2.1)) (
 .ob (idx u1.1 u2.1) fun e24=>
 .ob (idx x23.1 u2.1) fun e25=>
 .ob (Lz e25 e24) fun r26=>
 .ob (idx x23.2.1 u2.1) fun e27=>
 let q28:=(x23.2.1.set (u2.1).toNat r26)
 .leaf (.inl (x23.1,q28,u1.1,u1.2.1,(i64.wrap (u2.1+(1:Int))),()))) (
 .leaf (.inr (x23.2.1,())))
def Iq (a0:(List YI)×Unit) (a1:YBs):Tree (((List YI)×Unit)):=
 .chk (decide (([]:List YI).length+a0.1.length≤4294967296)) <|
 .ob (Im a0 ((8:Int),())) fun r1=>
 .br (!r1.1) (
 .leaf ((([]:List YI)++a0.1),())) (
 .br ((a1.1.length:Int) != (64:Int)) (
 .leaf ((([]:List YI)++a0.1),())) (
 .ob (K1 a1) fun r2=>
 .ob (idx a0.1 (0:Int)) fun e3=>
 .ob (idx a0.1 (1:Int)) fun e4=>
 .ob (idx a0.1 (2:Int)) fun e5=>
 .ob (idx a0.1 (3:Int)) fun e6=>
 .ob (idx a0.1 (4:Int)) fun e7=>
 .ob (idx a0.1 (5:Int)) fun e8=>
 .ob (idx a0.1 (6:Int)) fun e9=>
 .ob (idx a0.1 (7:Int)) fun e10=>
 .ob (Am Db (a0.1,(([]:List YI)++a0.1),r2.1,e3.1,e4.1,e5.1,e6.1,e7.1,e8.1,e9.1,e10.1,(0:Int),())) fun o22=>letI u1:=o22.2.2;letI u2:=u1.2.2;letI u3:=u2.2.2.2;
 .ob (Am Cu (o22.1,o22.2.1,[(u1.1,()),(u1.2.1,()),(u2.1,()),(u2.2.1,()),(u2.2.2.1,()),(u3.1,()),(u3.2.1,()),(u3.2.2.1,())],([(u1.1,()),(u1.2.1,()),(u2.1,()),(u2.2.1,()),(u2.2.2.1,()),(u3.1,()),(u3.2.1,()),(u3.2.2.1,())].length:Int),(0:Int),())) fun o29=>
 .leaf o29))
def F7 (a0:(List YI)×Unit) (a1:YBs):Option (((List YI)×Unit)):=(Iq a0 a1).val
def Cg (x3:(List YI)×(List YB)×Unit):Option (((List YI)×(List YB)×Unit)⊕(((List YI)×(List YB)×Unit))):=
 Tree.val (α:=((List YI)×(List YB)×Unit)⊕(((List YI)×(List YB)×Unit))) <|
 .br (decide ((x3.2.1.length:Int)≥(64:Int))) (
 .chk (decide ((64:Int)≤(x3.2.1.length:Int))) <|
 .ob (F7 (x3.1,()) (((x3.2.1.take ((64:Int)).toNat).drop ((0:Int)).toNat),())) fun r4=>
 .chk (decide ((64:Int)≤(x3.2.1.length:Int))) <|
 .chk (decide ((x3.2.1.length:Int)≤(x3.2.1.length:Int))) <|
 .leaf (.inl (r4.1,((x3.2.1.take ((x3.2.1.length:Int)).toNat).drop ((64:Int)).toNat),()))) (
 .leaf (.inr x3))
def Ir (a0:(List YI)×Unit) (a1:YBs):Tree (((List YI)×Unit)×YBs):=
 .ob (Am Cg (a0.1,a1.1,())) fun o5=>
 .leaf ((o5.1,()),(o5.2.1,()))
def F4 (a0:(List YI)×Unit) (a1:YBs):Option (((List YI)×Unit)×YBs):=(Ir a0 a1).val
def M0 (a0:Fh) (a1:YBs):Tree (Fh):=
 .ob (Kj a0) fun r1=>
 .br (!r1.1) (
 .chk (decide (([]:List YI).length+a0.1.length≤4294967296)) <|
 .ob (Dy (a0.2.1,())) fun r2=>
 .leaf ((([]:List YI)++a0.1),r2.1,a0.2.2.1,())) (
 .br (decide ((a1.1.length:Int)>(i64.wrap ((1048576:Int)-a0.2.2.1)))) (
 .chk (decide (([]:List YI).length+a0.1.length≤4294967296)) <|
 .ob (Dy (a0.2.1,())) fun r3=>
 .leaf ((([]:List YI)++a0.1),r3.1,a0.2.2.1,())) (
 .ob (Dt ([(a0.2.1,()),a1],())) fun r4=>
 .ob (F4 (a0.1,()) r4) fun r5=>
 .chk (decide (([]:List YI).length+r5.1.1.length≤4294967296)) <|
 .ob (Dy r5.2) fun r6=>
 .leaf ((([]:List YI)++r5.1.1),r6.1,(i64.wrap (a0.2.2.1+(a1.1.length:Int))),())))
def M4 (a0:Fh) (a1:YBs):Option (Fh):=(M0 a0 a1).val
def Vd (x1:Int×(List YB)×Int×Unit):Option ((Int×(List YB)×Int×Unit)⊕(YBs)):=
 letI u1:=x1.2.2;Tree.val (α:=(Int×(List YB)×Int×Unit)⊕(YBs)) <|
 .br (decide (u1.1≥(0:Int))) (
 .chk (decide ((0:Int)≤(i64.wrap ((8:Int)*u1.1)))) <|
 .chk (decide (x1.2.1.length+[((u8.wrap ((i64.wrap ((BitVec.ofInt (i64.bits) ((Int.fdiv x1.1 (2^(min ((i64.wrap ((8:Int)*u1.1))).toNat i64.bits)))) &&& BitVec.ofInt (i64.bits) ((255:Int))).toNat:Nat)))),())].length≤4294967296)) <|
 .leaf (.inl (x1.1,(x1.2.1++[((u8.wrap ((i64.wrap ((BitVec.ofInt (i64.bits) ((Int.fdiv x1.1 (2^(min ((i64.wrap ((8:Int)*u1.1))).toNat i64.bits)))) &&& BitVec.ofInt (i64.bits) ((255:Int))).toNat:Nat)))),())]),(i64.wrap (u1.1-(1:Int))),()))) (
 .leaf (.inr (x1.2.1,())))
def Aa5 (a0:YBs) (a1:YI) (a2:YI):Tree (YBs):=
 .chk (decide (([]:List YB).length+a0.1.length≤4294967296)) <|
 .br (decide (a2.1<(1:Int))) (
 .leaf ((([]:List YB)++a0.1),())) (
 .br (decide (a2.1>(6:Int))) (
 .leaf ((([]:List YB)++a0.1),())) (
 .ob (Am Vd (a1.1,(([]:List YB)++a0.1),(i64.wrap (a2.1-(1:Int))),())) fun o2=>
 .leaf o2))
def Hw (a0:YBs) (a1:YI) (a2:YI):Option (YBs):=(Aa5 a0 a1 a2).val
def F8 (x2:Int×(List YB)×Unit):Option ((Int×(List YB)×Unit)⊕((Int×(List YB)×Unit))):=
 Tree.val (α:=(Int×(List YB)×Unit)⊕((Int×(List YB)×Unit))) <|
 .chk (decide ((0:Int)≤(i64.wrap ((i64.wrap (x2.1+(x2.2.1.length:Int)))+(8:Int))))) <|
 .br (((i64.wrap ((i64.wrap (x2.1+(x2.2.1.length:Int)))+(8:Int)))%(64:Int)) != (0:Int)) (
 .chk (decide (x2.2.1.length+[((0:Int),())].length≤4294967296)) <|
 .leaf (.inl (x2.1,(x2.2.1++[((0:Int),())]),()))) (
 .leaf (.inr x2))
def W4 (a0:YI):Tree (YBs):=
 .ob (Ct a0 ((0:Int),()) ((1048576:Int),())) fun r1=>
 .br (!r1.1) (
 .leaf (([]:List YB),())) (
 .ob (Am F8 (a0.1,[((128:Int),())],())) fun o3=>
 .chk (decide (o3.2.1.length+[((0:Int),()),((0:Int),())].length≤4294967296)) <|
 .ob (Hw ((o3.2.1++[((0:Int),()),((0:Int),())]),()) ((i64.wrap ((8:Int)*o3.1)),()) ((6:Int),())) fun r4=>
 .leaf r4)
def W5 (a0:YI):Option (YBs):=(W4 a0).val
def Dm (x1:(List YB)×(List YI)×Int×Int×Unit):Option (((List YB)×(List YI)×Int×Int×Unit)⊕(YBs)):=
 letI u1:=x1.2.2;Tree.val (α:=((List YB)×(List YI)×Int×Int×Unit)⊕(YBs)) <|
 .br (decide (u1.2.1<u1.1)) (
 .ob (idx x1.2.1 u1.2.1) fun e2=>
 .ob (Hw (x1.1,()) e2 ((4:Int),())) fun r3=>
 .leaf (.inl (r3.1,x1.2.1,u1.1,(i64.wrap (u1.2.1+(1:Int))),()))) (
 .leaf (.inr (x1.1,())))
def Kc (a0:(List YI)×Unit):Tree (YBs):=
 .ob (Am Dm (([]:List YB),a0.1,(a0.1.length:Int),(0:Int),())) fun o4=>
 .leaf o4
def Kd (a0:(List YI)×Unit):Option (YBs):=(Kc a0).val
def M5 (a0:Fh):Tree (YBs):=
 .ob (Kj a0) fun r1=>
 .br (!r1.1) (
 .leaf (([]:List YB),())) (
 .ob (W5 (a0.2.2.1,())) fun r2=>
 .ob (Dt ([(a0.2.1,()),r2],())) fun r3=>
 .ob (F4 (a0.1,()) r3) fun r4=>
 .ob (Kd r4.1) fun r5=>
 .leaf r5)
def M6 (a0:Fh):Option (YBs):=(M5 a0).val
def W6 (a0:YBs):Tree (YBs):=
 .br (decide ((a0.1.length:Int)>(1048576:Int))) (
 .leaf (([]:List YB),())) (
 .ob Tb fun r1=>
 .ob (M4 r1 a0) fun r2=>
 .ob (M6 r2) fun r3=>
 .leaf r3)
def Nq (a0:YBs):Option (YBs):=(W6 a0).val
def Cp (x3:YBs):Option (YBs⊕(YBs)):=
 Tree.val (α:=YBs⊕(YBs)) <|
 .br (decide ((x3.1.length:Int)<(64:Int))) (
 .chk (decide (x3.1.length+[((0:Int),())].length≤4294967296)) <|
 .leaf (.inl ((x3.1++[((0:Int),())]),()))) (
 .leaf (.inr x3))
def K2 (a0:YBs):Tree (YBs):=
 .br (decide ((a0.1.length:Int)>(1048576:Int))) (
 .leaf (([]:List YB),())) (
 .ob (Dy a0) fun r1=>
 .br (decide ((a0.1.length:Int)>(64:Int))) (
 .ob (Nq a0) fun r2=>
 .ob (Am Cp r2) fun o4=>
 .leaf o4) (
 .ob (Am Cp r1) fun o5=>
 .leaf o5))
def K3 (a0:YBs):Option (YBs):=(K2 a0).val
def Ew (x1:Int×(List YB)×(List YB)×Int×Int×Unit):Option ((Int×(List YB)×(List YB)×Int×Int×Unit)⊕(YBs)):=
 letI u1:=x1.2.2;Tree.val (α:=(Int×(List YB)×(List YB)×Int×Int×Unit)⊕(YBs)) <|
 .br (decide (u1.2.2.1<u1.2.1)) (
 .ob (idx u1.1 u1.2.2.1) fun e2=>
 .chk (decide (x1.2.1.length+[((u8.wrap ((BitVec.ofInt (u8.bits) (e2.1) ^^^ BitVec.ofInt (u8.bits) (x1.1)).toNat:Nat)),())].length≤4294967296)) <|
 .leaf (.inl (x1.1,(x1.2.1++[((u8.wrap ((BitVec.ofInt (u8.bits) (e2.1) ^^^ BitVec.ofInt (u8.bits) (x1.1)).toNat:Nat)),())]),u1.1,u1.2.1,(i64.wrap (u1.2.2.1+(1:Int))),()))) (
 .leaf (.inr (x1.2.1,())))
def O6 (a0:YBs) (a1:YB):Tree (YBs):=
 .ob (Am Ew (a1.1,([]:List YB),a0.1,(a0.1.length:Int),(0:Int),())) fun o3=>
 .leaf o3
def Kk (a0:YBs) (a1:YB):Option (YBs):=(O6 a0 a1).val
def T9 (a0:YBs) (a1:YBs):Tree (YBs):=
 .br (decide ((a0.1.length:Int)>(1048576:Int))) (
 .leaf (([]:List YB),())) (
 .br (decide ((a1.1.length:Int)>(1048512:Int))) (
 .leaf (([]:List YB),())) (
 .ob (K3 a0) fun r1=>
 .ob (Kk r1 ((92:Int),())) fun r2=>
 .ob (Kk r1 ((54:Int),())) fun r3=>
 .ob (Dt ([r3,a1],())) fun r4=>
 .ob (Nq r4) fun r5=>
 .ob (Dt ([r2,r5],())) fun r6=>
 .ob (Nq r6) fun r7=>
 .leaf r7))
def Jf (a0:YBs) (a1:YBs):Option (YBs):=(T9 a0 a1).val
def W7 (a0:YBs) (a1:YBs):Tree (YBs):=
 .ob (Jf a0 a1) fun r1=>
 .br ((r1.1.length:Int)==(0:Int)) (
 .leaf (([]:List YB),())) (
 .chk (decide ((16:Int)≤(r1.1.length:Int))) <|
 .ob (Dy (((r1.1.take ((16:Int)).toNat).drop ((0:Int)).toNat),())) fun r2=>
 .leaf r2)
def W8 (a0:YBs) (a1:YBs):Option (YBs):=(W7 a0 a1).val
def Ey (x2:(List YB)×(List YB)×Int×(List YB)×(List YB)×Int×Unit):Option (((List YB)×(List YB)×Int×(List YB)×(List YB)×Int×Unit)⊕((Int×(List YB)×Unit))):=
 letI u1:=x2.2.2;Tree.val (α:=((List YB)×(List YB)×Int×(List YB)×(List YB)×Int×Unit)⊕((Int×(List YB)×Unit))) <|
 .br (decide ((x2.2.2.2.1.length:Int)<u1.1)) (
 .ob (Dt ([(u1.2.2.1,()),(x2.2.1,()),([((u8.wrap (u1.2.2.2.1)),())],())],())) fun r3=>
 .ob (Jf (x2.1,()) r3) fun r4=>
 .chk (decide (x2.2.2.2.1.length+r4.1.length≤4294967296)) <|
 .leaf (.inl (x2.1,x2.2.1,u1.1,(u1.2.1++r4.1),r4.1,(i64.wrap (u1.2.2.2.1+(1:Int))),()))) (
 .leaf (.inr (u1.1,u1.2.1,())))
def O7 (a0:YBs) (a1:YBs) (a2:YI):Tree (YBs×(Bool×Unit)):=
 .ob (Ct a2 ((0:Int),()) ((8160:Int),())) fun r1=>
 .br (!r1.1) (
 .leaf ((([]:List YB),()),(false,()))) (
 .br (decide ((a1.1.length:Int)>(100:Int))) (
 .leaf ((([]:List YB),()),(false,()))) (
 .br (decide ((a0.1.length:Int)>(1048576:Int))) (
 .leaf ((([]:List YB),()),(false,()))) (
 .ob (Am Ey (a0.1,a1.1,a2.1,([]:List YB),([]:List YB),(1:Int),())) fun o5=>
 .chk (decide ((0:Int)≤o5.1)) <|
 .chk (decide (o5.1≤(o5.2.1.length:Int))) <|
 .ob (Dy (((o5.2.1.take (o5.1).toNat).drop ((0:Int)).toNat),())) fun r6=>
 .leaf (r6,(true,())))))
def O8 (a0:YBs) (a1:YBs) (a2:YI):Option (YBs×(Bool×Unit)):=(O7 a0 a1 a2).val
def O9 (a0:YBs) (a1:ByteArray×Unit):Tree (YBs):=
 .chk (decide (a1.1.size≤4294967296)) <|
 .ob (O8 a0 ((Ke a1.1),()) ((32:Int),())) fun r1=>
 .leaf r1.1
def Fk (a0:YBs) (a1:ByteArray×Unit):Option (YBs):=(O9 a0 a1).val
def M7 (a0:YBs) (a1:YBs) (a2:YI):Tree (YBs):=
 .ob (Ct a2 ((0:Int),()) ((6:Int),())) fun r1=>
 .br (!r1.1) (
 .leaf (([]:List YB),())) (
 .br (decide ((a1.1.length:Int)>(100:Int))) (
 .leaf (([]:List YB),())) (
 .ob (Dt ([([((115:Int),())],()),a1],())) fun r2=>
 .ob (Hw r2 a2 ((4:Int),())) fun r3=>
 .ob (Jf a0 r3) fun r4=>
 .leaf r4))
def M8 (a0:YBs) (a1:YBs) (a2:YI):Option (YBs):=(M7 a0 a1 a2).val
def Ez (x2:(List YB)×(List YB)×Int×(List YB)×Int×Unit):Option (((List YB)×(List YB)×Int×(List YB)×Int×Unit)⊕((Int×(List YB)×Unit))):=
 letI u1:=x2.2.2;Tree.val (α:=((List YB)×(List YB)×Int×(List YB)×Int×Unit)⊕((Int×(List YB)×Unit))) <|
 .br (decide ((x2.2.2.2.1.length:Int)<u1.1)) (
 .ob (M8 (x2.1,()) (x2.2.1,()) (u1.2.2.1,())) fun r3=>
 .chk (decide (x2.2.2.2.1.length+r3.1.length≤4294967296)) <|
 .leaf (.inl (x2.1,x2.2.1,u1.1,(u1.2.1++r3.1),(i64.wrap (u1.2.2.1+(1:Int))),()))) (
 .leaf (.inr (u1.1,u1.2.1,())))
def Pa (a0:YBs) (a1:YBs) (a2:YI):Tree (YBs):=
 .ob (Ct a2 ((0:Int),()) ((200:Int),())) fun r1=>
 .br (!r1.1) (
 .leaf (([]:List YB),())) (
 .br (decide ((a1.1.length:Int)>(100:Int))) (
 .leaf (([]:List YB),())) (
 .br (decide ((a0.1.length:Int)>(1048576:Int))) (
 .leaf (([]:List YB),())) (
 .ob (Am Ez (a0.1,a1.1,a2.1,([]:List YB),(0:Int),())) fun o4=>
 .chk (decide ((0:Int)≤o4.1)) <|
 .chk (decide (o4.1≤(o4.2.1.length:Int))) <|
 .ob (Dy (((o4.2.1.take (o4.1).toNat).drop ((0:Int)).toNat),())) fun r5=>
 .leaf r5)))
def Pb (a0:YBs) (a1:YBs) (a2:YI):Option (YBs):=(Pa a0 a1 a2).val
def H6 (x2:(List YB)×(List YB)×(List YB)×Int×Int×Unit):Option (((List YB)×(List YB)×(List YB)×Int×Int×Unit)⊕(YBs)):=
 letI u1:=x2.2.2.2;Tree.val (α:=((List YB)×(List YB)×(List YB)×Int×Int×Unit)⊕(YBs)) <|
 .br (decide (u1.2.1<u1.1)) (
 .ob (idx x2.2.2.1 u1.2.1) fun e3=>
 .ob (idx x2.1 u1.2.1) fun e4=>
 .chk (decide (x2.2.1.length+[((u8.wrap ((BitVec.ofInt (u8.bits) (e3.1) ^^^ BitVec.ofInt (u8.bits) (e4.1)).toNat:Nat)),())].length≤4294967296)) <|
 .leaf (.inl (x2.1,(x2.2.1++[((u8.wrap ((BitVec.ofInt (u8.bits) (e3.1) ^^^ BitVec.ofInt (u8.bits) (e4.1)).toNat:Nat)),())]),x2.2.2.1,u1.1,(i64.wrap (u1.2.1+(1:Int))),()))) (
 .leaf (.inr (x2.2.1,())))
def W9 (a0:YBs) (a1:YBs) (a2:YBs):Tree (YBs):=
 .br (decide ((a2.1.length:Int)>(200:Int))) (
 .leaf (([]:List YB),())) (
 .br (decide ((a1.1.length:Int)>(100:Int))) (
 .leaf (([]:List YB),())) (
 .br (decide ((a0.1.length:Int)>(1048576:Int))) (
 .leaf (([]:List YB),())) (
 .ob (Pb a0 a1 ((a2.1.length:Int),())) fun r1=>
 .ob (Am H6 (a2.1,([]:List YB),r1.1,(r1.1.length:Int),(0:Int),())) fun o5=>
 .leaf o5)))
def Xa (a0:YBs) (a1:YBs) (a2:YBs):Option (YBs):=(W9 a0 a1 a2).val
def Bp (a0:YOp) (a1:(List YBs)×Unit) (a2:(List A5)×Unit) (a3:(List YBs)×Unit):Tree (YBs×(Bool×Unit)):=
 .br (a0.1==(1:Int)) (
 .leaf ((a0.2.2.2.1,()),(true,()))) (
 .br (a0.1==(2:Int)) (
 .br (decide (a0.2.1<(a2.1.length:Int))) (
 .ob (idx a2.1 a0.2.1) fun e1=>
 .leaf ((e1.2.2.2.2.1,()),(true,()))) (
 .leaf ((([]:List YB),()),(false,())))) (
 .br (a0.1==(3:Int)) (
 .br (decide (a0.2.1<(a3.1.length:Int))) (
 .ob (idx a3.1 a0.2.1) fun e2=>
 .leaf (e2,(true,()))) (
 .leaf ((([]:List YB),()),(false,())))) (
 .br (a0.1==(4:Int)) (
 .ob (idx a1.1 (0:Int)) fun e3=>
 .ob (So e3 (a0.2.1,()) (a0.2.2.1,())) fun r4=>
 .leaf (r4.1,r4.2)) (
 .br (a0.1==(5:Int)) (
 .ob (idx a1.1 (0:Int)) fun e5=>
 .ob (idx a1.1 (1:Int)) fun e6=>
 .ob (Dt ([e5,e6],())) fun r7=>
 .leaf (r7,(true,()))) (
 .br (a0.1==(6:Int)) (
 .ob (idx a1.1 (0:Int)) fun e8=>
 .ob (idx a1.1 (1:Int)) fun e9=>
 .br ((e8.1.length:Int)==(e9.1.length:Int)) (
 .ob (idx a1.1 (0:Int)) fun e10=>
 .ob (idx a1.1 (1:Int)) fun e11=>
 .ob (Q4 e10 e11) fun r12=>
 .leaf (r12,(true,()))) (
 .leaf ((([]:List YB),()),(false,())))) (
 .br (a0.1==(7:Int)) (
 .ob (idx a1.1 (0:Int)) fun e13=>
 .ob (idx a1.1 (1:Int)) fun e14=>
 .ob (Jf e13 e14) fun r15=>
 .leaf (r15,(true,()))) (
 .br (a0.1==(8:Int)) (
 .ob (idx a1.1 (0:Int)) fun e16=>
 .ob (idx a1.1 (1:Int)) fun e17=>
 .ob (W8 e16 e17) fun r18=>
 .leaf (r18,(true,()))) (
 .br (a0.1==(9:Int)) (
 .ob (idx a1.1 (0:Int)) fun e19=>
 .ob (Fk e19 ((F9 [114,101,107,101,121]),())) fun r20=>
 .leaf (r20,(true,()))) (
 .br (a0.1==(10:Int)) (
 .ob (idx a1.1 (0:Int)) fun e21=>
 .ob (idx a1.1 (1:Int)) fun e22=>
 .ob (idx a1.1 (2:Int)) fun e23=>
 .ob (Xa e21 e22 e23) fun r24=>
 .leaf (r24,(true,()))) (
 .leaf ((([]:List YB),()),(false,()))))))))))))
def Az (a0:YOp) (a1:(List YBs)×Unit) (a2:(List A5)×Unit) (a3:(List YBs)×Unit):Option (YBs×(Bool×Unit)):=(Bp a0 a1 a2 a3).val
def A8 (x6:(List A5)×(List YBs)×(List YBs)×(List YOp)×Int×Int×Unit):Option (((List A5)×(List YBs)×(List YBs)×(List YOp)×Int×Int×Unit)⊕(((List YB)×Bool×Unit)⊕((List YBs)×Unit))):=
 letI u1:=x6.2.2.2;Tree.val (α:=((List A5)×(List YBs)×(List YBs)×(List YOp)×Int×Int×Unit)⊕(((List YB)×Bool×Unit)⊕((List YBs)×Unit))) <|
 .br (decide (u1.2.2.1<u1.2.1)) (
 .ob (idx u1.1 u1.2.2.1) fun e7=>
 .ob (Br (e7.1,())) fun r8=>
 .ob (O3 e7) fun r9=>
 .br (!r9.1) (
 .leaf (.inr (.inl (([]:List YB),false,())))) (
 .br (decide ((i64.wrap ((x6.2.2.1.length:Int)-r8.1))<(0:Int))) (
 .leaf (.inr (.inl (([]:List YB),false,())))) (
 .chk (decide ((0:Int)≤(i64.wrap ((x6.2.2.1.length:Int)-r8.1)))) <|
 .chk (decide ((i64.wrap ((x6.2.2.1.length:Int)-r8.1))≤(x6.2.2.1.length:Int))) <|
 .chk (decide ((x6.2.2.1.length:Int)≤(x6.2.2.1.length:Int))) <|
 .ob (Az e7 (((x6.2.2.1.take ((x6.2.2.1.length:Int)).toNat).drop ((i64.wrap ((x6.2.2.1.length:Int)-r8.1))).toNat),()) (x6.1,()) (x6.2.1,())) fun r10=>
 .br (!r10.2.1) (
 .leaf (.inr (.inl (([]:List YB),false,())))) (
 .br (decide ((r10.1.1.length:Int)>(200:Int))) (
 .leaf (.inr (.inl (([]:List YB),false,())))) (
 .br (decide ((i64.wrap ((i64.wrap ((x6.2.2.1.length:Int)-r8.1))+(1:Int)))>(8:Int))) (
 .leaf (.inr (.inl (([]:List YB),false,())))) (
 .chk (decide ((0:Int)≤(i64.wrap ((x6.2.2.1.length:Int)-r8.1)))) <|
 .chk (decide ((i64.wrap ((x6.2.2.1.length:Int)-r8.1))≤(x6.2.2.1.length:Int))) <|
 .chk (decide (([]:List YBs).length+((x6.2.2.1.take ((i64.wrap ((x6.2.2.1.length:Int)-r8.1))).toNat).drop ((0:Int)).toNat).length≤4294967296)) <|
 .chk (decide ((([]:List YBs)++((x6.2.2.1.take ((i64.wrap ((x6.2.2.1.length:Int)-r8.1))).toNat).drop ((0:Int)).toNat)).length+[r10.1].length≤4294967296)) <|
 .leaf (.inl (x6.1,x6.2.1,((([]:List YBs)++((x6.2.2.1.take ((i64.wrap ((x6.2.2.1.length:Int)-r8.1))).toNat).drop ((0:Int)).toNat))++[r10.1]),u1.1,u1.2.1,(i64.wrap (u1.2.2.1+(1:Int))),())))))))) (
 .leaf (.inr (.inr (x6.2.2.1,()))))
def Jg (a0:(List YOp)×Unit) (a1:(List A5)×Unit) (a2:(List YBs)×Unit):Tree (YBs×(Bool×Unit)):=
 .br (decide ((a0.1.length:Int)>(16:Int))) (
 .leaf ((([]:List YB),()),(false,()))) (
 .ob (Am A8 (a1.1,a2.1,([]:List YBs),a0.1,(a0.1.length:Int),(0:Int),())) fun o11=>
 .sm o11 (fun o12=>
 .leaf ((o12.1,()),(o12.2.1,()))) (fun o13=>
 .br ((o13.1.length:Int) != (1:Int)) (
 .leaf ((([]:List YB),()),(false,()))) (
 .ob (idx o13.1 (0:Int)) fun e14=>
 .ob (Dy e14) fun r15=>
 .leaf (r15,(true,())))))
def Co (a0:(List YOp)×Unit) (a1:(List A5)×Unit) (a2:(List YBs)×Unit):Option (YBs×(Bool×Unit)):=(Jg a0 a1 a2).val
def Pc (a0:YOp):Tree ((Bool×Unit)):=
 .ob (B7 (a0.1,()) ((1:Int),()) ((10:Int),())) fun r1=>
 .br r1.1 (
 .br (decide ((a0.2.2.2.1.length:Int)≤(200:Int))) (
 .ob (B7 (a0.2.1,()) ((0:Int),()) ((200:Int),())) fun r2=>
 .br r2.1 (
 .ob (B7 (a0.2.2.1,()) ((0:Int),()) ((200:Int),())) fun r3=>
 .leaf r3) (
 .leaf (false,()))) (
 .leaf (false,()))) (
 .leaf (false,()))
def Pd (a0:YOp):Option ((Bool×Unit)):=(Pc a0).val
def Xb (a0:YBs) (a1:YI) (a2:YI):Tree (YBs×(Bool×Unit)):=
 .br (decide (a2.1<(0:Int))) (
 .leaf ((([]:List YB),()),(false,()))) (
 .br (decide (a1.1<(0:Int))) (
 .leaf ((([]:List YB),()),(false,()))) (
 .br (decide (a2.1>(a0.1.length:Int))) (
 .leaf ((([]:List YB),()),(false,()))) (
 .br (decide (a1.1>(i64.wrap ((a0.1.length:Int)-a2.1)))) (
 .leaf ((([]:List YB),()),(false,()))) (
 .chk (decide ((0:Int)≤a1.1)) <|
 .chk (decide (a1.1≤(i64.wrap (a1.1+a2.1)))) <|
 .chk (decide ((i64.wrap (a1.1+a2.1))≤(a0.1.length:Int))) <|
 .chk (decide (([]:List YB).length+((a0.1.take ((i64.wrap (a1.1+a2.1))).toNat).drop (a1.1).toNat).length≤4294967296)) <|
 .leaf (((([]:List YB)++((a0.1.take ((i64.wrap (a1.1+a2.1))).toNat).drop (a1.1).toNat)),()),(true,()))))))
def Xc (a0:YBs) (a1:YI) (a2:YI):Option (YBs×(Bool×Unit)):=(Xb a0 a1 a2).val
def Q6 (x1:Int×(List YB)×Unit):Option ((Int×(List YB)×Unit)⊕((Int×(List YB)×Unit))):=
 Tree.val (α:=(Int×(List YB)×Unit)⊕((Int×(List YB)×Unit))) <|
 .chk (decide ((0:Int)≤(i64.wrap ((i64.wrap (x1.1+(x1.2.1.length:Int)))+(8:Int))))) <|
 .br (((i64.wrap ((i64.wrap (x1.1+(x1.2.1.length:Int)))+(8:Int)))%(64:Int)) != (0:Int)) (
 .chk (decide (x1.2.1.length+[((0:Int),())].length≤4294967296)) <|
 .leaf (.inl (x1.1,(x1.2.1++[((0:Int),())]),()))) (
 .leaf (.inr x1))
def Xd (a0:YI):Tree (YBs):=
 .br (decide (a0.1<(0:Int))) (
 .leaf (([]:List YB),())) (
 .br (decide (a0.1>(1048576:Int))) (
 .leaf (([]:List YB),())) (
 .ob (Am Q6 (a0.1,[((128:Int),())],())) fun o2=>
 .ob (Da (o2.2.1,()) ((0:Int),()) ((4:Int),())) fun r3=>
 .ob (Da r3 ((i64.wrap ((8:Int)*o2.1)),()) ((4:Int),())) fun r4=>
 .leaf r4))
def Xe (a0:YI):Option (YBs):=(Xd a0).val
def Zm:Tree (((List YI)×Unit)):=
 .leaf ([((1779033703:Int),()),((3144134277:Int),()),((1013904242:Int),()),((2773480762:Int),()),((1359893119:Int),()),((2600822924:Int),()),((528734635:Int),()),((1541459225:Int),())],())
def Zn:Option (((List YI)×Unit)):=(Zm).val
def Ft (x1:(List YI)×Int×Unit):Option (((List YI)×Int×Unit)⊕((Bool×Unit)⊕((List YI)×Unit))):=
 Tree.val (α:=((List YI)×Int×Unit)⊕((Bool×Unit)⊕((List YI)×Unit))) <|
 .br (decide (x1.2.1<(x1.1.length:Int))) (
 .ob (idx x1.1 x1.2.1) fun e2=>
 .ob (B7 e2 ((0:Int),()) ((4294967295:Int),())) fun r3=>
 .br (!r3.1) (
 .leaf (.inr (.inl (false,())))) (
 .leaf (.inl (x1.1,(i64.wrap (x1.2.1+(1:Int))),())))) (
 .leaf (.inr (.inr (x1.1,()))))
def M9 (a0:(List YI)×Unit):Tree ((Bool×Unit)):=
 .ob (Am Ft (a0.1,(0:Int),())) fun o4=>
 .sm o4 (fun o5=>
 .leaf o5) (fun o6=>
 .leaf (((o6.1.length:Int)==(8:Int)),()))
def Na (a0:(List YI)×Unit):Option ((Bool×Unit)):=(M9 a0).val
def Aeg:Tree (((List YI)×Unit)):=
 .leaf ([((1116352408:Int),()),((1899447441:Int),()),((3049323471:Int),()),((3921009573:Int),()),((961987163:Int),()),((1508970993:Int),()),((2453635748:Int),()),((2870763221:Int),()),((3624381080:Int),()),((310598401:Int),()),((607225278:Int),()),((1426881987:Int),()),((1925078388:Int),()),((2162078206:Int),()),((2614888103:Int),()),((3248222580:Int),()),((3835390401:Int),()),((4022224774:Int),()),((264347078:Int),()),((604807628:Int),()),((770255983:Int),()),((1249150122:Int),()),((1555081692:Int),()),((1996064986:Int),()),((2554220882:Int),()),((2821834349:Int),()),((2952996808:Int),()),((3210313671:Int),()),((3336571891:Int),()),((3584528711:Int),()),((113926993:Int),()),((338241895:Int),()),((666307205:Int),()),((773529912:Int),()),((1294757372:Int),()),((1396182291:Int),()),((1695183700:Int),()),((1986661051:Int),()),((2177026350:Int),()),((2456956037:Int),()),((2730485921:Int),()),((2820302411:Int),()),((3259730800:Int),()),((3345764771:Int),()),((3516065817:Int),()),((3600352804:Int),()),((4094571909:Int),()),((275423344:Int),()),((430227734:Int),()),((506948616:Int),()),((659060556:Int),()),((883997877:Int),()),((958139571:Int),()),((1322822218:Int),()),((1537002063:Int),()),((1747873779:Int),()),((1955562222:Int),()),((2024104815:Int),()),((2227730452:Int),()),((2361852424:Int),()),((2428436474:Int),()),((2756734187:Int),()),((3204031479:Int),()),((3329325298:Int),())],())
def Aeh:Option (((List YI)×Unit)):=(Aeg).val
def Gz (x1:(List YB)×Int×Int×Int×Int×Unit):Option (((List YB)×Int×Int×Int×Int×Unit)⊕((Int×Int×Int×Unit))):=
 letI u1:=x1.2.2;Tree.val (α:=((List YB)×Int×Int×Int×Int×Unit)⊕((Int×Int×Int×Unit))) <|
 .br (decide (u1.2.2.1<u1.1)) (
 .ob (idx x1.1 (i64.wrap (x1.2.1+u1.2.2.1))) fun e2=>
 .leaf (.inl (x1.1,x1.2.1,u1.1,(i64.wrap ((i64.wrap (u1.2.1*(256:Int)))+(i64.wrap (e2.1)))),(i64.wrap (u1.2.2.1+(1:Int))),()))) (
 .leaf (.inr (x1.2.1,u1.1,u1.2.1,())))
def Ua (a0:YBs) (a1:YI) (a2:YI):Tree (YI×YI×(Bool×Unit)):=
 .br (decide (a2.1<(1:Int))) (
 .leaf (((0:Int),()),((0:Int),()),(false,()))) (
 .br (decide (a2.1>(6:Int))) (
 .leaf (((0:Int),()),((0:Int),()),(false,()))) (
 .br (decide (a1.1<(0:Int))) (
 .leaf (((0:Int),()),((0:Int),()),(false,()))) (
 .br (decide (a1.1>(i64.wrap ((a0.1.length:Int)-a2.1)))) (
 .leaf (((0:Int),()),((0:Int),()),(false,()))) (
 .ob (Am Gz (a0.1,a1.1,a2.1,(0:Int),(0:Int),())) fun o3=>
 .leaf ((o3.2.2.1,()),((i64.wrap (o3.1+o3.2.1)),()),(true,()))))))
def Ub (a0:YBs) (a1:YI) (a2:YI):Option (YI×YI×(Bool×Unit)):=(Ua a0 a1 a2).val
def Xf (a0:YI) (a1:YI):Tree (YI):=
 .br (decide (a1.1<(1:Int))) (
 .leaf ((i64.wrap ((BitVec.ofInt (i64.bits) (a0.1) &&& BitVec.ofInt (i64.bits) ((4294967295:Int))).toNat:Nat)),())) (
 .br (decide (a1.1>(31:Int))) (
 .leaf ((i64.wrap ((BitVec.ofInt (i64.bits) (a0.1) &&& BitVec.ofInt (i64.bits) ((4294967295:Int))).toNat:Nat)),())) (
 .chk (decide ((0:Int)≤a1.1)) <|
 .chk (decide ((0:Int)≤(i64.wrap ((32:Int)-a1.1)))) <|
 .leaf ((i64.wrap ((BitVec.ofInt (i64.bits) ((i64.wrap ((BitVec.ofInt (i64.bits) ((Int.fdiv (i64.wrap ((BitVec.ofInt (i64.bits) (a0.1) &&& BitVec.ofInt (i64.bits) ((4294967295:Int))).toNat:Nat)) (2^(min (a1.1).toNat i64.bits)))) ||| BitVec.ofInt (i64.bits) ((i64.wrap ((i64.wrap ((BitVec.ofInt (i64.bits) (a0.1) &&& BitVec.ofInt (i64.bits) ((4294967295:Int))).toNat:Nat))*2^(min ((i64.wrap ((32:Int)-a1.1))).toNat i64.bits))))).toNat:Nat))) &&& BitVec.ofInt (i64.bits) ((4294967295:Int))).toNat:Nat)),())))
def Ec (a0:YI) (a1:YI):Option (YI):=(Xf a0 a1).val
def D4 (x1:(List YB)×(List YI)×Int×Unit):Option (((List YB)×(List YI)×Int×Unit)⊕(((List YI)×Unit))):=
 Tree.val (α:=((List YB)×(List YI)×Int×Unit)⊕(((List YI)×Unit))) <|
 .br (decide (x1.2.2.1<(16:Int))) (
 .ob (Ub (x1.1,()) ((i64.wrap ((4:Int)*x1.2.2.1)),()) ((4:Int),())) fun r2=>
 .chk (decide (x1.2.1.length+[r2.1].length≤4294967296)) <|
 .leaf (.inl (x1.1,(x1.2.1++[r2.1]),(i64.wrap (x1.2.2.1+(1:Int))),()))) (
 .leaf (.inr (x1.2.1,())))
def Dn (x4:(List YI)×Int×Unit):Option (((List YI)×Int×Unit)⊕(((List YI)×Unit))):=
 Tree.val (α:=((List YI)×Int×Unit)⊕(((List YI)×Unit))) <|
 .br (decide (x4.2.1<(64:Int))) (
 .ob (idx x4.1 (i64.wrap (x4.2.1-(15:Int)))) fun e5=>
 .ob (idx x4.1 (i64.wrap (x4.2.1-(2:Int)))) fun e6=>
 .ob (Ec e5 ((7:Int),())) fun r7=>
 .ob (Ec e5 ((18:Int),())) fun r8=>
 .ob (Ec e6 ((17:Int),())) fun r9=>
 .ob (Ec e6 ((19:Int),())) fun r10=>
 .ob (idx x4.1 (i64.wrap (x4.2.1-(7:Int)))) fun e11=>
 .ob (idx x4.1 (i64.wrap (x4.2.1-(16:Int)))) fun e12=>
 .chk (decide (x4.1.length+[((i64.wrap ((BitVec.ofInt (i64.bits) ((i64.wrap ((i64.wrap ((i64.wrap (e11.1+e12.1))+(i64.wrap ((BitVec.ofInt (i64.bits) ((i64.wrap ((BitVec.ofInt (i64.bits) (r7.1) ^^^ BitVec.ofInt (i64.bits) (r8.1)).toNat:Nat))) ^^^ BitVec.ofInt (i64.bits) ((Int.fdiv e5.1 (2^(min ((3:Int)).toNat i64.bits))))).toNat:Nat))))+(i64.wrap ((BitVec.ofInt (i64.bits) ((i64.wrap ((BitVec.ofInt (i64.bits) (r9.1) ^^^ BitVec.ofInt (i64.bits) (r10.1)).toNat:Nat))) ^^^ BitVec.ofInt (i64.bits) ((Int.fdiv e6.1 (2^(min ((10:Int)).toNat i64.bits))))).toNat:Nat))))) &&& BitVec.ofInt (i64.bits) ((4294967295:Int))).toNat:Nat)),())].length≤4294967296)) <|
 .leaf (.inl ((x4.1++[((i64.wrap ((BitVec.ofInt (i64.bits) ((i64.wrap ((i64.wrap ((i64.wrap (e11.1+e12.1))+(i64.wrap ((BitVec.ofInt (i64.bits) ((i64.wrap ((BitVec.ofInt (i64.bits) (r7.1) ^^^ BitVec.ofInt (i64.bits) (r8.1)).toNat:Nat))) ^^^ BitVec.ofInt (i64.bits) ((Int.fdiv e5.1 (2^(min ((3:Int)).toNat i64.bits))))).toNat:Nat))))+(i64.wrap ((BitVec.ofInt (i64.bits) ((i64.wrap ((BitVec.ofInt (i64.bits) (r9.1) ^^^ BitVec.ofInt (i64.bits) (r10.1)).toNat:Nat))) ^^^ BitVec.ofInt (i64.bits) ((Int.fdiv e6.1 (2^(min ((10:Int)).toNat i64.bits))))).toNat:Nat))))) &&& BitVec.ofInt (i64.bits) ((4294967295:Int))).toNat:Nat)),())]),(i64.wrap (x4.2.1+(1:Int))),()))) (
 .leaf (.inr (x4.1,())))
def Is (a0:YBs):Tree (((List YI)×Unit)):=
 .br ((a0.1.length:Int) != (64:Int)) (
 .leaf (([]:List YI),())) (
 .ob (Am D4 (a0.1,([]:List YI),(0:Int),())) fun o3=>
 .ob (Am Dn (o3.1,(16:Int),())) fun o13=>
 .leaf o13)
def K4 (a0:YBs):Option (((List YI)×Unit)):=(Is a0).val
def Dc (x12:(List YI)×(List YI)×(List YI)×(List YI)×Int×Int×Int×Int×Int×Int×Int×Int×Int×Unit):Option (((List YI)×(List YI)×(List YI)×(List YI)×Int×Int×Int×Int×Int×Int×Int×Int×Int×Unit)⊕(((List YI)×(List YI)×Int×Int×Int×Int×Int×Int×Int×Int×Unit))):=
 letI u1:=x12.2.2;letI u2:=u1.2.2;letI u3:=u2.2.2;letI u4:=u3.2.2;letI u5:=u4.2.2;Tree.val (α:=((List YI)×(List YI)×(List YI)×(List YI)×Int×Int×Int×Int×Int×Int×Int×Int×Int×Unit)⊕(((List YI)×(List YI)×Int×Int×Int×Int×Int×Int×Int×Int×Unit))) <|
 .br (decide (u5.2.2.1<(64:Int))) (
 .ob (Ec (u4.1,()) ((6:Int),())) fun r13=>
 .ob (Ec (u4.1,()) ((11:Int),())) fun r14=>
 .ob (Ec (u4.1,()) ((25:Int),())) fun r15=>
 .ob (idx u1.1 u5.2.2.1) fun e16=>
 .ob (idx u1.2.1 u5.2.2.1) fun e17=>
 .ob (Ec (u2.1,()) ((2:Int),())) fun r18=>
 .ob (Ec (u2.1,()) ((13:Int),())) fun r19=>
 .ob (Ec (u2.1,()) ((22:Int),())) fun r20=>
 .leaf (.inl (x12.1,x12.2.1,u1.1,u1.2.1,(i64.wrap ((BitVec.ofInt (i64.bits) ((i64.wrap ((i64.wrap ((BitVec.ofInt (i64.bits) ((i64.wrap ((i64.wrap ((i64.wrap ((i64.wrap (u5.2.1+(i64.wrap ((BitVec.ofInt (i64.bits) ((i64.wrap ((BitVec.ofInt (i64.bits) (r13.1) ^^^ BitVec.ofInt (i64.bits) (r14.1)).toNat:Nat))) ^^^ BitVec.ofInt (i64.bits) (r15.1)).toNat:Nat))))+(i64.wrap ((BitVec.ofInt (i64.bits) ((i64.wrap ((BitVec.ofInt (i64.bits) (u4.1) &&& BitVec.ofInt (i64.bits) (u4.2.1)).toNat:Nat))) ^^^ BitVec.ofInt (i64.bits) ((i64.wrap ((BitVec.ofInt (i64.bits) ((i64.wrap ((BitVec.ofInt (i64.bits) (u4.1) ^^^ BitVec.ofInt (i64.bits) ((4294967295:Int))).toNat:Nat))) &&& BitVec.ofInt (i64.bits) (u5.1)).toNat:Nat)))).toNat:Nat))))+e16.1))+e17.1))) &&& BitVec.ofInt (i64.bits) ((4294967295:Int))).toNat:Nat))+(i64.wrap ((BitVec.ofInt (i64.bits) ((i64.wrap ((i64.wrap ((BitVec.ofInt (i64.bits) ((i64.wrap ((BitVec.ofInt (i64.bits) (r18.1) ^^^ BitVec.ofInt (i64.bits) (r19.1)).toNat:Nat))) ^^^ BitVec.ofInt (i64.bits) (r20.1)).toNat:Nat))+(i64.wrap ((BitVec.ofInt (i64.bits) ((i64.wrap ((BitVec.ofInt (i64.bits) ((i64.wrap ((BitVec.ofInt (i64.bits) (u2.1) &&& BitVec.ofInt (i64.bits) (u2.2.1)).toNat:Nat))) ^^^ BitVec.ofInt (i64.bits) ((i64.wrap ((BitVec.ofInt (i64.bits) (u2.1) &&& BitVec.ofInt (i64.bits) (u3.1)).toNat:Nat)))).toNat:Nat))) ^^^ BitVec.ofInt (i64.bits) ((i64.wrap ((BitVec.ofInt (i64.bits) (u2.2.1) &&& BitVec.ofInt (i64.bits) (u3.1)).toNat:Nat)))).toNat:Nat))))) &&& BitVec.ofInt (i64.bits) ((4294967295:Int))).toNat:Nat))))) &&& BitVec.ofInt (i64.bits) ((4294967295:Int))).toNat:Nat)),u2.1,u2.2.1,u3.1,(i64.wrap ((BitVec.ofInt (i64.bits) ((i64.wrap (u3.2.1+(i64.wrap ((BitVec.ofInt (i64.bits) ((i64.wrap ((i64.wrap ((i64.wrap ((i64.wrap (u5.2.1+(i64.wrap ((BitVec.ofInt (i64.bits) ((i64.wrap ((BitVec.ofInt (i64.bits) (r13.1) ^^^ BitVec.ofInt (i64.bits) (r14.1)).toNat:Nat))) ^^^ BitVec.ofInt (i64.bits) (r15.1)).toNat:Nat))))+(i64.wrap ((BitVec.ofInt (i64.bits) ((i64.wrap ((BitVec.ofInt (i64.bits) (u4.1) &&& BitVec.ofInt (i64.bits) (u4.2.1)).toNat:Nat))) ^^^ BitVec.ofInt (i64.bits) ((i64.wrap ((BitVec.ofInt (i64.bits) ((i64.wrap ((BitVec.ofInt (i64.bits) (u4.1) ^^^ BitVec.ofInt (i64.bits) ((4294967295:Int))).toNat:Nat))) &&& BitVec.ofInt (i64.bits) (u5.1)).toNat:Nat)))).toNat:Nat))))+e16.1))+e17.1))) &&& BitVec.ofInt (i64.bits) ((4294967295:Int))).toNat:Nat))))) &&& BitVec.ofInt (i64.bits) ((4294967295:Int))).toNat:Nat)),u4.1,u4.2.1,u5.1,(i64.wrap (u5.2.2.1+(1:Int))),()))) (
 .leaf (.inr (x12.1,x12.2.1,u2.1,u2.2.1,u3.1,u3.2.1,u4.1,u4.2.1,u5.1,u5.2.1,())))
def Cv (x22:(List YI)×(List YI)×(List YI)×Int×Unit):Option (((List YI)×(List YI)×(List YI)×Int×Unit)⊕(((List YI)×Unit))):=
 letI u1:=x22.2.2.2;Tree.val (α:=((List YI)×(List YI)×(List YI)×Int×Unit)⊕(((List YI)×Unit))) <|
 .br (decide (u1.1<(8:Int))) (
 .ob (idx x22.1 u1.1) fun e23=>
 .ob (idx x22.2.2.1 u1.1) fun e24=>
 .ob (idx x22.2.1 u1.1) fun e25=>
 let q26:=(x22.2.1.set (u1.1).toNat ((i64.wrap ((BitVec.ofInt (i64.bits) ((i64.wrap (e23.1+e24.1))) &&& BitVec.ofInt (i64.bits) ((4294967295:Int))).toNat:Nat)),()))
 .leaf (.inl (x22.1,q26,x22.2.2.1,(i64.wrap (u1.1+(1:Int))),()))) (
 .leaf (.inr (x22.2.1,())))
def It (a0:(List YI)×Unit) (a1:YBs):Tree (((List YI)×Unit)):=
 .chk (decide (([]:List YI).length+a0.1.length≤4294967296)) <|
 .ob (Na a0) fun r1=>
 .br (!r1.1) (
 .leaf ((([]:List YI)++a0.1),())) (
 .br ((a1.1.length:Int) != (64:Int)) (
 .leaf ((([]:List YI)++a0.1),())) (
 .ob Aeh fun r2=>
 .ob (K4 a1) fun r3=>
 .ob (idx a0.1 (0:Int)) fun e4=>
 .ob (idx a0.1 (1:Int)) fun e5=>
 .ob (idx a0.1 (2:Int)) fun e6=>
 .ob (idx a0.1 (3:Int)) fun e7=>
 .ob (idx a0.1 (4:Int)) fun e8=>
 .ob (idx a0.1 (5:Int)) fun e9=>
 .ob (idx a0.1 (6:Int)) fun e10=>
 .ob (idx a0.1 (7:Int)) fun e11=>
 .ob (Am Dc (a0.1,(([]:List YI)++a0.1),r2.1,r3.1,e4.1,e5.1,e6.1,e7.1,e8.1,e9.1,e10.1,e11.1,(0:Int),())) fun o21=>letI u1:=o21.2.2.2;letI u2:=u1.2.2.2;
 .ob (Am Cv (o21.1,o21.2.1,[(o21.2.2.1,()),(u1.1,()),(u1.2.1,()),(u1.2.2.1,()),(u2.1,()),(u2.2.1,()),(u2.2.2.1,()),(u2.2.2.2.1,())],(0:Int),())) fun o27=>
 .leaf o27))
def Iu (a0:(List YI)×Unit) (a1:YBs):Option (((List YI)×Unit)):=(It a0 a1).val
def Fw (x1:Fh):Option (Fh⊕(YBs)):=
 Tree.val (α:=Fh⊕(YBs)) <|
 .br (decide (x1.2.2.1<(8:Int))) (
 .ob (idx x1.1 x1.2.2.1) fun e2=>
 .ob (Da (x1.2.1,()) e2 ((4:Int),())) fun r3=>
 .leaf (.inl (x1.1,r3.1,(i64.wrap (x1.2.2.1+(1:Int))),()))) (
 .leaf (.inr (x1.2.1,())))
def Q7 (a0:(List YI)×Unit):Tree (YBs):=
 .ob (Am Fw (a0.1,([]:List YB),(0:Int),())) fun o4=>
 .leaf o4
def Q8 (a0:(List YI)×Unit):Option (YBs):=(Q7 a0).val
def H7 (x3:(List YB)×(List YI)×Int×Unit):Option (((List YB)×(List YI)×Int×Unit)⊕(((List YI)×Unit))):=
 letI u1:=x3.2.2;Tree.val (α:=((List YB)×(List YI)×Int×Unit)⊕(((List YI)×Unit))) <|
 .br (decide (u1.1<(x3.1.length:Int))) (
 .chk (decide ((0:Int)≤u1.1)) <|
 .chk (decide (u1.1≤(i64.wrap (u1.1+(64:Int))))) <|
 .chk (decide ((i64.wrap (u1.1+(64:Int)))≤(x3.1.length:Int))) <|
 .ob (Iu (x3.2.1,()) (((x3.1.take ((i64.wrap (u1.1+(64:Int)))).toNat).drop (u1.1).toNat),())) fun r4=>
 .leaf (.inl (x3.1,r4.1,(i64.wrap (u1.1+(64:Int))),()))) (
 .leaf (.inr (x3.2.1,())))
def Xg (a0:YBs):Tree (YBs):=
 .br (decide ((a0.1.length:Int)>(1048576:Int))) (
 .leaf (([]:List YB),())) (
 .chk (decide (([]:List YB).length+a0.1.length≤4294967296)) <|
 .ob (Xe ((a0.1.length:Int),())) fun r1=>
 .chk (decide ((([]:List YB)++a0.1).length+r1.1.length≤4294967296)) <|
 .ob Zn fun r2=>
 .ob (Am H7 (((([]:List YB)++a0.1)++r1.1),r2.1,(0:Int),())) fun o5=>
 .ob (Q8 o5) fun r6=>
 .leaf r6)
def Nr (a0:YBs):Option (YBs):=(Xg a0).val
def G3 (x2:YBs):Option (YBs⊕(YBs)):=
 Tree.val (α:=YBs⊕(YBs)) <|
 .br (decide ((x2.1.length:Int)<(64:Int))) (
 .chk (decide (x2.1.length+[((0:Int),())].length≤4294967296)) <|
 .leaf (.inl ((x2.1++[((0:Int),())]),()))) (
 .leaf (.inr x2))
def K5 (a0:YBs):Tree (YBs):=
 .br (decide ((a0.1.length:Int)>(1048576:Int))) (
 .leaf (([]:List YB),())) (
 .chk (decide (([]:List YB).length+a0.1.length≤4294967296)) <|
 .br (decide ((a0.1.length:Int)>(64:Int))) (
 .ob (Nr a0) fun r1=>
 .ob (Am G3 r1) fun o3=>
 .leaf o3) (
 .ob (Am G3 ((([]:List YB)++a0.1),())) fun o4=>
 .leaf o4))
def K6 (a0:YBs):Option (YBs):=(K5 a0).val
def G4 (x2:(List YB)×(List YB)×(List YB)×(List YB)×Int×Unit):Option (((List YB)×(List YB)×(List YB)×(List YB)×Int×Unit)⊕(((List YB)×(List YB)×(List YB)×Unit))):=
 letI u1:=x2.2.2.2;Tree.val (α:=((List YB)×(List YB)×(List YB)×(List YB)×Int×Unit)⊕(((List YB)×(List YB)×(List YB)×Unit))) <|
 .br (decide (u1.2.1<(64:Int))) (
 .ob (idx x2.2.1 u1.2.1) fun e3=>
 .chk (decide (x2.2.2.1.length+[((u8.wrap ((BitVec.ofInt (u8.bits) (e3.1) ^^^ BitVec.ofInt (u8.bits) ((54:Int))).toNat:Nat)),())].length≤4294967296)) <|
 .ob (idx x2.2.1 u1.2.1) fun e4=>
 .chk (decide (x2.2.2.2.1.length+[((u8.wrap ((BitVec.ofInt (u8.bits) (e4.1) ^^^ BitVec.ofInt (u8.bits) ((92:Int))).toNat:Nat)),())].length≤4294967296)) <|
 .leaf (.inl (x2.1,x2.2.1,(x2.2.2.1++[((u8.wrap ((BitVec.ofInt (u8.bits) (e3.1) ^^^ BitVec.ofInt (u8.bits) ((54:Int))).toNat:Nat)),())]),(u1.1++[((u8.wrap ((BitVec.ofInt (u8.bits) (e4.1) ^^^ BitVec.ofInt (u8.bits) ((92:Int))).toNat:Nat)),())]),(i64.wrap (u1.2.1+(1:Int))),()))) (
 .leaf (.inr (x2.1,x2.2.2.1,u1.1,())))
def Uc (a0:YBs) (a1:YBs):Tree (YBs):=
 .br (decide ((a0.1.length:Int)>(1048576:Int))) (
 .leaf (([]:List YB),())) (
 .br (decide ((a1.1.length:Int)>(1048512:Int))) (
 .leaf (([]:List YB),())) (
 .ob (K6 a0) fun r1=>
 .ob (Am G4 (a1.1,r1.1,([]:List YB),([]:List YB),(0:Int),())) fun o5=>
 .chk (decide (o5.2.1.length+o5.1.length≤4294967296)) <|
 .ob (Nr ((o5.2.1++o5.1),())) fun r6=>
 .chk (decide (o5.2.2.1.length+r6.1.length≤4294967296)) <|
 .ob (Nr ((o5.2.2.1++r6.1),())) fun r7=>
 .leaf r7))
def Jh (a0:YBs) (a1:YBs):Option (YBs):=(Uc a0 a1).val
def Xh (a0:YBs) (a1:YBs):Tree (YBs):=
 .ob (Jh a0 a1) fun r1=>
 .br (decide ((r1.1.length:Int)<(16:Int))) (
 .leaf (([]:List YB),())) (
 .chk (decide ((16:Int)≤(r1.1.length:Int))) <|
 .chk (decide (([]:List YB).length+((r1.1.take ((16:Int)).toNat).drop ((0:Int)).toNat).length≤4294967296)) <|
 .leaf ((([]:List YB)++((r1.1.take ((16:Int)).toNat).drop ((0:Int)).toNat)),()))
def Xi (a0:YBs) (a1:YBs):Option (YBs):=(Xh a0 a1).val
def E0 (x2:(List YB)×(List YB)×Int×(List YB)×(List YB)×Int×Unit):Option (((List YB)×(List YB)×Int×(List YB)×(List YB)×Int×Unit)⊕((Int×(List YB)×Unit))):=
 letI u1:=x2.2.2;letI u2:=u1.2.2;Tree.val (α:=((List YB)×(List YB)×Int×(List YB)×(List YB)×Int×Unit)⊕((Int×(List YB)×Unit))) <|
 .br (decide ((x2.2.2.2.1.length:Int)<u1.1)) (
 .chk (decide (([]:List YB).length+x2.2.2.2.2.1.length≤4294967296)) <|
 .chk (decide ((([]:List YB)++u2.1).length+x2.2.1.length≤4294967296)) <|
 .chk (decide (((([]:List YB)++u2.1)++x2.2.1).length+[((u8.wrap (u2.2.1)),())].length≤4294967296)) <|
 .ob (Jh (x2.1,()) ((((([]:List YB)++u2.1)++x2.2.1)++[((u8.wrap (u2.2.1)),())]),())) fun r3=>
 .chk (decide (x2.2.2.2.1.length+r3.1.length≤4294967296)) <|
 .leaf (.inl (x2.1,x2.2.1,u1.1,(u1.2.1++r3.1),r3.1,(i64.wrap (u2.2.1+(1:Int))),()))) (
 .leaf (.inr (u1.1,u1.2.1,())))
def Pe (a0:YBs) (a1:YBs) (a2:YI):Tree (YBs×(Bool×Unit)):=
 .ob (B7 a2 ((0:Int),()) ((8160:Int),())) fun r1=>
 .br (!r1.1) (
 .leaf ((([]:List YB),()),(false,()))) (
 .br (decide ((a1.1.length:Int)>(100:Int))) (
 .leaf ((([]:List YB),()),(false,()))) (
 .br (decide ((a0.1.length:Int)>(1048576:Int))) (
 .leaf ((([]:List YB),()),(false,()))) (
 .ob (Am E0 (a0.1,a1.1,a2.1,([]:List YB),([]:List YB),(1:Int),())) fun o4=>
 .chk (decide ((0:Int)≤o4.1)) <|
 .chk (decide (o4.1≤(o4.2.1.length:Int))) <|
 .chk (decide (([]:List YB).length+((o4.2.1.take (o4.1).toNat).drop ((0:Int)).toNat).length≤4294967296)) <|
 .leaf (((([]:List YB)++((o4.2.1.take (o4.1).toNat).drop ((0:Int)).toNat)),()),(true,())))))
def Pf (a0:YBs) (a1:YBs) (a2:YI):Option (YBs×(Bool×Unit)):=(Pe a0 a1 a2).val
def Pg (a0:YBs) (a1:ByteArray×Unit):Tree (YBs):=
 .chk (decide (a1.1.size≤4294967296)) <|
 .ob (Pf a0 ((Ke a1.1),()) ((32:Int),())) fun r1=>
 .leaf r1.1
def Kl (a0:YBs) (a1:ByteArray×Unit):Option (YBs):=(Pg a0 a1).val
def Nb (a0:YBs) (a1:YBs) (a2:YI):Tree (YBs):=
 .ob (B7 a2 ((0:Int),()) ((6:Int),())) fun r1=>
 .br (!r1.1) (
 .leaf (([]:List YB),())) (
 .br (decide ((a1.1.length:Int)>(100:Int))) (
 .leaf (([]:List YB),())) (
 .chk (decide ([((115:Int),())].length+a1.1.length≤4294967296)) <|
 .ob (Da (([((115:Int),())]++a1.1),()) a2 ((4:Int),())) fun r2=>
 .ob (Jh a0 r2) fun r3=>
 .leaf r3))
def Nc (a0:YBs) (a1:YBs) (a2:YI):Option (YBs):=(Nb a0 a1 a2).val
def E4 (x2:(List YB)×(List YB)×Int×(List YB)×Int×Unit):Option (((List YB)×(List YB)×Int×(List YB)×Int×Unit)⊕((Int×(List YB)×Unit))):=
 letI u1:=x2.2.2;Tree.val (α:=((List YB)×(List YB)×Int×(List YB)×Int×Unit)⊕((Int×(List YB)×Unit))) <|
 .br (decide ((x2.2.2.2.1.length:Int)<u1.1)) (
 .ob (Nc (x2.1,()) (x2.2.1,()) (u1.2.2.1,())) fun r3=>
 .chk (decide (x2.2.2.2.1.length+r3.1.length≤4294967296)) <|
 .leaf (.inl (x2.1,x2.2.1,u1.1,(u1.2.1++r3.1),(i64.wrap (u1.2.2.1+(1:Int))),()))) (
 .leaf (.inr (u1.1,u1.2.1,())))
def Ph (a0:YBs) (a1:YBs) (a2:YI):Tree (YBs):=
 .ob (B7 a2 ((0:Int),()) ((200:Int),())) fun r1=>
 .br (!r1.1) (
 .leaf (([]:List YB),())) (
 .br (decide ((a1.1.length:Int)>(100:Int))) (
 .leaf (([]:List YB),())) (
 .br (decide ((a0.1.length:Int)>(1048576:Int))) (
 .leaf (([]:List YB),())) (
 .ob (Am E4 (a0.1,a1.1,a2.1,([]:List YB),(0:Int),())) fun o4=>
 .chk (decide ((0:Int)≤o4.1)) <|
 .chk (decide (o4.1≤(o4.2.1.length:Int))) <|
 .chk (decide (([]:List YB).length+((o4.2.1.take (o4.1).toNat).drop ((0:Int)).toNat).length≤4294967296)) <|
 .leaf ((([]:List YB)++((o4.2.1.take (o4.1).toNat).drop ((0:Int)).toNat)),()))))
def Pi (a0:YBs) (a1:YBs) (a2:YI):Option (YBs):=(Ph a0 a1 a2).val
def H8 (x2:(List YB)×(List YB)×(List YB)×Int×Unit):Option (((List YB)×(List YB)×(List YB)×Int×Unit)⊕(YBs)):=
 letI u1:=x2.2.2;Tree.val (α:=((List YB)×(List YB)×(List YB)×Int×Unit)⊕(YBs)) <|
 .br (decide (u1.2.1<(x2.1.length:Int))) (
 .ob (idx x2.1 u1.2.1) fun e3=>
 .ob (idx u1.1 u1.2.1) fun e4=>
 .chk (decide (x2.2.1.length+[((u8.wrap ((BitVec.ofInt (u8.bits) (e3.1) ^^^ BitVec.ofInt (u8.bits) (e4.1)).toNat:Nat)),())].length≤4294967296)) <|
 .leaf (.inl (x2.1,(x2.2.1++[((u8.wrap ((BitVec.ofInt (u8.bits) (e3.1) ^^^ BitVec.ofInt (u8.bits) (e4.1)).toNat:Nat)),())]),u1.1,(i64.wrap (u1.2.1+(1:Int))),()))) (
 .leaf (.inr (x2.2.1,())))
def Xj (a0:YBs) (a1:YBs) (a2:YBs):Tree (YBs):=
 .br (decide ((a2.1.length:Int)>(200:Int))) (
 .leaf (([]:List YB),())) (
 .br (decide ((a1.1.length:Int)>(100:Int))) (
 .leaf (([]:List YB),())) (
 .br (decide ((a0.1.length:Int)>(1048576:Int))) (
 .leaf (([]:List YB),())) (
 .ob (Pi a0 a1 ((a2.1.length:Int),())) fun r1=>
 .ob (Am H8 (a2.1,([]:List YB),r1.1,(0:Int),())) fun o5=>
 .leaf o5)))
def Xk (a0:YBs) (a1:YBs) (a2:YBs):Option (YBs):=(Xj a0 a1 a2).val
def Ep (x14:(List YOp)×(List A5)×(List YBs)×(List YBs)×Int×Int×(List YB)×Int×Unit):Option (((List YOp)×(List A5)×(List YBs)×(List YBs)×Int×Int×(List YB)×Int×Unit)⊕(((List YOp)×(List A5)×(List YBs)×(List YBs)×Int×Int×(List YB)×Unit))):=
 letI u1:=x14.2.2.2;letI u2:=u1.2.2;Tree.val (α:=((List YOp)×(List A5)×(List YBs)×(List YBs)×Int×Int×(List YB)×Int×Unit)⊕(((List YOp)×(List A5)×(List YBs)×(List YBs)×Int×Int×(List YB)×Unit))) <|
 .ob (idx u1.1 u2.1) fun e15=>
 .br (decide (u2.2.2.1<(e15.1.length:Int))) (
 .ob (idx u1.1 u2.1) fun e16=>
 .ob (idx e16.1 u2.2.2.1) fun e17=>
 .ob (idx u1.1 (i64.wrap (u2.1+(1:Int)))) fun e18=>
 .ob (idx e18.1 u2.2.2.1) fun e19=>
 .chk (decide (x14.2.2.2.2.2.2.1.length+[((u8.wrap ((BitVec.ofInt (u8.bits) (e17.1) ^^^ BitVec.ofInt (u8.bits) (e19.1)).toNat:Nat)),())].length≤4294967296)) <|
 .leaf (.inl (x14.1,x14.2.1,x14.2.2.1,u1.1,u1.2.1,u2.1,(u2.2.1++[((u8.wrap ((BitVec.ofInt (u8.bits) (e17.1) ^^^ BitVec.ofInt (u8.bits) (e19.1)).toNat:Nat)),())]),(i64.wrap (u2.2.2.1+(1:Int))),()))) (
 .leaf (.inr (x14.1,x14.2.1,x14.2.2.1,u1.1,u1.2.1,u2.1,u2.2.1,())))
def Du (x1:(List YOp)×(List A5)×(List YBs)×(List YBs)×Int×Unit):Option (((List YOp)×(List A5)×(List YBs)×(List YBs)×Int×Unit)⊕(((List YB)×Bool×Unit)⊕((List YBs)×Unit))):=
 letI u1:=x1.2.2;letI u2:=u1.2.2;Tree.val (α:=((List YOp)×(List A5)×(List YBs)×(List YBs)×Int×Unit)⊕(((List YB)×Bool×Unit)⊕((List YBs)×Unit))) <|
 .br (decide (u2.1<(x1.1.length:Int))) (
 .ob (idx x1.1 u2.1) fun e2=>
 .ob (Pd e2) fun r3=>
 .br (!r3.1) (
 .leaf (.inr (.inl (([]:List YB),false,())))) (
 .ob (Bq (e2.1,())) fun r4=>
 .br (decide ((x1.2.2.2.1.length:Int)<r4.1)) (
 .leaf (.inr (.inl (([]:List YB),false,())))) (
 .ob (Bq (e2.1,())) fun r5=>
 .br (e2.1==(1:Int)) (
 .chk (decide (([]:List YB).length+e2.2.2.2.1.length≤4294967296)) <|
 .br (decide (((([]:List YB)++e2.2.2.2.1).length:Int)>(200:Int))) (
 .leaf (.inr (.inl (([]:List YB),false,())))) (
 .br ((i64.wrap ((x1.2.2.2.1.length:Int)-r5.1))==(8:Int)) (
 .leaf (.inr (.inl (([]:List YB),false,())))) (
 .chk (decide ((0:Int)≤(i64.wrap ((x1.2.2.2.1.length:Int)-r5.1)))) <|
 .chk (decide ((i64.wrap ((x1.2.2.2.1.length:Int)-r5.1))≤(x1.2.2.2.1.length:Int))) <|
 .chk (decide (((x1.2.2.2.1.take ((i64.wrap ((x1.2.2.2.1.length:Int)-r5.1))).toNat).drop ((0:Int)).toNat).length+[((([]:List YB)++e2.2.2.2.1),())].length≤4294967296)) <|
 .leaf (.inl (x1.1,x1.2.1,u1.1,(((x1.2.2.2.1.take ((i64.wrap ((x1.2.2.2.1.length:Int)-r5.1))).toNat).drop ((0:Int)).toNat)++[((([]:List YB)++e2.2.2.2.1),())]),(i64.wrap (u2.1+(1:Int))),()))))) (
 .br (e2.1==(2:Int)) (
 .br (decide (e2.2.1≥(x1.2.1.length:Int))) (
 .leaf (.inr (.inl (([]:List YB),false,())))) (
 .ob (idx x1.2.1 e2.2.1) fun e6=>letI u3:=e6.2.2.2.2;
 .chk (decide (([]:List YB).length+e6.2.2.2.2.1.length≤4294967296)) <|
 .br (decide (((([]:List YB)++u3.1).length:Int)>(200:Int))) (
 .leaf (.inr (.inl (([]:List YB),false,())))) (
 .br ((i64.wrap ((x1.2.2.2.1.length:Int)-r5.1))==(8:Int)) (
 .leaf (.inr (.inl (([]:List YB),false,())))) (
 .chk (decide ((0:Int)≤(i64.wrap ((x1.2.2.2.1.length:Int)-r5.1)))) <|
 .chk (decide ((i64.wrap ((x1.2.2.2.1.length:Int)-r5.1))≤(x1.2.2.2.1.length:Int))) <|
 .chk (decide (((x1.2.2.2.1.take ((i64.wrap ((x1.2.2.2.1.length:Int)-r5.1))).toNat).drop ((0:Int)).toNat).length+[((([]:List YB)++u3.1),())].length≤4294967296)) <|
 .leaf (.inl (x1.1,x1.2.1,u1.1,(((x1.2.2.2.1.take ((i64.wrap ((x1.2.2.2.1.length:Int)-r5.1))).toNat).drop ((0:Int)).toNat)++[((([]:List YB)++u3.1),())]),(i64.wrap (u2.1+(1:Int))),())))))) (
 .br (e2.1==(3:Int)) (
 .br (decide (e2.2.1≥(x1.2.2.1.length:Int))) (
 .leaf (.inr (.inl (([]:List YB),false,())))) (
 .ob (idx u1.1 e2.2.1) fun e7=>
 .chk (decide (([]:List YB).length+e7.1.length≤4294967296)) <|
 .br (decide (((([]:List YB)++e7.1).length:Int)>(200:Int))) (
 .leaf (.inr (.inl (([]:List YB),false,())))) (
 .br ((i64.wrap ((x1.2.2.2.1.length:Int)-r5.1))==(8:Int)) (
 .leaf (.inr (.inl (([]:List YB),false,())))) (
 .chk (decide ((0:Int)≤(i64.wrap ((x1.2.2.2.1.length:Int)-r5.1)))) <|
 .chk (decide ((i64.wrap ((x1.2.2.2.1.length:Int)-r5.1))≤(x1.2.2.2.1.length:Int))) <|
 .chk (decide (((x1.2.2.2.1.take ((i64.wrap ((x1.2.2.2.1.length:Int)-r5.1))).toNat).drop ((0:Int)).toNat).length+[((([]:List YB)++e7.1),())].length≤4294967296)) <|
 .leaf (.inl (x1.1,x1.2.1,u1.1,(((x1.2.2.2.1.take ((i64.wrap ((x1.2.2.2.1.length:Int)-r5.1))).toNat).drop ((0:Int)).toNat)++[((([]:List YB)++e7.1),())]),(i64.wrap (u2.1+(1:Int))),())))))) (
 .br (e2.1==(4:Int)) (
 .ob (idx u1.2.1 (i64.wrap ((x1.2.2.2.1.length:Int)-r5.1))) fun e8=>
 .ob (Xc e8 (e2.2.1,()) (e2.2.2.1,())) fun r9=>
 .br (!r9.2.1) (
 .leaf (.inr (.inl (([]:List YB),false,())))) (
 .br (decide ((r9.1.1.length:Int)>(200:Int))) (
 .leaf (.inr (.inl (([]:List YB),false,())))) (
 .br ((i64.wrap ((x1.2.2.2.1.length:Int)-r5.1))==(8:Int)) (
 .leaf (.inr (.inl (([]:List YB),false,())))) (
 .chk (decide ((0:Int)≤(i64.wrap ((x1.2.2.2.1.length:Int)-r5.1)))) <|
 .chk (decide ((i64.wrap ((x1.2.2.2.1.length:Int)-r5.1))≤(x1.2.2.2.1.length:Int))) <|
 .chk (decide (((x1.2.2.2.1.take ((i64.wrap ((x1.2.2.2.1.length:Int)-r5.1))).toNat).drop ((0:Int)).toNat).length+[r9.1].length≤4294967296)) <|
 .leaf (.inl (x1.1,x1.2.1,u1.1,(((x1.2.2.2.1.take ((i64.wrap ((x1.2.2.2.1.length:Int)-r5.1))).toNat).drop ((0:Int)).toNat)++[r9.1]),(i64.wrap (u2.1+(1:Int))),())))))) (
 .br (e2.1==(5:Int)) (
 .ob (idx u1.2.1 (i64.wrap ((x1.2.2.2.1.length:Int)-r5.1))) fun e10=>
 .chk (decide (([]:List YB).length+e10.1.length≤4294967296)) <|
 .ob (idx u1.2.1 (i64.wrap ((i64.wrap ((x1.2.2.2.1.length:Int)-r5.1))+(1:Int)))) fun e11=>
 .chk (decide ((([]:List YB)++e10.1).length+e11.1.length≤4294967296)) <|
 .br (decide ((((([]:List YB)++e10.1)++e11.1).length:Int)>(200:Int))) (
 .leaf (.inr (.inl (([]:List YB),false,())))) (
 .br ((i64.wrap ((x1.2.2.2.1.length:Int)-r5.1))==(8:Int)) (
 .leaf (.inr (.inl (([]:List YB),false,())))) (
 .chk (decide ((0:Int)≤(i64.wrap ((x1.2.2.2.1.length:Int)-r5.1)))) <|
 .chk (decide ((i64.wrap ((x1.2.2.2.1.length:Int)-r5.1))≤(x1.2.2.2.1.length:Int))) <|
 .chk (decide (((x1.2.2.2.1.take ((i64.wrap ((x1.2.2.2.1.length:Int)-r5.1))).toNat).drop ((0:Int)).toNat).length+[(((([]:List YB)++e10.1)++e11.1),())].length≤4294967296)) <|
 .leaf (.inl (x1.1,x1.2.1,u1.1,(((x1.2.2.2.1.take ((i64.wrap ((x1.2.2.2.1.length:Int)-r5.1))).toNat).drop ((0:Int)).toNat)++[(((([]:List YB)++e10.1)++e11.1),())]),(i64.wrap (u2.1+(1:Int))),()))))) (
 .br (e2.1==(6:Int)) (
 .ob (idx u1.2.1 (i64.wrap ((x1.2.2.2.1.length:Int)-r5.1))) fun e12=>
 .ob (idx u1.2.1 (i64.wrap ((i64.wrap ((x1.2.2.2.1.length:Int)-r5.1))+(1:Int)))) fun e13=>
 .br ((e12.1.length:Int) != (e13.1.length:Int)) (
 .leaf (.inr (.inl (([]:List YB),false,())))) (
 .ob (Am Ep (x1.1,x1.2.1,u1.1,u1.2.1,u2.1,(i64.wrap ((x1.2.2.2.1.length:Int)-r5.1)),([]:List YB),(0:Int),())) fun o20=>letI u4:=o20.2.2.2.2.2;
 .br (decide ((o20.2.2.2.2.2.2.1.length:Int)>(200:Int))) (
 .leaf (.inr (.inl (([]:List YB),false,())))) (
 .br (u4.1==(8:Int)) (
 .leaf (.inr (.inl (([]:List YB),false,())))) (
 .chk (decide ((0:Int)≤u4.1)) <|
 .chk (decide (u4.1≤(o20.2.2.2.1.length:Int))) <|
 .chk (decide (((o20.2.2.2.1.take (u4.1).toNat).drop ((0:Int)).toNat).length+[(u4.2.1,())].length≤4294967296)) <|
 .leaf (.inl (o20.1,o20.2.1,o20.2.2.1,(((o20.2.2.2.1.take (u4.1).toNat).drop ((0:Int)).toNat)++[(u4.2.1,())]),(i64.wrap (o20.2.2.2.2.1+(1:Int))),())))))) (
 .br (e2.1==(7:Int)) (
 .ob (idx u1.2.1 (i64.wrap ((x1.2.2.2.1.length:Int)-r5.1))) fun e21=>
 .ob (idx u1.2.1 (i64.wrap ((i64.wrap ((x1.2.2.2.1.length:Int)-r5.1))+(1:Int)))) fun e22=>
 .ob (Jh e21 e22) fun r23=>
 .br (decide ((r23.1.length:Int)>(200:Int))) (
 .leaf (.inr (.inl (([]:List YB),false,())))) (
 .br ((i64.wrap ((x1.2.2.2.1.length:Int)-r5.1))==(8:Int)) (
 .leaf (.inr (.inl (([]:List YB),false,())))) (
 .chk (decide ((0:Int)≤(i64.wrap ((x1.2.2.2.1.length:Int)-r5.1)))) <|
 .chk (decide ((i64.wrap ((x1.2.2.2.1.length:Int)-r5.1))≤(x1.2.2.2.1.length:Int))) <|
 .chk (decide (((x1.2.2.2.1.take ((i64.wrap ((x1.2.2.2.1.length:Int)-r5.1))).toNat).drop ((0:Int)).toNat).length+[r23].length≤4294967296)) <|
 .leaf (.inl (x1.1,x1.2.1,u1.1,(((x1.2.2.2.1.take ((i64.wrap ((x1.2.2.2.1.length:Int)-r5.1))).toNat).drop ((0:Int)).toNat)++[r23]),(i64.wrap (u2.1+(1:Int))),()))))) (
 .br (e2.1==(8:Int)) (
 .ob (idx u1.2.1 (i64.wrap ((x1.2.2.2.1.length:Int)-r5.1))) fun e24=>
 .ob (idx u1.2.1 (i64.wrap ((i64.wrap ((x1.2.2.2.1.length:Int)-r5.1))+(1:Int)))) fun e25=>
 .ob (Xi e24 e25) fun r26=>
 .br (decide ((r26.1.length:Int)>(200:Int))) (
 .leaf (.inr (.inl (([]:List YB),false,())))) (
 .br ((i64.wrap ((x1.2.2.2.1.length:Int)-r5.1))==(8:Int)) (
 .leaf (.inr (.inl (([]:List YB),false,())))) (
 .chk (decide ((0:Int)≤(i64.wrap ((x1.2.2.2.1.length:Int)-r5.1)))) <|
 .chk (decide ((i64.wrap ((x1.2.2.2.1.length:Int)-r5.1))≤(x1.2.2.2.1.length:Int))) <|
 .chk (decide (((x1.2.2.2.1.take ((i64.wrap ((x1.2.2.2.1.length:Int)-r5.1))).toNat).drop ((0:Int)).toNat).length+[r26].length≤4294967296)) <|
 .leaf (.inl (x1.1,x1.2.1,u1.1,(((x1.2.2.2.1.take ((i64.wrap ((x1.2.2.2.1.length:Int)-r5.1))).toNat).drop ((0:Int)).toNat)++[r26]),(i64.wrap (u2.1+(1:Int))),()))))) (
 .br (e2.1==(9:Int)) (
 .ob (idx u1.2.1 (i64.wrap ((x1.2.2.2.1.length:Int)-r5.1))) fun e27=>
 .ob (Kl e27 ((F9 [114,101,107,101,121]),())) fun r28=>
 .br (decide ((r28.1.length:Int)>(200:Int))) (
 .leaf (.inr (.inl (([]:List YB),false,())))) (
 .br ((i64.wrap ((x1.2.2.2.1.length:Int)-r5.1))==(8:Int)) (
 .leaf (.inr (.inl (([]:List YB),false,())))) (
 .chk (decide ((0:Int)≤(i64.wrap ((x1.2.2.2.1.length:Int)-r5.1)))) <|
 .chk (decide ((i64.wrap ((x1.2.2.2.1.length:Int)-r5.1))≤(x1.2.2.2.1.length:Int))) <|
 .chk (decide (((x1.2.2.2.1.take ((i64.wrap ((x1.2.2.2.1.length:Int)-r5.1))).toNat).drop ((0:Int)).toNat).length+[r28].length≤4294967296)) <|
 .leaf (.inl (x1.1,x1.2.1,u1.1,(((x1.2.2.2.1.take ((i64.wrap ((x1.2.2.2.1.length:Int)-r5.1))).toNat).drop ((0:Int)).toNat)++[r28]),(i64.wrap (u2.1+(1:Int))),()))))) (
 .br (e2.1==(10:Int)) (
 .ob (idx u1.2.1 (i64.wrap ((x1.2.2.2.1.length:Int)-r5.1))) fun e29=>
 .ob (idx u1.2.1 (i64.wrap ((i64.wrap ((x1.2.2.2.1.length:Int)-r5.1))+(1:Int)))) fun e30=>
 .ob (idx u1.2.1 (i64.wrap ((i64.wrap ((x1.2.2.2.1.length:Int)-r5.1))+(2:Int)))) fun e31=>
 .ob (Xk e29 e30 e31) fun r32=>
 .br (decide ((r32.1.length:Int)>(200:Int))) (
 .leaf (.inr (.inl (([]:List YB),false,())))) (
 .br ((i64.wrap ((x1.2.2.2.1.length:Int)-r5.1))==(8:Int)) (
 .leaf (.inr (.inl (([]:List YB),false,())))) (
 .chk (decide ((0:Int)≤(i64.wrap ((x1.2.2.2.1.length:Int)-r5.1)))) <|
 .chk (decide ((i64.wrap ((x1.2.2.2.1.length:Int)-r5.1))≤(x1.2.2.2.1.length:Int))) <|
 .chk (decide (((x1.2.2.2.1.take ((i64.wrap ((x1.2.2.2.1.length:Int)-r5.1))).toNat).drop ((0:Int)).toNat).length+[r32].length≤4294967296)) <|
 .leaf (.inl (x1.1,x1.2.1,u1.1,(((x1.2.2.2.1.take ((i64.wrap ((x1.2.2.2.1.length:Int)-r5.1))).toNat).drop ((0:Int)).toNat)++[r32]),(i64.wrap (u2.1+(1:Int))),()))))) (
 .br (decide ((([]:List YB).length:Int)>(200:Int))) (
 .leaf (.inr (.inl (([]:List YB),false,())))) (
 .br ((i64.wrap ((x1.2.2.2.1.length:Int)-r5.1))==(8:Int)) (
 .leaf (.inr (.inl (([]:List YB),false,())))) (
 .chk (decide ((0:Int)≤(i64.wrap ((x1.2.2.2.1.length:Int)-r5.1)))) <|
 .chk (decide ((i64.wrap ((x1.2.2.2.1.length:Int)-r5.1))≤(x1.2.2.2.1.length:Int))) <|
 .chk (decide (((x1.2.2.2.1.take ((i64.wrap ((x1.2.2.2.1.length:Int)-r5.1))).toNat).drop ((0:Int)).toNat).length+[(([]:List YB),())].length≤4294967296)) <|
 .leaf (.inl (x1.1,x1.2.1,u1.1,(((x1.2.2.2.1.take ((i64.wrap ((x1.2.2.2.1.length:Int)-r5.1))).toNat).drop ((0:Int)).toNat)++[(([]:List YB),())]),(i64.wrap (u2.1+(1:Int))),()))))))))))))))))) (
 .leaf (.inr (.inr (u1.2.1,()))))
def Pj (a0:(List YOp)×Unit) (a1:(List A5)×Unit) (a2:(List YBs)×Unit):Tree (YBs×(Bool×Unit)):=
 .br (decide ((a0.1.length:Int)>(16:Int))) (
 .leaf ((([]:List YB),()),(false,()))) (
 .ob (Am Du (a0.1,a1.1,a2.1,([]:List YBs),(0:Int),())) fun o33=>
 .sm o33 (fun o34=>
 .leaf ((o34.1,()),(o34.2.1,()))) (fun o35=>
 .br ((o35.1.length:Int) != (1:Int)) (
 .leaf ((([]:List YB),()),(false,()))) (
 .ob (idx o35.1 (0:Int)) fun e36=>
 .chk (decide (([]:List YB).length+e36.1.length≤4294967296)) <|
 .leaf (((([]:List YB)++e36.1),()),(true,())))))
def Ud (a0:(List YOp)×Unit) (a1:(List A5)×Unit) (a2:(List YBs)×Unit):Option (YBs×(Bool×Unit)):=(Pj a0 a1 a2).val
def Ue (a0:YBs) (a1:YBs):Tree ((Bool×Unit)):=
 .leaf ((decide ((Q9 a0.1)=(Q9 a1.1))),())
def K7 (a0:YBs) (a1:YBs):Option ((Bool×Unit)):=(Ue a0 a1).val
def Hf (a0:YBs):Tree ((Bool×Unit)):=
 .ob (Aef a0) fun r1=>
 .br r1.1 (
 .leaf (true,())) (
 .ob (Ky a0) fun r2=>
 .ob (Co r2.1 r2.2.1 r2.2.2) fun r3=>
 .ob (Ud r2.1 r2.2.1 r2.2.2) fun r4=>
 .br (!(r3.2.1==r4.2.1)) (
 .leaf (false,())) (
 .ob (K7 r3.1 r4.1) fun r5=>
 .br (!r5.1) (
 .leaf (false,())) (
 .br (decide ((r3.1.1.length:Int)>(200:Int))) (
 .leaf (false,())) (
 .br (!r3.2.1) (
 .br r3.2.1 (
 .leaf (true,())) (
 .leaf (((r3.1.1.length:Int)==(0:Int)),()))) (
 .br (decide ((r2.1.1.length:Int)≥(16:Int))) (
 .br r3.2.1 (
 .leaf (true,())) (
 .leaf (((r3.1.1.length:Int)==(0:Int)),()))) (
 .chk (decide (([]:List YOp).length+r2.1.1.length≤4294967296)) <|
 .chk (decide ((([]:List YOp)++r2.1.1).length+[((9:Int),(0:Int),(0:Int),([]:List YB),())].length≤4294967296)) <|
 .ob (Co (((([]:List YOp)++r2.1.1)++[((9:Int),(0:Int),(0:Int),([]:List YB),())]),()) r2.2.1 r2.2.2) fun r6=>
 .chk (decide (([]:List YOp).length+r2.1.1.length≤4294967296)) <|
 .chk (decide ((([]:List YOp)++r2.1.1).length+[((4:Int),(0:Int),(r3.1.1.length:Int),([]:List YB),())].length≤4294967296)) <|
 .ob (Co (((([]:List YOp)++r2.1.1)++[((4:Int),(0:Int),(r3.1.1.length:Int),([]:List YB),())]),()) r2.2.1 r2.2.2) fun r7=>
 .br r6.2.1 (
 .ob (Fk r3.1 ((F9 [114,101,107,101,121]),())) fun r8=>
 .ob (K7 r6.1 r8) fun r9=>
 .br r9.1 (
 .br r7.2.1 (
 .ob (K7 r7.1 r3.1) fun r10=>
 .leaf r10) (
 .leaf (false,()))) (
 .leaf (false,()))) (
 .leaf (false,()))))))))
def Tc (a0:YBs):Option ((Bool×Unit)):=(Hf a0).val
end
end Go.Proofs.Ytmhhajdeafijmaa

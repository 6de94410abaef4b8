/-
  What the functions of the seat answer, as plain terms (printed by a program, proved in the texts P); nothing is assumed.
-/
import Derived.Test.YthccfdmiejmbaaaGreatW0
namespace Go.Proofs.YthccfdmiejmbaaaGreat
open Go.RowKit IntKind
set_option linter.unusedVariables false
set_option maxRecDepth 100000
set_option maxHeartbeats 4000000
noncomputable section
def Zi (a0:YBs):Tree (Ap×(Bool×Unit)):=
 .ob (D6 a0 (1,())) fun r1=>letI k1:=(r1.1.1,(0:Int),([]:List YB),([]:List YB),(0:Int),([]:List YB),([]:List YB),(0:Int),(0:Int),([]:List YB),([]:List YB),());letI k12:=r1.1.1==(3:Int);letI k13:=Co r1.2 ((12:Int),());letI k14:=D6 r1.2 ((1:Int),());
 .br (r1.1.1==1) (
 .ob k14 fun r2=>
 .ob (Co r2.2 (12,())) fun r3=>letI k2:=(r1.1.1,r2.1.1,r3.1.1,([]:List YB),(0:Int),([]:List YB),([]:List YB),(0:Int),(0:Int),([]:List YB),([]:List YB),());
 .ob (Dn k2) fun r4=>
 .br (!r4.1) (
 .leaf ((0,0,[],[],0,[],[],0,0,[],[],()),(false,()))) (
 .ob (El k2) fun r5=>
 .ob (B7 r5 a0) fun r6=>
 .br (!r6.1) (
 .leaf ((0,0,[],[],0,[],[],0,0,[],[],()),(false,()))) (
 .leaf (k2,(true,()))))) (
 .br (r1.1.1==2) (
 .br k12 (
 .ob k14 fun r7=>
 .ob (Co r7.2 (12,())) fun r8=>
 .ob (Co r8.2 (12,())) fun r9=>
 .ob (D6 r9.2 (4,())) fun r10=>
 .ob (Co r10.2 (16,())) fun r11=>letI k7:=(r1.1.1,r7.1.1,r8.1.1,r9.1.1,r10.1.1,r11.1.1,([]:List YB),(0:Int),(0:Int),([]:List YB),([]:List YB),());
 .br k12 (
 .ob (Co r11.2 (16,())) fun r12=>letI k11:=(r1.1.1,r7.1.1,r8.1.1,r9.1.1,r10.1.1,r11.1.1,r12.1.1,(0:Int),(0:Int),([]:List YB),([]:List YB),());
 .ob (Dn k11) fun r13=>
 .br (!r13.1) (
 .leaf ((0,0,[],[],0,[],[],0,0,[],[],()),(false,()))) (
 .ob (El k11) fun r14=>
 .ob (B7 r14 a0) fun r15=>
 .br (!r15.1) (
 .leaf ((0,0,[],[],0,[],[],0,0,[],[],()),(false,()))) (
 .leaf (k11,(true,()))))) (
 .ob (Dn k7) fun r16=>
 .br (!r16.1) (
 .leaf ((0,0,[],[],0,[],[],0,0,[],[],()),(false,()))) (
 .ob (El k7) fun r17=>
 .ob (B7 r17 a0) fun r18=>
 .br (!r18.1) (
 .leaf ((0,0,[],[],0,[],[],0,0,[],[],()),(false,()))) (
 .leaf (k7,(true,())))))) (
 .ob k13 fun r19=>
 .ob (Co r19.2 (12,())) fun r20=>
 .ob (D6 r20.2 (4,())) fun r21=>
 .ob (Co r21.2 (16,())) fun r22=>letI k3:=(r1.1.1,(0:Int),r19.1.1,r20.1.1,r21.1.1,r22.1.1,([]:List YB),(0:Int),(0:Int),([]:List YB),([]:List YB),());
 .br k12 (
 .ob (Co r22.2 (16,())) fun r23=>letI k8:=(r1.1.1,(0:Int),r19.1.1,r20.1.1,r21.1.1,r22.1.1,r23.1.1,(0:Int),(0:Int),([]:List YB),([]:List YB),());
 .ob (Dn k8) fun r24=>
 .br (!r24.1) (
 .leaf ((0,0,[],[],0,[],[],0,0,[],[],()),(false,()))) (
 .ob (El k8) fun r25=>
 .ob (B7 r25 a0) fun r26=>
 .br (!r26.1) (
 .leaf ((0,0,[],[],0,[],[],0,0,[],[],()),(false,()))) (
 .leaf (k8,(true,()))))) (
 .ob (Dn k3) fun r27=>
 .br (!r27.1) (
 .leaf ((0,0,[],[],0,[],[],0,0,[],[],()),(false,()))) (
 .ob (El k3) fun r28=>
 .ob (B7 r28 a0) fun r29=>
 .br (!r29.1) (
 .leaf ((0,0,[],[],0,[],[],0,0,[],[],()),(false,()))) (
 .leaf (k3,(true,()))))))) (
 .br k12 (
 .br k12 (
 .ob k14 fun r30=>
 .ob (Co r30.2 (12,())) fun r31=>
 .ob (Co r31.2 (12,())) fun r32=>
 .ob (D6 r32.2 (4,())) fun r33=>
 .ob (Co r33.2 (16,())) fun r34=>letI k4:=(r1.1.1,r30.1.1,r31.1.1,r32.1.1,r33.1.1,r34.1.1,([]:List YB),(0:Int),(0:Int),([]:List YB),([]:List YB),());
 .br k12 (
 .ob (Co r34.2 (16,())) fun r35=>letI k9:=(r1.1.1,r30.1.1,r31.1.1,r32.1.1,r33.1.1,r34.1.1,r35.1.1,(0:Int),(0:Int),([]:List YB),([]:List YB),());
 .ob (Dn k9) fun r36=>
 .br (!r36.1) (
 .leaf ((0,0,[],[],0,[],[],0,0,[],[],()),(false,()))) (
 .ob (El k9) fun r37=>
 .ob (B7 r37 a0) fun r38=>
 .br (!r38.1) (
 .leaf ((0,0,[],[],0,[],[],0,0,[],[],()),(false,()))) (
 .leaf (k9,(true,()))))) (
 .ob (Dn k4) fun r39=>
 .br (!r39.1) (
 .leaf ((0,0,[],[],0,[],[],0,0,[],[],()),(false,()))) (
 .ob (El k4) fun r40=>
 .ob (B7 r40 a0) fun r41=>
 .br (!r41.1) (
 .leaf ((0,0,[],[],0,[],[],0,0,[],[],()),(false,()))) (
 .leaf (k4,(true,())))))) (
 .ob k13 fun r42=>
 .ob (Co r42.2 (12,())) fun r43=>
 .ob (D6 r43.2 (4,())) fun r44=>
 .ob (Co r44.2 (16,())) fun r45=>letI k5:=(r1.1.1,(0:Int),r42.1.1,r43.1.1,r44.1.1,r45.1.1,([]:List YB),(0:Int),(0:Int),([]:List YB),([]:List YB),());
 .br k12 (
 .ob (Co r45.2 (16,())) fun r46=>letI k10:=(r1.1.1,(0:Int),r42.1.1,r43.1.1,r44.1.1,r45.1.1,r46.1.1,(0:Int),(0:Int),([]:List YB),([]:List YB),());
 .ob (Dn k10) fun r47=>
 .br (!r47.1) (
 .leaf ((0,0,[],[],0,[],[],0,0,[],[],()),(false,()))) (
 .ob (El k10) fun r48=>
 .ob (B7 r48 a0) fun r49=>
 .br (!r49.1) (
 .leaf ((0,0,[],[],0,[],[],0,0,[],[],()),(false,()))) (
 .leaf (k10,(true,()))))) (
 .ob (Dn k5) fun r50=>
 .br (!r50.1) (
 .leaf ((0,0,[],[],0,[],[],0,0,[],[],()),(false,()))) (
 .ob (El k5) fun r51=>
 .ob (B7 r51 a0) fun r52=>
 .br (!r52.1) (
 .leaf ((0,0,[],[],0,[],[],0,0,[],[],()),(false,()))) (
 .leaf (k5,(true,()))))))) (
 .ob (M6 r1.1) fun r53=>
 .br r53.1 (
 .ob k13 fun r54=>
 .ob (D6 r54.2 (4,())) fun r55=>
 .ob (D6 r55.2 (6,())) fun r56=>
 .ob (Co r56.2 (16,())) fun r57=>
 .ob (Co r57.2 (41,())) fun r58=>letI k6:=(r1.1.1,(0:Int),([]:List YB),r54.1.1,(0:Int),([]:List YB),([]:List YB),r55.1.1,r56.1.1,r58.1.1,r57.1.1,());
 .ob (Dn k6) fun r59=>
 .br (!r59.1) (
 .leaf ((0,0,[],[],0,[],[],0,0,[],[],()),(false,()))) (
 .ob (El k6) fun r60=>
 .ob (B7 r60 a0) fun r61=>
 .br (!r61.1) (
 .leaf ((0,0,[],[],0,[],[],0,0,[],[],()),(false,()))) (
 .leaf (k6,(true,()))))) (
 .ob (Dn k1) fun r62=>
 .br (!r62.1) (
 .leaf ((0,0,[],[],0,[],[],0,0,[],[],()),(false,()))) (
 .ob (El k1) fun r63=>
 .ob (B7 r63 a0) fun r64=>
 .br (!r64.1) (
 .leaf ((0,0,[],[],0,[],[],0,0,[],[],()),(false,()))) (
 .leaf (k1,(true,()))))))))
def Jm a0:=(Zi a0).val
def Zj:Lst (List Al×Int×Int×Int×Int×Unit) ((Bool×Unit)⊕(Unit)):=fun x1=>
 letI u1:=x1.2.2;letI k1:=(x1.1,x1.2.1,i64.wrap (u1.1+(1:Int)),u1.2.1,u1.2.2.1,());Tree.val <|
 .br (decide (u1.1<x1.2.1)) (
 .ob (idx x1.1 u1.1) fun e2=>letI u2:=e2.2.2.2.2.2.2.2.2.2.2.2.2.2.2.2.2.2.2;
 .br (!u2.2.2.2.2.2.1) (
 .br (and (u2.1==u1.2.1) (and (u2.2.1==u1.2.2.1) true)) (
 .leaf (.inr (.inl (true,())))) (
 .leaf (.inl k1))) (
 .leaf (.inl k1))) (
 .leaf (.inr (.inr ())))
def A4l (a0:Ck) (a1:A8):Tree (Bool×Unit):=
 .ob (A0 Zj (a0.2.1,(a0.2.1.length:Int),0,a1.1,a1.2.1,())) fun o3=>
 .sm o3 (fun o4=>
 .leaf o4) (fun o5=>
 .leaf (false,()))
def Abq a0 a1:=(A4l a0 a1).val
def Acu (a0:List An×Unit) (a1:A8):Tree (YI):=
 .ob (Oo a0 a1) fun r1=>
 .ob (Mo a0) fun r2=>
 .br (!r2.1) (
 .leaf (0,())) (
 .br (decide (r1.1<0)) (
 .leaf (0,())) (
 .ob (idx a0.1 r1.1) fun e3=>
 .ob (idx a0.1 r1.1) fun e4=>
 .leaf (i64.wrap (i64.wrap (3*e3.2.2.1)-e4.2.2.2.1),())))
def K6 a0 a1:=(Acu a0 a1).val
def Asg (a0:Bc) (a1:A8) (a2:YI):Tree (Bool×Unit):=
 letI u1:=a0.2.2.2.2;.ob (Abq (u1.1,u1.2.1,()) a1) fun r1=>
 .br r1.1 (
 .leaf (true,())) (
 .ob (K6 (u1.2.2.1,()) a1) fun r2=>
 .leaf (decide (r2.1≥a2.1),()))
def Af3 a0 a1 a2:=(Asg a0 a1 a2).val
def Bcx:Tree (List YI×Unit):=
 .leaf ([(1779033703,()),(3144134277,()),(1013904242,()),(2773480762,()),(1359893119,()),(2600822924,()),(528734635,()),(1541459225,())],())
def Bqu:=Bcx.val
def A2l:Tree (Rg):=
 .ob Bqu fun r1=>
 .leaf (r1.1,[],0,())
def A26:=A2l.val
def Asi (a0:Rg):Tree (Bool×Unit):=
 .ob (Ss (a0.1,()) (8,())) fun r1=>
 .br r1.1 (
 .ob (Bl (a0.2.2.1,()) (0,()) (1048576,())) fun r2=>
 .br r2.1 (
 .chk (decide (0<=a0.2.2.1)) <|
 .leaf ((a0.2.2.1%64)==(a0.2.1.length:Int),())) (
 .leaf (false,()))) (
 .leaf (false,()))
def Af4 a0:=(Asi a0).val
def Bal (a0 a1:YI):Tree (YI):=
 letI k1:=i64.wrap ((BitVec.ofInt i64.bits a0.1 &&& BitVec.ofInt i64.bits (4294967295:Int)).toNat:Nat);letI k2:=i64.wrap ((32:Int)-a1.1); .br (decide (a1.1<0)) (
 .leaf (k1,())) (
 .br (decide (a1.1>31)) (
 .leaf (k1,())) (
 .chk (decide (0<=a1.1)) <|
 .chk (decide (0<=k2)) <|
 .leaf (i64.wrap ((BitVec.ofInt i64.bits (i64.wrap ((BitVec.ofInt i64.bits (Int.fdiv k1 (2^(min (a1.1).toNat i64.bits))) ||| BitVec.ofInt i64.bits (i64.wrap (k1*2^(min (k2).toNat i64.bits)))).toNat:Nat)) &&& BitVec.ofInt i64.bits 4294967295).toNat:Nat),())))
def Mq a0 a1:=(Bal a0 a1).val
def Lh:Lst (List YB×List YI×Int×Unit) (List YI×Unit):=fun x1=>
 letI u1:=x1.2.2;Tree.val <|
 .br (decide (u1.1<16)) (
 .ob (Atr (x1.1,()) (i64.wrap (4*u1.1),()) (4,())) fun r2=>
 .ob (idx x1.2.1 u1.1) fun e3=>
 let q4:=(x1.2.1.set (u1.1).toNat r2.1)
 .leaf (.inl (x1.1,q4,i64.wrap (u1.1+1),()))) (
 .leaf (.inr (x1.2.1,())))
def Li:Lst (List YI×Int×Unit) (List YI×Unit):=fun x6=>
 Tree.val <|
 .br (decide (x6.2.1<64)) (
 .ob (idx x6.1 (i64.wrap (x6.2.1-15))) fun e7=>
 .ob (idx x6.1 (i64.wrap (x6.2.1-2))) fun e8=>
 .ob (Mq e7 (7,())) fun r9=>
 .ob (Mq e7 (18,())) fun r10=>
 .ob (Mq e8 (17,())) fun r11=>
 .ob (Mq e8 (19,())) fun r12=>
 .ob (idx x6.1 (i64.wrap (x6.2.1-7))) fun e13=>
 .ob (idx x6.1 (i64.wrap (x6.2.1-16))) fun e14=>
 .ob (idx x6.1 x6.2.1) fun e15=>
 let q16:=(x6.1.set (x6.2.1).toNat (i64.wrap ((BitVec.ofInt i64.bits (i64.wrap (i64.wrap (i64.wrap (e13.1+e14.1)+i64.wrap ((BitVec.ofInt i64.bits (i64.wrap ((BitVec.ofInt i64.bits r9.1 ^^^ BitVec.ofInt i64.bits r10.1).toNat:Nat)) ^^^ BitVec.ofInt i64.bits (Int.fdiv e7.1 (2^(min (3:Int).toNat i64.bits)))).toNat:Nat))+i64.wrap ((BitVec.ofInt i64.bits (i64.wrap ((BitVec.ofInt i64.bits r11.1 ^^^ BitVec.ofInt i64.bits r12.1).toNat:Nat)) ^^^ BitVec.ofInt i64.bits (Int.fdiv e8.1 (2^(min (10:Int).toNat i64.bits)))).toNat:Nat))) &&& BitVec.ofInt i64.bits 4294967295).toNat:Nat),()))
 .leaf (.inl (q16,i64.wrap (x6.2.1+1),()))) (
 .leaf (.inr (x6.1,())))
def Zk (a0:YBs):Tree (List YI×Unit):=
 .br ((a0.1.length:Int) != 64) (
 .leaf ([],())) (
 .ob (A0 Lh (a0.1,List.replicate (64:Int).toNat (0,()),0,())) fun o5=>
 .ob (A0 Li (o5.1,16,())) fun o17=>
 .leaf o17)
def Aiv a0:=(Zk a0).val
def Awb (a0:YI):Tree YI:=.leaf (Ads a0.1,())
def Awm a0:=(Awb a0).val
def Bcz (a0 a1:YI):Tree (YI):=
 .leaf (i64.wrap ((BitVec.ofInt i64.bits (i64.wrap (a0.1+a1.1)) &&& BitVec.ofInt i64.bits 4294967295).toNat:Nat),())
def Akm a0 a1:=(Bcz a0 a1).val
def I2:Lst (List YI×List YI×List YI×Int×Int×Int×Int×Int×Int×Int×Int×Int×Unit) (List YI×List YI×Int×Int×Int×Int×Int×Int×Int×Int×Unit):=fun x11=>
 letI u1:=x11.2.2.2;letI u2:=u1.2.2;letI u3:=u2.2.2;letI u4:=u3.2.2;Tree.val <|
 .br (decide (u4.2.2.1<64)) (
 .ob (Mq (u3.1,()) (6,())) fun r12=>
 .ob (Mq (u3.1,()) (11,())) fun r13=>
 .ob (Mq (u3.1,()) (25,())) fun r14=>
 .ob (Awm (u4.2.2.1,())) fun r15=>
 .ob (idx x11.2.2.1 u4.2.2.1) fun e16=>letI k1:=(i64.wrap (i64.wrap (i64.wrap (i64.wrap (u4.2.1+i64.wrap ((BitVec.ofInt i64.bits (i64.wrap ((BitVec.ofInt i64.bits r12.1 ^^^ BitVec.ofInt i64.bits r13.1).toNat:Nat)) ^^^ BitVec.ofInt i64.bits r14.1).toNat:Nat))+i64.wrap ((BitVec.ofInt i64.bits (i64.wrap ((BitVec.ofInt i64.bits u3.1 &&& BitVec.ofInt i64.bits u3.2.1).toNat:Nat)) ^^^ BitVec.ofInt i64.bits (i64.wrap ((BitVec.ofInt i64.bits (i64.wrap ((BitVec.ofInt i64.bits (4294967295:Int) ^^^ BitVec.ofInt i64.bits u3.1).toNat:Nat)) &&& BitVec.ofInt i64.bits u4.1).toNat:Nat))).toNat:Nat))+r15.1)+e16.1),());
 .ob (Mq (u1.1,()) (2,())) fun r17=>
 .ob (Mq (u1.1,()) (13,())) fun r18=>
 .ob (Mq (u1.1,()) (22,())) fun r19=>
 .ob (Akm (u2.2.1,()) k1) fun r20=>
 .ob (Akm k1 (i64.wrap (i64.wrap ((BitVec.ofInt i64.bits (i64.wrap ((BitVec.ofInt i64.bits r17.1 ^^^ BitVec.ofInt i64.bits r18.1).toNat:Nat)) ^^^ BitVec.ofInt i64.bits r19.1).toNat:Nat)+i64.wrap ((BitVec.ofInt i64.bits (i64.wrap ((BitVec.ofInt i64.bits (i64.wrap ((BitVec.ofInt i64.bits u1.1 &&& BitVec.ofInt i64.bits u1.2.1).toNat:Nat)) ^^^ BitVec.ofInt i64.bits (i64.wrap ((BitVec.ofInt i64.bits u1.1 &&& BitVec.ofInt i64.bits u2.1).toNat:Nat))).toNat:Nat)) ^^^ BitVec.ofInt i64.bits (i64.wrap ((BitVec.ofInt i64.bits u1.2.1 &&& BitVec.ofInt i64.bits u2.1).toNat:Nat))).toNat:Nat)),())) fun r21=>
 .leaf (.inl (x11.1,x11.2.1,x11.2.2.1,r21.1,u1.1,u1.2.1,u2.1,r20.1,u3.1,u3.2.1,u4.1,i64.wrap (u4.2.2.1+1),()))) (
 .leaf (.inr (x11.1,x11.2.1,u1.1,u1.2.1,u2.1,u2.2.1,u3.1,u3.2.1,u4.1,u4.2.1,())))
def Ig:Lst (List YI×List YI×List YI×Int×Int×Unit) (List YI×Unit):=fun x23=>
 letI u1:=x23.2.2;letI u2:=u1.2.2;Tree.val <|
 .br (decide (u2.1<u1.2.1)) (
 .ob (idx u1.1 u2.1) fun e24=>
 .ob (idx x23.1 u2.1) fun e25=>
 .ob (Akm e25 e24) fun r26=>
 .ob (idx x23.2.1 u2.1) fun e27=>
 let q28:=(x23.2.1.set (u2.1).toNat r26)
 .leaf (.inl (x23.1,q28,u1.1,u1.2.1,i64.wrap (u2.1+1),()))) (
 .leaf (.inr (x23.2.1,())))
def Zl (a0:List YI×Unit) (a1:YBs):Tree (List YI×Unit):=
 letI k1:=([]:List YI)++a0.1; .chk (decide (([]:List YI).length+a0.1.length<=4294967296)) <|
 .ob (Ss a0 (8,())) fun r1=>
 .br (!r1.1) (
 .leaf (k1,())) (
 .br ((a1.1.length:Int) != 64) (
 .leaf (k1,())) (
 .ob (Aiv a1) fun r2=>
 .ob (idx a0.1 0) fun e3=>
 .ob (idx a0.1 1) fun e4=>
 .ob (idx a0.1 2) fun e5=>
 .ob (idx a0.1 3) fun e6=>
 .ob (idx a0.1 4) fun e7=>
 .ob (idx a0.1 5) fun e8=>
 .ob (idx a0.1 6) fun e9=>
 .ob (idx a0.1 7) fun e10=>
 .ob (A0 I2 (a0.1,k1,r2.1,e3.1,e4.1,e5.1,e6.1,e7.1,e8.1,e9.1,e10.1,0,())) fun o22=>letI u1:=o22.2.2;letI u2:=u1.2.2;letI u3:=u2.2.2.2;
 .ob (A0 Ig (o22.1,o22.2.1,[(u1.1,()),(u1.2.1,()),(u2.1,()),(u2.2.1,()),(u2.2.2.1,()),(u3.1,()),(u3.2.1,()),(u3.2.2.1,())],([(u1.1,()),(u1.2.1,()),(u2.1,()),(u2.2.1,()),(u2.2.2.1,()),(u3.1,()),(u3.2.1,()),(u3.2.2.1,())].length:Int),0,())) fun o29=>
 .leaf o29))
def Sv a0 a1:=(Zl a0 a1).val
def Hh:Lst (List YI×List YB×Unit) (List YI×List YB×Unit):=fun x3=>
 letI k1:=(x3.2.1.length:Int);letI k2:=decide ((64:Int)<=k1); Tree.val <|
 .br (decide (k1≥64)) (
 .chk k2 <|
 .ob (Sv (x3.1,()) ((x3.2.1.take (64:Int).toNat).drop (0:Int).toNat,())) fun r4=>
 .chk k2 <|
 .chk (decide (k1<=k1)) <|
 .leaf (.inl (r4.1,(x3.2.1.take (k1).toNat).drop (64:Int).toNat,()))) (
 .leaf (.inr x3))
def Zn (a0:List YI×Unit) (a1:YBs):Tree ((List YI×Unit)×YBs):=
 .ob (A0 Hh (a0.1,a1.1,())) fun o5=>
 .leaf ((o5.1,()),(o5.2.1,()))
def Rh a0 a1:=(Zn a0 a1).val
def Amm (a0:Rg) (a1:YBs):Tree (Rg):=
 letI k1:=decide (([]:List YI).length+a0.1.length<=4294967296); .ob (Af4 a0) fun r1=>
 .br (!r1.1) (
 .chk k1 <|
 .ob (Bq (a0.2.1,())) fun r2=>
 .leaf (([]:List YI)++a0.1,r2.1,a0.2.2.1,())) (
 .br (decide ((a1.1.length:Int)>i64.wrap (1048576-a0.2.2.1))) (
 .chk k1 <|
 .ob (Bq (a0.2.1,())) fun r3=>
 .leaf (([]:List YI)++a0.1,r3.1,a0.2.2.1,())) (
 .ob (Fe ([(a0.2.1,()),a1],())) fun r4=>
 .ob (Rh (a0.1,()) r4) fun r5=>
 .chk (decide (([]:List YI).length+r5.1.1.length<=4294967296)) <|
 .ob (Bq r5.2) fun r6=>
 .leaf (([]:List YI)++r5.1.1,r6.1,i64.wrap (a0.2.2.1+(a1.1.length:Int)),())))
def Anb a0 a1:=(Amm a0 a1).val
def Si:Lst (Int×List YB×Unit) (Int×List YB×Unit):=fun x2=>
 letI k1:=i64.wrap (i64.wrap (x2.1+(x2.2.1.length:Int))+(8:Int)); Tree.val <|
 .chk (decide (0<=k1)) <|
 .br ((k1%64) != 0) (
 .chk (decide (x2.2.1.length+[((0:Int),())].length<=4294967296)) <|
 .leaf (.inl (x2.1,x2.2.1++[((0:Int),())],()))) (
 .leaf (.inr x2))
def Ban (a0:YI):Tree (YBs):=
 .ob (Bl a0 (0,()) (1048576,())) fun r1=>
 .br (!r1.1) (
 .leaf ([],())) (
 .ob (A0 Si (a0.1,[(128,())],())) fun o3=>
 .chk (decide (o3.2.1.length+[((0:Int),()),((0:Int),())].length<=4294967296)) <|
 .ob (Fu (o3.2.1++[((0:Int),()),((0:Int),())],()) (i64.wrap (8*o3.1),()) (6,())) fun r4=>
 .leaf r4)
def Ba6 a0:=(Ban a0).val
def J4:Lst (List YB×List YI×Int×Int×Unit) (YBs):=fun x1=>
 letI u1:=x1.2.2;Tree.val <|
 .br (decide (u1.2.1<u1.1)) (
 .ob (idx x1.2.1 u1.2.1) fun e2=>
 .ob (Fu (x1.1,()) e2 (4,())) fun r3=>
 .leaf (.inl (r3.1,x1.2.1,u1.1,i64.wrap (u1.2.1+1),()))) (
 .leaf (.inr (x1.1,())))
def Aev (a0:List YI×Unit):Tree (YBs):=
 .ob (A0 J4 ([],a0.1,(a0.1.length:Int),0,())) fun o4=>
 .leaf o4
def Afb a0:=(Aev a0).val
def Amn (a0:Rg):Tree (YBs):=
 .ob (Af4 a0) fun r1=>
 .br (!r1.1) (
 .leaf ([],())) (
 .ob (Ba6 (a0.2.2.1,())) fun r2=>
 .ob (Fe ([(a0.2.1,()),r2],())) fun r3=>
 .ob (Rh (a0.1,()) r3) fun r4=>
 .ob (Afb r4.1) fun r5=>
 .leaf r5)
def Anc a0:=(Amn a0).val
def Baq (a0:YBs):Tree (YBs):=
 .br (decide ((a0.1.length:Int)>1048576)) (
 .leaf ([],())) (
 .ob A26 fun r1=>
 .ob (Anb r1 a0) fun r2=>
 .ob (Anc r2) fun r3=>
 .leaf r3)
def Ao7 a0:=(Baq a0).val
def Hx:Lst (YBs) (YBs):=fun x3=>
 Tree.val <|
 .br (decide ((x3.1.length:Int)<64)) (
 .chk (decide (x3.1.length+[((0:Int),())].length<=4294967296)) <|
 .leaf (.inl (x3.1++[((0:Int),())],()))) (
 .leaf (.inr x3))
def Ah0 (a0:YBs):Tree (YBs):=
 .br (decide ((a0.1.length:Int)>1048576)) (
 .leaf ([],())) (
 .ob (Bq a0) fun r1=>
 .br (decide ((a0.1.length:Int)>64)) (
 .ob (Ao7 a0) fun r2=>
 .ob (A0 Hx r2) fun o4=>
 .leaf o4) (
 .ob (A0 Hx r1) fun o5=>
 .leaf o5))
def Aiw a0:=(Ah0 a0).val
def Og:Lst (Int×List YB×List YB×Int×Int×Unit) (YBs):=fun x1=>
 letI u1:=x1.2.2;Tree.val <|
 .br (decide (u1.2.2.1<u1.2.1)) (
 .ob (idx u1.1 u1.2.2.1) fun e2=>
 .chk (decide (x1.2.1.length+[(u8.wrap ((BitVec.ofInt u8.bits e2.1 ^^^ BitVec.ofInt u8.bits x1.1).toNat:Nat),())].length<=4294967296)) <|
 .leaf (.inl (x1.1,x1.2.1++[(u8.wrap ((BitVec.ofInt u8.bits e2.1 ^^^ BitVec.ofInt u8.bits x1.1).toNat:Nat),())],u1.1,u1.2.1,i64.wrap (u1.2.2.1+1),()))) (
 .leaf (.inr (x1.2.1,())))
def Asj (a0:YBs) (a1:YB):Tree (YBs):=
 .ob (A0 Og (a1.1,[],a0.1,(a0.1.length:Int),0,())) fun o3=>
 .leaf o3
def Af5 a0 a1:=(Asj a0 a1).val
def A4n (a0 a1:YBs):Tree (YBs):=
 .br (decide ((a0.1.length:Int)>1048576)) (
 .leaf ([],())) (
 .br (decide ((a1.1.length:Int)>1048512)) (
 .leaf ([],())) (
 .ob (Aiw a0) fun r1=>
 .ob (Af5 r1 (92,())) fun r2=>
 .ob (Af5 r1 (54,())) fun r3=>
 .ob (Fe ([r3,a1],())) fun r4=>
 .ob (Ao7 r4) fun r5=>
 .ob (Fe ([r2,r5],())) fun r6=>
 .ob (Ao7 r6) fun r7=>
 .leaf r7))
def Wm a0 a1:=(A4n a0 a1).val
def Ask (a0:YBs) (a1:YI):Tree (YBs):=
 .ob (Bl ((a0.1.length:Int),()) (1,()) (32,())) fun r1=>
 .br (!r1.1) (
 .leaf ([],())) (
 .ob (Bl a1 (0,()) (10000,())) fun r2=>
 .br (!r2.1) (
 .leaf ([],())) (
 .ob (Fu ([(114,()),(111,()),(108,()),(108,())],()) a1 (4,())) fun r3=>
 .ob (Wm a0 r3) fun r4=>
 .chk (decide (12<=(r4.1.length:Int))) <|
 .ob (Bq ((r4.1.take (12:Int).toNat).drop (0:Int).toNat,())) fun r5=>
 .leaf r5))
def Att a0 a1:=(Ask a0 a1).val
def A4p (a0:Gq):Tree (Gq×YBs):=
 .ob (Bq (a0.1,())) fun r1=>
 .ob (Af2 a0) fun r2=>
 .br (!r2.1) (
 .leaf ((r1.1,a0.2.1,()),([],()))) (
 .br (a0.2.1==10000) (
 .leaf ((r1.1,a0.2.1,()),([],()))) (
 .ob (Att (a0.1,()) (a0.2.1,())) fun r3=>
 .leaf ((r1.1,i64.wrap (a0.2.1+1),()),r3)))
def Atu a0:=(A4p a0).val
def Amo (a0:YBs) (a1:A8):Tree (YBs):=
 .ob (Ha a1) fun r1=>
 .br (!r1.1) (
 .ob (Bq a0) fun r2=>
 .leaf r2) (
 .ob (Fu a0 (a1.1,()) (4,())) fun r3=>
 .ob (Fu r3 (a1.2.1,()) (2,())) fun r4=>
 .leaf r4)
def A27 a0 a1:=(Amo a0 a1).val
def Ah1 (a0:A8) (a1:YI) (a2 a3:YBs) (a4:YI):Tree (YBs):=
 .ob (Ha a0) fun r1=>
 .br (!r1.1) (
 .leaf ([],())) (
 .ob (Bl a1 (1,()) (9,())) fun r2=>
 .br (!r2.1) (
 .leaf ([],())) (
 .ob (D5 a2) fun r3=>
 .br (!r3.1) (
 .leaf ([],())) (
 .ob (D5 a3) fun r4=>
 .br (!r4.1) (
 .leaf ([],())) (
 .ob (Bl a4 (0,()) (1000000,())) fun r5=>
 .br (!r5.1) (
 .leaf ([],())) (
 .ob (A27 ([(99,())],()) a0) fun r6=>
 .ob (Fu ([],()) a4 (4,())) fun r7=>
 .ob (Fe ([r6,([(u8.wrap a1.1,())],()),a2,a3,r7],())) fun r8=>
 .leaf r8)))))
def Sw a0 a1 a2 a3 a4:=(Ah1 a0 a1 a2 a3 a4).val
def Bar (a0 a1:YBs):Tree (YBs):=
 .ob (Wm a0 a1) fun r1=>
 .br ((r1.1.length:Int)==0) (
 .leaf ([],())) (
 .chk (decide (16<=(r1.1.length:Int))) <|
 .ob (Bq ((r1.1.take (16:Int).toNat).drop (0:Int).toNat,())) fun r2=>
 .leaf r2)
def Agm a0 a1:=(Bar a0 a1).val
def A4r (a0:YBs) (a1:A8) (a2:YI) (a3 a4:YBs) (a5:YI):Tree (YBs):=
 .ob (Sw a1 a2 a3 a4 a5) fun r1=>
 .ob (Akk a0) fun r2=>
 .br (!r2.1) (
 .leaf ([],())) (
 .br ((r1.1.length:Int)==0) (
 .leaf ([],())) (
 .ob (Agm a0 r1) fun r3=>
 .leaf r3))
def Atv a0 a1 a2 a3 a4 a5:=(A4r a0 a1 a2 a3 a4 a5).val
def A4t (a0 a1:YBs):Tree (Aq):=
 .ob (Bq a0) fun r1=>
 .ob (Bq a1) fun r2=>
 .leaf (15,0,0,[],[],0,0,r2.1,r1.1,0,0,0,())
def Atw a0 a1:=(A4t a0 a1).val
def Ah3 (a0:YBs):Tree (Aq):=
 .ob (Bq a0) fun r1=>
 .leaf (14,0,0,[],[],0,0,r1.1,[],0,0,0,())
def L0 a0:=(Ah3 a0).val
def Zp (a0:Bc) (a1:YI) (a2:A8) (a3:Ap):Tree (Bc×(List Az×Unit)×(List Aq×Unit)):=
 letI u1:=a0.2.2.2;letI k1:=(a3.2.2.1,());.br (decide (a3.2.1>(a0.1.length:Int))) (
 .leaf (a0,([],()),([],()))) (
 .ob (Af3 a0 a2 (45,())) fun r1=>
 .br (!r1.1) (
 .leaf (a0,([],()),([],()))) (
 .br (decide (u1.1≥10000)) (
 .leaf (a0,([],()),([],()))) (
 .ob (Atu (a0.2.2.1,u1.1,())) fun r2=>
 .ob (Atv (a0.2.1,()) a2 (a3.2.1,()) k1 r2.2 a1) fun r3=>
 .ob (Bq k1) fun r4=>
 .ob (Bq r2.2) fun r5=>
 .ob (Sw a2 (a3.2.1,()) k1 r2.2 a1) fun r6=>
 .ob (Atw (a0.2.1,()) r6) fun r7=>
 .ob (L0 r2.2) fun r8=>
 .leaf ((a0.1,a0.2.1,r2.1.1,r2.1.2.1,u1.2.1,u1.2.2.1,u1.2.2.2.1,()),([(a2.1,a2.2.1,2,0,r4.1,r5.1,a1.1,r3.1,[],0,0,[],[],())],()),([r8,r7],())))))
def Sx a0 a1 a2 a3:=(Zp a0 a1 a2 a3).val
def Ayp (a0 a1:YI):Tree (Bool×Unit):=
 .ob (Bl a0 (0,()) (1000000,())) fun r1=>
 .br r1.1 (
 .ob (Bl a1 (0,()) (1000000,())) fun r2=>
 .br r2.1 (
 .ob (Bl (i64.wrap (a0.1-a1.1),()) (0,()) (10,())) fun r3=>
 .leaf r3) (
 .leaf (false,()))) (
 .leaf (false,()))
def Azj a0 a1:=(Ayp a0 a1).val
def Zq:Lst (List YB×List YB×Int×Int×Int×Unit) (YI):=fun x1=>
 letI u1:=x1.2.2.2;Tree.val <|
 .br (decide (u1.2.1<u1.1)) (
 .ob (idx x1.1 u1.2.1) fun e2=>
 .ob (idx x1.2.1 u1.2.1) fun e3=>
 .leaf (.inl (x1.1,x1.2.1,i64.wrap ((BitVec.ofInt i64.bits x1.2.2.1 ||| BitVec.ofInt i64.bits (i64.wrap (u8.wrap ((BitVec.ofInt u8.bits e2.1 ^^^ BitVec.ofInt u8.bits e3.1).toNat:Nat)))).toNat:Nat),u1.1,i64.wrap (u1.2.1+1),()))) (
 .leaf (.inr (x1.2.2.1,())))
def A4v (a0 a1:YBs):Tree (YI):=
 .br ((a0.1.length:Int) != (a1.1.length:Int)) (
 .leaf (-1,())) (
 .ob (A0 Zq (a0.1,a1.1,0,(a0.1.length:Int),0,())) fun o4=>
 .leaf o4)
def Wn a0 a1:=(A4v a0 a1).val
def Amp (a0 a1:YBs):Tree (Bool×Unit):=
 .br ((a0.1.length:Int)==16) (
 .ob (Wn a0 a1) fun r1=>
 .leaf (r1.1==0,())) (
 .leaf (false,()))
def Rb a0 a1:=(Amp a0 a1).val
def Akb (a0:YBs) (a1:YI) (a2:A8) (a3:Ap):Tree (YI):=
 letI u1:=a3.2.2.2;.ob (Akk a0) fun r1=>
 .br (!r1.1) (
 .leaf (1,())) (
 .ob (Bl a1 (0,()) (1000000,())) fun r2=>
 .br (!r2.1) (
 .leaf (1,())) (
 .ob (Ha a2) fun r3=>
 .br (!r3.1) (
 .leaf (1,())) (
 .br (a3.1 != 3) (
 .leaf (1,())) (
 .ob (Dn a3) fun r4=>
 .br (!r4.1) (
 .leaf (1,())) (
 .ob (Azj a1 (u1.2.1,())) fun r5=>
 .br (!r5.1) (
 .leaf (9,())) (
 .ob (Atv a0 a2 (a3.2.1,()) (a3.2.2.1,()) (u1.1,()) (u1.2.1,())) fun r6=>
 .ob (Rb (u1.2.2.1,()) r6) fun r7=>
 .br (!r7.1) (
 .leaf (2,())) (
 .leaf (0,()))))))))
def Ad0 a0 a1 a2 a3:=(Akb a0 a1 a2 a3).val
def Acw (a0 a1:YBs):Tree (YBs):=
 .ob (Wm a0 a1) fun r1=>
 .leaf r1
def Ada a0 a1:=(Acw a0 a1).val
def Oh:Lst (List YB×List YB×Int×List YB×List YB×Int×Unit) (Int×List YB×Unit):=fun x2=>
 letI u1:=x2.2.2;Tree.val <|
 .br (decide ((x2.2.2.2.1.length:Int)<u1.1)) (
 .ob (Fe ([(u1.2.2.1,()),(x2.2.1,()),([(u8.wrap u1.2.2.2.1,())],())],())) fun r3=>
 .ob (Wm (x2.1,()) r3) fun r4=>
 .chk (decide (x2.2.2.2.1.length+r4.1.length<=4294967296)) <|
 .leaf (.inl (x2.1,x2.2.1,u1.1,u1.2.1++r4.1,r4.1,i64.wrap (u1.2.2.2.1+1),()))) (
 .leaf (.inr (u1.1,u1.2.1,())))
def Asm (a0 a1:YBs) (a2:YI):Tree (YBs×(Bool×Unit)):=
 .ob (Bl a2 (0,()) (8160,())) fun r1=>
 .br (!r1.1) (
 .leaf (([],()),(false,()))) (
 .br (decide ((a1.1.length:Int)>100)) (
 .leaf (([],()),(false,()))) (
 .br (decide ((a0.1.length:Int)>1048576)) (
 .leaf (([],()),(false,()))) (
 .ob (A0 Oh (a0.1,a1.1,a2.1,[],[],1,())) fun o5=>
 .chk (decide (0<=o5.1)) <|
 .chk (decide (o5.1<=(o5.2.1.length:Int))) <|
 .ob (Bq ((o5.2.1.take (o5.1).toNat).drop (0:Int).toNat,())) fun r6=>
 .leaf (r6,(true,())))))
def Atx a0 a1 a2:=(Asm a0 a1 a2).val
def Asn (a0:YBs) (a1:ByteArray×Unit):Tree (YBs):=
 .chk (decide (a1.1.size<=4294967296)) <|
 .ob (Atx a0 (Kq a1.1,()) (32,())) fun r1=>
 .leaf r1.1
def M7 a0 a1:=(Asn a0 a1).val
def Aey (a0:YBs):Tree (YBs):=
 .ob (W9 a0) fun r1=>
 .br (!r1.1) (
 .leaf ([],())) (
 .ob (Ada ([(114,()),(111,()),(97,()),(109,())],()) a0) fun r2=>
 .ob (M7 r2 (Dq [102,105,110,105,115,104],())) fun r3=>
 .leaf r3)
def V5 a0:=(Aey a0).val
def Ae0 (a0:YI) (a1 a2:YBs) (a3:YI) (a4:YBs):Tree (YBs):=
 .ob (Bl a0 (1,()) (9,())) fun r1=>
 .br (!r1.1) (
 .leaf ([],())) (
 .ob (D5 a1) fun r2=>
 .br (!r2.1) (
 .leaf ([],())) (
 .ob (D5 a2) fun r3=>
 .br (!r3.1) (
 .leaf ([],())) (
 .ob (Bl a3 (0,()) (1000000,())) fun r4=>
 .br (!r4.1) (
 .leaf ([],())) (
 .br ((a4.1.length:Int) != 16) (
 .leaf ([],())) (
 .ob (Fu ([],()) a3 (4,())) fun r5=>
 .ob (Fe ([([(102,()),(u8.wrap a0.1,())],()),a1,a2,r5,a4],())) fun r6=>
 .leaf r6)))))
def V6 a0 a1 a2 a3 a4:=(Ae0 a0 a1 a2 a3 a4).val
def Ayr (a0:YBs) (a1:YI) (a2 a3:YBs) (a4:YI) (a5:YBs):Tree (YBs):=
 .ob (V5 a0) fun r1=>
 .ob (V6 a1 a2 a3 a4 a5) fun r2=>
 .br ((r1.1.length:Int)==0) (
 .leaf ([],())) (
 .br ((r2.1.length:Int)==0) (
 .leaf ([],())) (
 .ob (Agm r1 r2) fun r3=>
 .leaf r3))
def Azk a0 a1 a2 a3 a4 a5:=(Ayr a0 a1 a2 a3 a4 a5).val
def Acy (a0:YBs) (a1:Ap):Tree (Bool×Unit):=
 letI u1:=a1.2.2.2;.br (a1.1==3) (
 .ob (Dn a1) fun r1=>
 .br r1.1 (
 .ob (Azk a0 (a1.2.1,()) (a1.2.2.1,()) (u1.1,()) (u1.2.1,()) (u1.2.2.1,())) fun r2=>
 .ob (Rb (u1.2.2.2.1,()) r2) fun r3=>
 .leaf r3) (
 .leaf (false,()))) (
 .leaf (false,()))
def Ve a0 a1:=(Acy a0 a1).val
def Ah5 (a0:A8):Tree (Bn):=
 .leaf (a0.1,a0.2.1,[],())
def Azl a0:=(Ah5 a0).val
def Amr (a0 a1 a2:YBs):Tree (YBs):=
 .ob (W9 a0) fun r1=>
 .br (!r1.1) (
 .leaf ([],())) (
 .ob (D5 a1) fun r2=>
 .br (!r2.1) (
 .leaf ([],())) (
 .ob (D5 a2) fun r3=>
 .br (!r3.1) (
 .leaf ([],())) (
 .ob (Fe ([a1,a2],())) fun r4=>
 .ob (Ada r4 a0) fun r5=>
 .leaf r5)))
def Ane a0 a1 a2:=(Amr a0 a1 a2).val
def Ah6 (a0:YBs):Tree (YBs):=
 .br ((a0.1.length:Int) != 32) (
 .leaf ([],())) (
 .ob (M7 a0 (Dq [101,112,111,99,104],())) fun r1=>
 .leaf r1)
def Aix a0:=(Ah6 a0).val
def Q5:Lst (Int×List YB×Int×Unit) (YBs):=fun x3=>
 Tree.val <|
 .br (decide (x3.2.2.1<x3.1)) (
 .ob (M7 (x3.2.1,()) (Dq [114,101,107,101,121],())) fun r4=>
 .leaf (.inl (x3.1,r4.1,i64.wrap (x3.2.2.1+1),()))) (
 .leaf (.inr (x3.2.1,())))
def Ayu (a0:YBs) (a1:YI):Tree (YBs):=
 .ob (Bl a1 (0,()) (64,())) fun r1=>
 .br (!r1.1) (
 .leaf ([],())) (
 .ob (Bq a0) fun r2=>
 .ob (A0 Q5 (a1.1,r2.1,0,())) fun o5=>
 .leaf o5)
def Azm a0 a1:=(Ayu a0 a1).val
def Ah7 (a0 a1 a2:YBs) (a3:YI):Tree (YBs):=
 .ob (Ane a0 a1 a2) fun r1=>
 .ob (Aix r1) fun r2=>
 .br ((r2.1.length:Int)==0) (
 .leaf ([],())) (
 .ob (Azm r2 a3) fun r3=>
 .leaf r3)
def Z9 a0 a1 a2 a3:=(Ah7 a0 a1 a2 a3).val
def Aso:Tree (Dg):=
 .leaf (-1,List.replicate (32:Int).toNat (0,()),())
def Af6:=Aso.val
def Akd (a0:YI) (a1:YBs):Tree (YEp):=
 .ob (Bl a0 (0,()) (4294967295,())) fun r1=>
 .br (!r1.1) (
 .leaf (0,[],0,0,[],())) (
 .br ((a1.1.length:Int) != 32) (
 .leaf (0,[],0,0,[],())) (
 .ob (Bq a1) fun r2=>
 .ob Af6 fun r3=>
 .leaf (a0.1,r2.1,0,r3.1,r3.2.1,())))
def O8 a0 a1:=(Akd a0 a1).val
def Acz (a0:YI) (a1 a2:YBs):Tree (Au):=
 .ob (Pq a0) fun r1=>
 .br (!r1.1) (
 .leaf (0,[],0,[],0,0,[],0,[],0,0,[],false,0,[],())) (
 .ob (D5 a1) fun r2=>
 .br (!r2.1) (
 .leaf (0,[],0,[],0,0,[],0,[],0,0,[],false,0,[],())) (
 .br ((a2.1.length:Int) != 32) (
 .leaf (0,[],0,[],0,0,[],0,[],0,0,[],false,0,[],())) (
 .ob (Bq a1) fun r3=>
 .ob (O8 (0,()) a2) fun r4=>
 .leaf (a0.1,r3.1,r4.1,r4.2.1,r4.2.2.1,r4.2.2.2.1,r4.2.2.2.2.1,0,[],0,0,[],false,0,[],()))))
def Vf a0 a1 a2:=(Acz a0 a1 a2).val
def Ams (a0:YBs) (a1:YI) (a2:A8) (a3:Ap):Tree (Al):=
 letI u1:=a3.2.2;.ob (W9 a0) fun r1=>
 .br (!r1.1) (
 .leaf (0,[],[],0,[],0,[],0,0,[],0,[],0,0,[],false,0,[],0,0,[],0,0,false,())) (
 .ob (Bl a1 (0,()) (1000000,())) fun r2=>
 .br (!r2.1) (
 .leaf (0,[],[],0,[],0,[],0,0,[],0,[],0,0,[],false,0,[],0,0,[],0,0,false,())) (
 .ob (Ha a2) fun r3=>
 .br (!r3.1) (
 .leaf (0,[],[],0,[],0,[],0,0,[],0,[],0,0,[],false,0,[],0,0,[],0,0,false,())) (
 .br (a3.1 != 3) (
 .leaf (0,[],[],0,[],0,[],0,0,[],0,[],0,0,[],false,0,[],0,0,[],0,0,false,())) (
 .ob (Dn a3) fun r4=>
 .br (!r4.1) (
 .leaf (0,[],[],0,[],0,[],0,0,[],0,[],0,0,[],false,0,[],0,0,[],0,0,false,())) (
 .ob (Bq (u1.1,())) fun r5=>
 .ob (Bq (u1.2.1,())) fun r6=>
 .ob (Azl a2) fun r7=>
 .ob (Z9 a0 (u1.1,()) (u1.2.1,()) (0,())) fun r8=>
 .ob (Vf (1,()) (u1.2.1,()) r8) fun r9=>letI u2:=r9.2.2.2;letI u3:=u2.2.2.2;letI u4:=u3.2.2.2.2;
 .leaf (a3.2.1,r5.1,r6.1,r9.1,r9.2.1,r9.2.2.1,u2.1,u2.2.1,u2.2.2.1,u3.1,u3.2.1,u3.2.2.1,u3.2.2.2.1,u4.1,u4.2.1,u4.2.2.1,u4.2.2.2.1,u4.2.2.2.2.1,r7.1,r7.2.1,r7.2.2.1,u1.2.2.1,a1.1,false,()))))))
def Adb a0 a1 a2 a3:=(Ams a0 a1 a2 a3).val
def Ac0 (a0:Ck) (a1:Al):Tree (Ck×YI):=
 .ob (Ra a0) fun r1=>
 .ob (W8 a0) fun r2=>
 .br (!r2.1) (
 .leaf (r1,(1,()))) (
 .ob (T9 a1) fun r3=>
 .br (!r3.1) (
 .leaf (r1,(1,()))) (
 .br a1.2.2.2.2.2.2.2.2.2.2.2.2.2.2.2.2.2.2.2.2.2.2.2.1 (
 .leaf (r1,(1,()))) (
 .ob (M5 a0 (a1.2.2.1,())) fun r4=>
 .br (decide (r4.1≥0)) (
 .leaf (r1,(3,()))) (
 .ob (Wl a0) fun r5=>
 .br (r5.1==a0.1) (
 .leaf (r1,(7,()))) (
 .br ((a0.2.1.length:Int)==12) (
 .leaf (r1,(7,()))) (
 .ob (Lz a1) fun r6=>
 .chk (decide (r1.2.1.length+[r6].length<=4294967296)) <|
 .leaf ((r1.1,r1.2.1++[r6],()),(0,()))))))))
def Vg a0 a1:=(Ac0 a0 a1).val
def A4x (a0 a1 a2:YBs):Tree (Aq):=
 .ob (Bq a0) fun r1=>
 .ob (Bq a1) fun r2=>
 .ob (Bq a2) fun r3=>
 .leaf (16,0,0,[],r2.1,0,0,r3.1,r1.1,0,0,0,())
def Aiy a0 a1 a2:=(A4x a0 a1 a2).val
def Ae2 (a0:YI):Tree (YBs):=
 .ob (Bl a0 (0,()) (4294967295,())) fun r1=>
 .br (!r1.1) (
 .leaf ([],())) (
 .ob (Fu ([],()) a0 (4,())) fun r2=>
 .leaf r2)
def V7 a0:=(Ae2 a0).val
def Asq (a0:YI) (a1:YBs) (a2 a3:YI):Tree (YBs):=
 .ob (Pq a0) fun r1=>
 .br (!r1.1) (
 .leaf ([],())) (
 .ob (D5 a1) fun r2=>
 .br (!r2.1) (
 .leaf ([],())) (
 .ob (Bl a2 (0,()) (4294967295,())) fun r3=>
 .br (!r3.1) (
 .leaf ([],())) (
 .ob (Bl a3 (0,()) (281474976710655,())) fun r4=>
 .br (!r4.1) (
 .leaf ([],())) (
 .ob (Fu ([],()) a2 (4,())) fun r5=>
 .ob (Fu ([],()) a3 (6,())) fun r6=>
 .ob (Fe ([([(u8.wrap a0.1,())],()),a1,r5,r6],())) fun r7=>
 .leaf r7))))
def Aaa a0 a1 a2 a3:=(Asq a0 a1 a2 a3).val
def Amu (a0 a1:YBs) (a2:YI):Tree (YBs):=
 .ob (Bl a2 (0,()) (6,())) fun r1=>
 .br (!r1.1) (
 .leaf ([],())) (
 .br (decide ((a1.1.length:Int)>100)) (
 .leaf ([],())) (
 .ob (Fe ([([(115,())],()),a1],())) fun r2=>
 .ob (Fu r2 a2 (4,())) fun r3=>
 .ob (Wm a0 r3) fun r4=>
 .leaf r4))
def Anf a0 a1 a2:=(Amu a0 a1 a2).val
def Oi:Lst (List YB×List YB×Int×List YB×Int×Unit) (Int×List YB×Unit):=fun x2=>
 letI u1:=x2.2.2;Tree.val <|
 .br (decide ((x2.2.2.2.1.length:Int)<u1.1)) (
 .ob (Anf (x2.1,()) (x2.2.1,()) (u1.2.2.1,())) fun r3=>
 .chk (decide (x2.2.2.2.1.length+r3.1.length<=4294967296)) <|
 .leaf (.inl (x2.1,x2.2.1,u1.1,u1.2.1++r3.1,i64.wrap (u1.2.2.1+1),()))) (
 .leaf (.inr (u1.1,u1.2.1,())))
def Asr (a0 a1:YBs) (a2:YI):Tree (YBs):=
 .ob (Bl a2 (0,()) (200,())) fun r1=>
 .br (!r1.1) (
 .leaf ([],())) (
 .br (decide ((a1.1.length:Int)>100)) (
 .leaf ([],())) (
 .br (decide ((a0.1.length:Int)>1048576)) (
 .leaf ([],())) (
 .ob (A0 Oi (a0.1,a1.1,a2.1,[],0,())) fun o4=>
 .chk (decide (0<=o4.1)) <|
 .chk (decide (o4.1<=(o4.2.1.length:Int))) <|
 .ob (Bq ((o4.2.1.take (o4.1).toNat).drop (0:Int).toNat,())) fun r5=>
 .leaf r5)))
def Aty a0 a1 a2:=(Asr a0 a1 a2).val
def W6:Lst (List YB×List YB×List YB×Int×Int×Unit) (YBs):=fun x2=>
 letI u1:=x2.2.2.2;Tree.val <|
 .br (decide (u1.2.1<u1.1)) (
 .ob (idx x2.2.2.1 u1.2.1) fun e3=>
 .ob (idx x2.1 u1.2.1) fun e4=>
 .chk (decide (x2.2.1.length+[(u8.wrap ((BitVec.ofInt u8.bits e3.1 ^^^ BitVec.ofInt u8.bits e4.1).toNat:Nat),())].length<=4294967296)) <|
 .leaf (.inl (x2.1,x2.2.1++[(u8.wrap ((BitVec.ofInt u8.bits e3.1 ^^^ BitVec.ofInt u8.bits e4.1).toNat:Nat),())],x2.2.2.1,u1.1,i64.wrap (u1.2.1+1),()))) (
 .leaf (.inr (x2.2.1,())))
def Bat (a0 a1 a2:YBs):Tree (YBs):=
 .br (decide ((a2.1.length:Int)>200)) (
 .leaf ([],())) (
 .br (decide ((a1.1.length:Int)>100)) (
 .leaf ([],())) (
 .br (decide ((a0.1.length:Int)>1048576)) (
 .leaf ([],())) (
 .ob (Aty a0 a1 ((a2.1.length:Int),())) fun r1=>
 .ob (A0 W6 (a2.1,[],r1.1,(r1.1.length:Int),0,())) fun o5=>
 .leaf o5)))
def A07 a0 a1 a2:=(Bat a0 a1 a2).val
def Ah8 (a0:YI) (a1:Ap):Tree (YBs):=
 letI u1:=a1.2.2.2.2.2.2.2;.ob (Pq a0) fun r1=>
 .br (!r1.1) (
 .leaf ([],())) (
 .ob (M6 (a1.1,())) fun r2=>
 .br (!r2.1) (
 .leaf ([],())) (
 .ob (Dn a1) fun r3=>
 .br (!r3.1) (
 .leaf ([],())) (
 .ob (Aaa a0 (a1.2.2.2.1,()) (u1.1,()) (u1.2.1,())) fun r4=>
 .ob (Fe ([([(116,())],()),r4,([(u8.wrap a1.1,())],()),(u1.2.2.1,())],())) fun r5=>
 .leaf r5)))
def L3 a0 a1:=(Ah8 a0 a1).val
def A4y (a0:YBs) (a1:YI) (a2:YBs) (a3 a4 a5:YI) (a6:YBs):Tree (Ap×(Bool×Unit)):=
 .ob (Bq a2) fun r1=>
 .ob (Bq a6) fun r2=>
 .br ((a0.1.length:Int) != 32) (
 .leaf ((0,0,[],[],0,[],[],0,0,[],[],()),(false,()))) (
 .ob (Pq a1) fun r3=>
 .br (!r3.1) (
 .leaf ((0,0,[],[],0,[],[],0,0,[],[],()),(false,()))) (
 .ob (M6 a5) fun r4=>
 .br (!r4.1) (
 .leaf ((0,0,[],[],0,[],[],0,0,[],[],()),(false,()))) (
 .ob (Dn (a5.1,0,[],r1.1,0,[],[],a3.1,a4.1,r2.1,List.replicate (16:Int).toNat (0,()),())) fun r5=>
 .br (!r5.1) (
 .leaf ((0,0,[],[],0,[],[],0,0,[],[],()),(false,()))) (
 .ob (Aaa a1 a2 a3 a4) fun r6=>
 .ob (A07 a0 r6 a6) fun r7=>
 .ob (L3 a1 (a5.1,0,[],r1.1,0,[],[],a3.1,a4.1,r7.1,List.replicate (16:Int).toNat (0,()),())) fun r8=>
 .ob (Agm a0 r8) fun r9=>
 .leaf ((a5.1,0,[],r1.1,0,[],[],a3.1,a4.1,r7.1,r9.1,()),(true,()))))))
def Aiz a0 a1 a2 a3 a4 a5 a6:=(A4y a0 a1 a2 a3 a4 a5 a6).val
def Ass (a0:YEp) (a1:YI) (a2:YBs) (a3:YI) (a4:YBs):Tree (YEp×Ap×YI):=
 letI u1:=a0.2.2;letI k2:=Aiz (a0.2.1,()) a1 a2 (a0.1,()) (u1.1,()) a3 a4;letI k3:=u1.1==(281474976710656:Int);.ob (T8 a0) fun r1=>letI u2:=r1.2.2;letI k1:=(r1.1,r1.2.1,i64.wrap (u2.1+(1:Int)),u2.2.1,u2.2.2.1,());
 .ob (Abp a0) fun r2=>
 .br (!r2.1) (
 .leaf (r1,(0,0,[],[],0,[],[],0,0,[],[],()),(1,()))) (
 .ob (Aiz (a0.2.1,()) a1 a2 (a0.1,()) (0,()) a3 a4) fun r3=>
 .br (!r3.2.1) (
 .leaf (r1,(0,0,[],[],0,[],[],0,0,[],[],()),(1,()))) (
 .br (a3.1==4) (
 .br (decide (u1.1≥281474976709656)) (
 .leaf (r1,(0,0,[],[],0,[],[],0,0,[],[],()),(4,()))) (
 .br k3 (
 .leaf (r1,(0,0,[],[],0,[],[],0,0,[],[],()),(5,()))) (
 .ob k2 fun r4=>
 .leaf (k1,r4.1,(0,()))))) (
 .br k3 (
 .leaf (r1,(0,0,[],[],0,[],[],0,0,[],[],()),(5,()))) (
 .ob k2 fun r5=>
 .leaf (k1,r5.1,(0,()))))))
def Atz a0 a1 a2 a3 a4:=(Ass a0 a1 a2 a3 a4).val
def Aia (a0:Au) (a1:YI) (a2:YBs):Tree (Au×Ap×YI):=
 letI u1:=a0.2.2.2;.ob (Ih a0) fun r1=>letI u2:=r1.2.2.2.2.2.2.2;letI u3:=u2.2.2.2;
 .ob (Kt a0) fun r2=>
 .br (!r2.1) (
 .leaf (r1,(0,0,[],[],0,[],[],0,0,[],[],()),(1,()))) (
 .ob (Atz (a0.2.2.1,u1.1,u1.2.1,u1.2.2.1,u1.2.2.2.1,()) (a0.1,()) (a0.2.1,()) a1 a2) fun r3=>
 .leaf ((r1.1,r1.2.1,r3.1.1,r3.1.2.1,r3.1.2.2.1,r3.1.2.2.2.1,r3.1.2.2.2.2.1,u2.1,u2.2.1,u2.2.2.1,u3.1,u3.2.1,u3.2.2.1,u3.2.2.2.1,u3.2.2.2.2.1,()),r3.2.1,r3.2.2))
def Ct a0 a1 a2:=(Aia a0 a1 a2).val
def Bav (a0:Au):Tree (Au×Ap×YI):=
 .ob (Kt a0) fun r1=>
 .br (!r1.1) (
 .ob (Ih a0) fun r2=>
 .leaf (r2,(0,0,[],[],0,[],[],0,0,[],[],()),(6,()))) (
 .br (a0.1 != 1) (
 .ob (Ih a0) fun r3=>
 .leaf (r3,(0,0,[],[],0,[],[],0,0,[],[],()),(6,()))) (
 .ob (V7 (a0.2.2.1,())) fun r4=>
 .ob (Ct a0 (8,()) r4) fun r5=>
 .leaf (r5.1,r5.2.1,r5.2.2)))
def Agn a0:=(Bav a0).val
def Ast (a0:Au) (a1:Ap):Tree (Aq):=
 .ob (L3 (a0.1,()) a1) fun r1=>
 .ob (Atw (a0.2.2.2.1,()) r1) fun r2=>
 .leaf r2
def Ii a0 a1:=(Ast a0 a1).val
def Ac1 (a0:Al):Tree (Al×(List Az×Unit)×(List Aq×Unit)):=
 letI u1:=a0.2.2.2;letI u2:=u1.2.2;letI u3:=u2.2.2.2;letI u4:=u3.2.2.2;letI u5:=u4.2.2.2;letI u6:=u5.2.2.2;.ob (Lz a0) fun r1=>letI u7:=r1.2.2.2.2.2.2.2.2.2.2.2.2.2.2.2.2.2.2;
 .ob (T9 a0) fun r2=>
 .br (!r2.1) (
 .leaf (r1,([],()),([],()))) (
 .br u6.2.2.2.2.2.2.1 (
 .leaf (r1,([],()),([],()))) (
 .br (u2.1 != 0) (
 .leaf (r1,([],()),([],()))) (
 .ob (Agn (u1.1,u1.2.1,u2.1,u2.2.1,u2.2.2.1,u3.1,u3.2.1,u3.2.2.1,u4.1,u4.2.1,u4.2.2.1,u5.1,u5.2.1,u5.2.2.1,u6.1,())) fun r3=>letI u8:=r3.1.2.2.2;letI u9:=u8.2.2.2;letI u10:=u9.2.2.2.2;
 .br (r3.2.2.1 != 0) (
 .leaf (r1,([],()),([],()))) (
 .ob (Ii r3.1 r3.2.1) fun r4=>
 .leaf ((r1.1,r1.2.1,r1.2.2.1,r3.1.1,r3.1.2.1,r3.1.2.2.1,u8.1,u8.2.1,u8.2.2.1,u9.1,u9.2.1,u9.2.2.1,u9.2.2.2.1,u10.1,u10.2.1,u10.2.2.1,u10.2.2.2.1,u10.2.2.2.2.1,u7.1,u7.2.1,u7.2.2.1,u7.2.2.2.1,u7.2.2.2.2.1,u7.2.2.2.2.2.1,()),([(u6.2.1,u6.2.2.1,r3.2.1.1,r3.2.1.2.1,r3.2.1.2.2.1,r3.2.1.2.2.2.1,r3.2.1.2.2.2.2.1,r3.2.1.2.2.2.2.2.1,r3.2.1.2.2.2.2.2.2.1,r3.2.1.2.2.2.2.2.2.2.1,r3.2.1.2.2.2.2.2.2.2.2.1,r3.2.1.2.2.2.2.2.2.2.2.2.1,r3.2.1.2.2.2.2.2.2.2.2.2.2.1,())],()),([r4],()))))))
def K7 a0:=(Ac1 a0).val
def Amx (a0:Ck) (a1:YI) (a2:Al):Tree (Ck×(Bool×Unit)):=
 .ob (Ra a0) fun r1=>
 .ob (W8 a0) fun r2=>
 .br (!r2.1) (
 .leaf (r1,(false,()))) (
 .br (decide (a1.1<0)) (
 .leaf (r1,(false,()))) (
 .br (decide (a1.1≥(a0.2.1.length:Int))) (
 .leaf (r1,(false,()))) (
 .ob (Lz a2) fun r3=>
 .ob (idx r1.2.1 a1.1) fun e4=>
 let q5:=(r1.2.1.set (a1.1).toNat r3)
 .ob (W8 (r1.1,q5,())) fun r6=>
 .br (!r6.1) (
 .ob (Ra a0) fun r7=>
 .leaf (r7,(false,()))) (
 .leaf ((r1.1,q5,()),(true,()))))))
def Ho a0 a1 a2:=(Amx a0 a1 a2).val
def Tx (a0:Bc) (a1:YI) (a2:A8) (a3:Ap):Tree (Bc×(List Az×Unit)×(List Aq×Unit)):=
 letI u1:=a0.2.2;letI u2:=u1.2.2;letI u3:=u2.2.2;letI u4:=a3.2.2;letI k4:=(u2.1,u2.2.1,());letI k5:=idx a0.1 (i64.wrap (a3.2.1-(1:Int)));.ob (Ad0 (a0.2.1,()) a1 a2 a3) fun r1=>
 .br (r1.1 != 0) (
 .leaf (a0,([],()),([],()))) (
 .br (decide (a3.2.1>(a0.1.length:Int))) (
 .leaf (a0,([],()),([],()))) (
 .ob k5 fun e2=>
 .ob (Ve e2 a3) fun r3=>
 .br (!r3.1) (
 .leaf (a0,([],()),([],()))) (
 .ob (M5 k4 (u4.2.1,())) fun r4=>
 .br (decide (r4.1<0)) (
 .ob k5 fun e5=>
 .ob (Adb e5 a1 a2 a3) fun r6=>
 .ob (Vg k4 r6) fun r7=>letI k3:=(a0.1,a0.2.1,u1.1,u1.2.1,r7.1.1,r7.1.2.1,u3.1,());
 .br (r7.2.1 != 0) (
 .leaf (a0,([],()),([],()))) (
 .ob (Sw a2 (a3.2.1,()) (u4.1,()) (u4.2.1,()) (u4.2.2.1,())) fun r8=>
 .ob (Aiy (a0.2.1,()) (u4.2.1,()) r8) fun r9=>
 .ob (V5 e5) fun r10=>
 .ob (V6 (a3.2.1,()) (u4.1,()) (u4.2.1,()) (u4.2.2.1,()) (u4.2.2.2.1,())) fun r11=>
 .ob (Aiy r10 (u4.2.1,()) r11) fun r12=>
 .ob (Bq (u4.1,())) fun r13=>
 .ob (Bq (u4.2.1,())) fun r14=>
 .ob (Bq (r6.2.2.2.2.2.2.1,())) fun r15=>letI k1:=((4:Int),a3.2.1,(0:Int),r13.1,r14.1,(0:Int),(0:Int),([]:List YB),r15.1,a2.1,a2.2.1,a1.1,());letI k2:=([]:List Aq)++[r9,r12,k1];
 .chk (decide (([]:List Aq).length+[r9,r12,k1].length<=4294967296)) <|
 .ob (M5 r7.1 (u4.2.1,())) fun r16=>
 .ob (idx r7.1.2.1 r16.1) fun e17=>
 .br e17.2.2.2.2.2.2.2.2.2.2.2.2.2.2.2.2.2.2.2.2.2.2.2.1 (
 .leaf (k3,([],()),(k2,()))) (
 .br (e17.1 != a3.2.1) (
 .leaf (k3,([],()),(k2,()))) (
 .ob (B7 (e17.2.1,()) (u4.1,())) fun r18=>
 .br (!r18.1) (
 .leaf (k3,([],()),(k2,()))) (
 .ob (K7 e17) fun r19=>
 .ob (Ho r7.1 r16 r19.1) fun r20=>
 .chk (decide (k2.length+r19.2.2.1.length<=4294967296)) <|
 .leaf ((a0.1,a0.2.1,u1.1,u1.2.1,r20.1.1,r20.1.2.1,u3.1,()),r19.2.1,(k2++r19.2.2.1,()))))))) (
 .ob (M5 k4 (u4.2.1,())) fun r21=>
 .ob (idx u2.2.1 r21.1) fun e22=>
 .br e22.2.2.2.2.2.2.2.2.2.2.2.2.2.2.2.2.2.2.2.2.2.2.2.1 (
 .leaf (a0,([],()),([],()))) (
 .br (e22.1 != a3.2.1) (
 .leaf (a0,([],()),([],()))) (
 .ob (B7 (e22.2.1,()) (u4.1,())) fun r23=>
 .br (!r23.1) (
 .leaf (a0,([],()),([],()))) (
 .ob (K7 e22) fun r24=>
 .ob (Ho k4 r21 r24.1) fun r25=>
 .chk (decide (([]:List Aq).length+r24.2.2.1.length<=4294967296)) <|
 .leaf ((a0.1,a0.2.1,u1.1,u1.2.1,r25.1.1,r25.1.2.1,u3.1,()),r24.2.1,(([]:List Aq)++r24.2.2.1,())))))))))
def Oq a0 a1 a2 a3:=(Tx a0 a1 a2 a3).val
def Asu (a0:Dg) (a1:YI):Tree (Bool×Unit):=
 .ob (Akl a0) fun r1=>
 .br (!r1.1) (
 .leaf (false,())) (
 .ob (Bl a1 (0,()) (281474976710655,())) fun r2=>
 .br (!r2.1) (
 .leaf (false,())) (
 .br (decide (a1.1>a0.1)) (
 .leaf (true,())) (
 .br (decide (a1.1≥i64.wrap (i64.wrap (a0.1-1024)+1))) (
 .ob (Z8 a0 a1) fun r3=>
 .leaf (!r3.1,())) (
 .leaf (false,())))))
def At0 a0 a1:=(Asu a0 a1).val
def Ok:Lst (Int×Int×Int×List YI×Int×List YI×Int×List YI×Unit) (Int×Int×List YI×Int×List YI×Int×List YI×Unit):=fun x3=>
 letI u1:=x3.2.2;letI u2:=u1.2.2;letI u3:=u2.2.2;letI k1:=(x3.2.1%(1024:Int))/(32:Int);letI k2:=decide ((0:Int)<=x3.2.1);Tree.val <|
 .br (decide (x3.2.1<x3.1)) (
 .chk k2 <|
 .chk (decide (0<=(x3.2.1%1024))) <|
 .ob (idx u3.2.1 k1) fun e4=>
 .chk k2 <|
 .chk (decide (0<=(x3.2.1%32))) <|
 .ob (idx u3.2.1 k1) fun e5=>
 let q6:=(x3.2.2.2.2.2.2.2.1.set (k1).toNat (i64.wrap ((BitVec.ofInt i64.bits e4.1 &&& ~~~ BitVec.ofInt i64.bits (i64.wrap ((1:Int)*2^(min (x3.2.1%32).toNat i64.bits)))).toNat:Nat),()))
 .leaf (.inl (x3.1,i64.wrap (x3.2.1+1),u1.1,u1.2.1,u2.1,u2.2.1,u3.1,q6,()))) (
 .leaf (.inr (x3.1,u1.1,u1.2.1,u2.1,u2.2.1,u3.1,u3.2.1,())))
def Asv (a0:Dg) (a1:YI):Tree (Dg×(Bool×Unit)):=
 letI k2:=i64.wrap (i64.wrap (a1.1-(1024:Int))+(1:Int));letI k3:=i64.wrap (a0.1+(1:Int)); .ob (Ac9 a0) fun r1=>
 .ob (At0 a0 a1) fun r2=>
 .br (!r2.1) (
 .leaf (r1,(false,()))) (
 .ob (A0 Ok (a1.1,if k3<k2 then k2 else k3,a0.1,a0.2.1,0,[],r1.1,r1.2.1,())) fun o7=>letI k1:=(o7.1%(1024:Int))/(32:Int);letI k4:=idx o7.2.2.2.2.2.2.1 k1;letI k5:=decide ((0:Int)<=o7.1);
 .chk k5 <|
 .chk (decide (0<=(o7.1%1024))) <|
 .ob k4 fun e8=>
 .chk k5 <|
 .chk (decide (0<=(o7.1%32))) <|
 .ob k4 fun e9=>
 let q10:=(o7.2.2.2.2.2.2.1.set (k1).toNat (i64.wrap ((BitVec.ofInt i64.bits e8.1 ||| BitVec.ofInt i64.bits (i64.wrap ((1:Int)*2^(min (o7.1%32).toNat i64.bits)))).toNat:Nat),()))
 .leaf ((if o7.2.1<o7.1 then o7.1 else o7.2.1,q10,()),(true,())))
def At1 a0 a1:=(Asv a0 a1).val
def Asw (a0:YBs) (a1:YI) (a2:Ap):Tree (YBs×(Bool×Unit)):=
 letI u1:=a2.2.2.2.2.2.2.2;.ob (L3 a1 a2) fun r1=>
 .br ((a0.1.length:Int) != 32) (
 .leaf (([],()),(false,()))) (
 .br ((r1.1.length:Int)==0) (
 .leaf (([],()),(false,()))) (
 .ob (Agm a0 r1) fun r2=>
 .ob (Rb (u1.2.2.2.1,()) r2) fun r3=>
 .br (!r3.1) (
 .leaf (([],()),(false,()))) (
 .ob (Aaa a1 (a2.2.2.2.1,()) (u1.1,()) (u1.2.1,())) fun r4=>
 .ob (A07 a0 r4 (u1.2.2.1,())) fun r5=>
 .leaf (r5,(true,())))))
def At2 a0 a1 a2:=(Asw a0 a1 a2).val
def Asx (a0:YEp) (a1:YI) (a2:Ap):Tree (YEp×YBs×YI):=
 letI u1:=a2.2.2.2.2.2.2.2;.ob (T8 a0) fun r1=>
 .ob (Abp a0) fun r2=>
 .br (!r2.1) (
 .leaf (r1,([],()),(1,()))) (
 .ob (L3 a1 a2) fun r3=>
 .br ((r3.1.length:Int)==0) (
 .leaf (r1,([],()),(1,()))) (
 .br (u1.1 != a0.1) (
 .leaf (r1,([],()),(1,()))) (
 .ob (At1 (a0.2.2.2.1,a0.2.2.2.2.1,()) (u1.2.1,())) fun r4=>
 .br (!r4.2.1) (
 .leaf (r1,([],()),(3,()))) (
 .ob (At2 (a0.2.1,()) a1 a2) fun r5=>
 .br (!r5.2.1) (
 .leaf (r1,([],()),(2,()))) (
 .leaf ((r1.1,r1.2.1,r1.2.2.1,r4.1.1,r4.1.2.1,()),r5.1,(0,())))))))
def Jd a0 a1 a2:=(Asx a0 a1 a2).val
def Abr (a0 r1:Au) (r8:YEp×YBs×YI) (a1:YI):Tree (Au×YBs×YI):=
 letI u1:=r1.2.2.2.2.2.2.2;letI u2:=u1.2.2;letI u3:=u2.2.2;letI u4:=r8.1.2.2;.br (a0.2.2.2.2.2.2.2.2.2.2.2.2.2.1==(-1:Int)) (
 .leaf ((r1.1,r1.2.1,r8.1.1,r8.1.2.1,u4.1,u4.2.1,u4.2.2.1,u1.1,u1.2.1,u2.1,u2.2.1,u3.1,u3.2.1,i64.wrap (a1.1+5),u3.2.2.2.1,()),r8.2.1,(0,()))) (
 .leaf ((r1.1,r1.2.1,r8.1.1,r8.1.2.1,u4.1,u4.2.1,u4.2.2.1,u1.1,u1.2.1,u2.1,u2.2.1,u3.1,u3.2.1,u3.2.2.1,u3.2.2.2.1,()),r8.2.1,(0,())))
def Ot (a0 r1:Au) (r8:YEp×YBs×YI) (a1:YI):Tree (Au×YBs×YI):=
 letI u1:=r1.2.2.2.2.2.2.2;letI u2:=u1.2.2.2;.br a0.2.2.2.2.2.2.2.2.2.2.2.2.1 (
 Abr a0 r1 r8 a1) (
 .leaf ((r1.1,r1.2.1,r8.1.1,r8.1.2.1,r8.1.2.2.1,r8.1.2.2.2.1,r8.1.2.2.2.2.1,u1.1,u1.2.1,u1.2.2.1,u2.1,u2.2.1,u2.2.2.1,u2.2.2.2.1,u2.2.2.2.2.1,()),r8.2.1,(0,())))
def Abs (a2:Ap) (a0 r1:Au) (r8:YEp×YBs×YI) (a1:YI):Tree (Au×YBs×YI):=
 letI u1:=r1.2.2;letI u2:=u1.2.2;letI u3:=u2.2.2.2.2.2.2.2.2;letI u4:=r8.1.2.2;.br (a2.2.2.2.2.2.2.2.1==a0.2.2.2.2.2.2.2.1) (
 .leaf ((r1.1,r1.2.1,u1.1,u1.2.1,u2.1,u2.2.1,u2.2.2.1,r8.1.1,r8.1.2.1,u4.1,u4.2.1,u4.2.2.1,u3.1,u3.2.1,u3.2.2.1,()),r8.2.1,(0,()))) (
 .leaf ((r1.1,r1.2.1,r8.1.1,r8.1.2.1,u4.1,u4.2.1,u4.2.2.1,u1.1,u1.2.1,u2.1,u2.2.1,u2.2.2.1,true,i64.wrap (a1.1+5),[],()),r8.2.1,(0,())))
def Lk (a2:Ap) (a0 r1:Au) (r8:YEp×YBs×YI) (a1:YI):Tree (Au×YBs×YI):=
 .br (a2.2.2.2.2.2.2.2.1==a0.2.2.1) (
 Ot a0 r1 r8 a1) (
 Abs a2 a0 r1 r8 a1)
def Ua (r8:YEp×YBs×YI) (r1:Au) (a2:Ap) (a0:Au) (a1:YI):Tree (Au×YBs×YI):=
 .br (r8.2.2.1 != 0) (
 .leaf (r1,([],()),r8.2.2)) (
 Lk a2 a0 r1 r8 a1)
def Ao8 (r7:YEp) (a0:Au) (a2:Ap) (r1:Au) (a1:YI):Tree (Au×YBs×YI):=
 .ob (Jd r7 (i64.wrap (1-a0.1),()) a2) fun r8=>
 Ua r8 r1 a2 a0 a1
def Abt (a0:Au) (a2:Ap) (r1:Au) (a1:YI):Tree (Au×YBs×YI):=
 .ob (O8 (i64.wrap (a0.2.2.1+1),()) (a0.2.2.2.2.2.2.2.2.2.2.2.2.2.2.1,())) fun r7=>
 Ao8 r7 a0 a2 r1 a1
def Ub (a0:Au) (a2:Ap) (r1:Au) (a1:YI):Tree (Au×YBs×YI):=
 letI u1:=a0.2.2.2.2.2.2.2;.ob (Jd (u1.1,u1.2.1,u1.2.2.1,u1.2.2.2.1,u1.2.2.2.2.1,()) (i64.wrap (1-a0.1),()) a2) fun r9=>
 Ua r9 r1 a2 a0 a1
def Ao9 (a2:Ap) (a0 r1:Au) (a1:YI):Tree (Au×YBs×YI):=
 .br (a2.2.2.2.2.2.2.2.1==i64.wrap (a0.2.2.1+1)) (
 Abt a0 a2 r1 a1) (
 Ub a0 a2 r1 a1)
def Ri (a0:Au) (a2:Ap) (r1:Au) (a1:YI):Tree (Au×YBs×YI):=
 letI u1:=a0.2.2.2;.ob (Jd (a0.2.2.1,u1.1,u1.2.1,u1.2.2.1,u1.2.2.2.1,()) (i64.wrap (1-a0.1),()) a2) fun r12=>
 Ua r12 r1 a2 a0 a1
def Aab (a2:Ap) (a0 r1:Au) (a1:YI):Tree (Au×YBs×YI):=
 .br (a2.2.2.2.2.2.2.2.1==i64.wrap (a0.2.2.1+1)) (
 Abt a0 a2 r1 a1) (
 Ri a0 a2 r1 a1)
def J7 (a2:Ap) (a0 r1:Au) (a1:YI):Tree (Au×YBs×YI):=
 .br (a2.2.2.2.2.2.2.2.1==a0.2.2.2.2.2.2.2.1) (
 Ao9 a2 a0 r1 a1) (
 Aab a2 a0 r1 a1)
def Akn (a1:YI) (a0 r1:Au) (a2:Ap):Tree (Au×YBs×YI):=
 .br (decide (a1.1>a0.2.2.2.2.2.2.2.2.2.2.2.2.2.1)) (
 .leaf (r1,([],()),(9,()))) (
 J7 a2 a0 r1 a1)
def Ako (a0:Au) (a1:YI) (r1:Au) (a2:Ap):Tree (Au×YBs×YI):=
 .br (a0.2.2.2.2.2.2.2.2.2.2.2.2.2.1 != (-1:Int)) (
 Akn a1 a0 r1 a2) (
 J7 a2 a0 r1 a1)
def J8 (a2:Ap) (a0:Au) (a1:YI) (r1:Au):Tree (Au×YBs×YI):=
 .br (a2.2.2.2.2.2.2.2.1==a0.2.2.2.2.2.2.2.1) (
 Ako a0 a1 r1 a2) (
 J7 a2 a0 r1 a1)
def M8 (a2:Ap) (a0 r1:Au) (a1:YI):Tree (Au×YBs×YI):=
 .br (a2.2.2.2.2.2.2.2.1==a0.2.2.2.2.2.2.2.1) (
 Ub a0 a2 r1 a1) (
 Ri a0 a2 r1 a1)
def Akp (a1:YI) (a0 r1:Au) (a2:Ap):Tree (Au×YBs×YI):=
 .br (decide (a1.1>a0.2.2.2.2.2.2.2.2.2.2.2.2.2.1)) (
 .leaf (r1,([],()),(9,()))) (
 M8 a2 a0 r1 a1)
def Akq (a0:Au) (a1:YI) (r1:Au) (a2:Ap):Tree (Au×YBs×YI):=
 .br (a0.2.2.2.2.2.2.2.2.2.2.2.2.2.1 != (-1:Int)) (
 Akp a1 a0 r1 a2) (
 M8 a2 a0 r1 a1)
def Rj (a2:Ap) (a0:Au) (a1:YI) (r1:Au):Tree (Au×YBs×YI):=
 .br (a2.2.2.2.2.2.2.2.1==a0.2.2.2.2.2.2.2.1) (
 Akq a0 a1 r1 a2) (
 M8 a2 a0 r1 a1)
def Rk (a2:Ap) (a0 r1:Au) (r76:YEp×YBs×YI) (a1:YI):Tree (Au×YBs×YI):=
 letI u1:=r1.2.2.2;.br (a2.2.2.2.2.2.2.2.1==a0.2.2.1) (
 Ot a0 r1 r76 a1) (
 .leaf ((r1.1,r1.2.1,r76.1.1,r76.1.2.1,r76.1.2.2.1,r76.1.2.2.2.1,r76.1.2.2.2.2.1,r1.2.2.1,u1.1,u1.2.1,u1.2.2.1,u1.2.2.2.1,true,i64.wrap (a1.1+5),[],()),r76.2.1,(0,())))
def Aac (r76:YEp×YBs×YI) (r1:Au) (a2:Ap) (a0:Au) (a1:YI):Tree (Au×YBs×YI):=
 .br (r76.2.2.1 != 0) (
 .leaf (r1,([],()),r76.2.2)) (
 Rk a2 a0 r1 r76 a1)
def Akr (r75:YEp) (a0:Au) (a2:Ap) (r1:Au) (a1:YI):Tree (Au×YBs×YI):=
 .ob (Jd r75 (i64.wrap (1-a0.1),()) a2) fun r76=>
 Aac r76 r1 a2 a0 a1
def Aks (a0:Au) (a2:Ap) (r1:Au) (a1:YI):Tree (Au×YBs×YI):=
 .ob (O8 (i64.wrap (a0.2.2.1+1),()) (a0.2.2.2.2.2.2.2.2.2.2.2.2.2.2.1,())) fun r75=>
 Akr r75 a0 a2 r1 a1
def Rl (a0:Au) (a2:Ap) (r1:Au) (a1:YI):Tree (Au×YBs×YI):=
 letI u1:=a0.2.2.2;.ob (Jd (a0.2.2.1,u1.1,u1.2.1,u1.2.2.1,u1.2.2.2.1,()) (i64.wrap (1-a0.1),()) a2) fun r77=>
 Aac r77 r1 a2 a0 a1
def Rm (a2:Ap) (a0 r1:Au) (a1:YI):Tree (Au×YBs×YI):=
 .br (a2.2.2.2.2.2.2.2.1==i64.wrap (a0.2.2.1+1)) (
 Aks a0 a2 r1 a1) (
 Rl a0 a2 r1 a1)
def Aib (a0:Au) (a1:YI) (a2:Ap):Tree (Au×YBs×YI):=
 letI u1:=a0.2.2;letI u2:=u1.2.2.2.2.2;letI u3:=a2.2.2.2;letI u4:=u3.2.2.2.2;letI k1:=Wn (u3.1,()) (a0.2.1,());letI k2:=decide ((a0.2.2.2.2.2.2.2.2.2.2.2.2.2.2.1.length:Int)>(0:Int));letI k3:=!(u4.1==u1.1);letI k4:=!(u4.1==i64.wrap (u1.1+(1:Int)));.ob (Ih a0) fun r1=>
 .ob (Kt a0) fun r2=>
 .br (!r2.1) (
 .leaf (r1,([],()),(1,()))) (
 .ob (Bl a1 (0,()) (1000000,())) fun r3=>
 .br (!r3.1) (
 .leaf (r1,([],()),(1,()))) (
 .ob (M6 (a2.1,())) fun r4=>
 .br (!r4.1) (
 .leaf (r1,([],()),(1,()))) (
 .ob (Dn a2) fun r5=>
 .br (!r5.1) (
 .leaf (r1,([],()),(1,()))) (
 .br u2.2.2.2.2.2.1 (
 .br k2 (
 .ob k1 fun r6=>
 .br (r6.1 != 0) (
 .leaf (r1,([],()),(8,()))) (
 .br k3 (
 .br (!(u4.1==u2.1)) (
 .br k4 (
 .leaf (r1,([],()),(8,()))) (
 J8 a2 a0 a1 r1)) (
 J8 a2 a0 a1 r1)) (
 J8 a2 a0 a1 r1))) (
 .ob k1 fun r61=>
 .br (r61.1 != 0) (
 .leaf (r1,([],()),(8,()))) (
 .br k3 (
 .br (!(u4.1==u2.1)) (
 .leaf (r1,([],()),(8,()))) (
 Rj a2 a0 a1 r1)) (
 Rj a2 a0 a1 r1)))) (
 .br k2 (
 .ob k1 fun r74=>
 .br (r74.1 != 0) (
 .leaf (r1,([],()),(8,()))) (
 .br k3 (
 .br k4 (
 .leaf (r1,([],()),(8,()))) (
 Rm a2 a0 r1 a1)) (
 Rm a2 a0 r1 a1))) (
 .ob k1 fun r81=>
 .br (r81.1 != 0) (
 .leaf (r1,([],()),(8,()))) (
 .br k3 (
 .leaf (r1,([],()),(8,()))) (
 Rl a0 a2 r1 a1))))))))
def Ou a0 a1 a2:=(Aib a0 a1 a2).val
def Asy (a0:Au) (a1:YI):Tree (YBs×(Bool×Unit)):=
 letI u1:=a0.2.2;letI u2:=u1.2.2.2.2.2;letI u3:=u2.2.2.2.2.2;letI k1:=decide ((a0.2.2.2.2.2.2.2.2.2.2.2.2.2.2.1.length:Int)>(0:Int));letI k2:=a1.1==(i64.wrap (u1.1+(1:Int)));.ob (Kt a0) fun r1=>
 .br (!r1.1) (
 .leaf (([],()),(false,()))) (
 .br u3.1 (
 .br (a1.1==u2.1) (
 .ob (Bq (u2.2.1,())) fun r2=>
 .leaf (r2,(true,()))) (
 .br (a1.1==u1.1) (
 .ob (Bq (u1.2.1,())) fun r3=>
 .leaf (r3,(true,()))) (
 .br k1 (
 .br k2 (
 .ob (Bq (u3.2.2.1,())) fun r4=>
 .leaf (r4,(true,()))) (
 .leaf (([],()),(false,())))) (
 .leaf (([],()),(false,())))))) (
 .br (a1.1==u1.1) (
 .ob (Bq (u1.2.1,())) fun r5=>
 .leaf (r5,(true,()))) (
 .br k1 (
 .br k2 (
 .ob (Bq (u3.2.2.1,())) fun r6=>
 .leaf (r6,(true,()))) (
 .leaf (([],()),(false,())))) (
 .leaf (([],()),(false,()))))))
def Aad a0 a1:=(Asy a0 a1).val
def Sj:Lst (List Bb×Int×Int×Int×Int×Unit) (YI⊕(Unit)):=fun x1=>
 letI u1:=x1.2.2;Tree.val <|
 .br (decide (u1.1<x1.2.1)) (
 .ob (idx x1.1 u1.1) fun e2=>
 .br (and (e2.1==u1.2.1) (and (e2.2.1==u1.2.2.1) true)) (
 .leaf (.inr (.inl (u1.1,())))) (
 .leaf (.inl (x1.1,x1.2.1,i64.wrap (u1.1+1),u1.2.1,u1.2.2.1,())))) (
 .leaf (.inr (.inr ())))
def As0 (a0:Bn) (a1:A8):Tree (YI):=
 .ob (A0 Sj (a0.2.2.1,(a0.2.2.1.length:Int),0,a1.1,a1.2.1,())) fun o3=>
 .sm o3 (fun o4=>
 .leaf o4) (fun o5=>
 .leaf (-1,()))
def Af7 a0 a1:=(As0 a0 a1).val
def Afx (a0:Bn) (a1:YI) (a2:A8) (a3:YBs):Tree (Bn×(Bool×Unit)):=
 .ob (Fr a0) fun r1=>letI k2:=(r1.2.2.1.length:Int);
 .ob (Af7 a0 a2) fun r2=>letI k1:=(r1.2.2.1.take (r2.1).toNat).drop (0:Int).toNat;letI k3:=i64.wrap (r2.1+(1:Int));letI k4:=(r1.2.2.1.take (k2).toNat).drop (k3).toNat;
 .ob (Vd a0) fun r3=>
 .br (!r3.1) (
 .leaf (r1,(false,()))) (
 .ob (Bl a1 (0,()) (1000000,())) fun r4=>
 .br (!r4.1) (
 .leaf (r1,(false,()))) (
 .br (decide (r2.1<0)) (
 .leaf (r1,(false,()))) (
 .ob (idx a0.2.2.1 r2.1) fun e5=>
 .ob (B7 a3 (e5.2.2.1,())) fun r6=>
 .br (!r6.1) (
 .leaf (r1,(false,()))) (
 .ob (idx a0.2.2.1 r2.1) fun e7=>
 .br (decide (a1.1>e7.2.2.2.1)) (
 .leaf (r1,(false,()))) (
 .chk (decide (0<=r2.1)) <|
 .chk (decide (r2.1<=k2)) <|
 .chk (decide (0<=k3)) <|
 .chk (decide (k3<=k2)) <|
 .chk (decide (k2<=k2)) <|
 .chk (decide (k1.length+k4.length<=4294967296)) <|
 .chk (Nat.ble k1.length ((k3).toNat)) <|
 .chk (Nat.blt 0 r1.2.2.1.length) <|
 .leaf ((a2.1,a2.2.1,k1++k4,()),(true,())))))))
def Pr a0 a1 a2 a3:=(Afx a0 a1 a2 a3).val
def A4z (a0:Au):Tree (Au×(Bool×Unit)):=
 .ob (Ih a0) fun r1=>letI u1:=r1.2.2.2;
 .ob (Kt a0) fun r2=>
 .br (!r2.1) (
 .leaf (r1,(false,()))) (
 .br (a0.1 != 1) (
 .leaf (r1,(false,()))) (
 .br (a0.2.2.1==4294967295) (
 .leaf (r1,(false,()))) (
 .ob (M7 (a0.2.2.2.1,()) (Dq [114,101,107,101,121],())) fun r3=>
 .ob (O8 (i64.wrap (a0.2.2.1+1),()) r3) fun r4=>
 .leaf ((r1.1,r1.2.1,r4.1,r4.2.1,r4.2.2.1,r4.2.2.2.1,r4.2.2.2.2.1,r1.2.2.1,u1.1,u1.2.1,u1.2.2.1,u1.2.2.2.1,true,-1,u1.2.2.2.2.2.2.2.2.2.2.2.1,()),(true,())))))
def A5d a0:=(A4z a0).val
def Ae3 (a0:Au) (a1:YI) (a2:YBs):Tree (Au×YI):=
 .ob (Ih a0) fun r1=>
 .ob (Kt a0) fun r2=>
 .br (!r2.1) (
 .leaf (r1,(6,()))) (
 .br (a0.1 != 1) (
 .leaf (r1,(6,()))) (
 .ob (Bl a1 (0,()) (4294967294,())) fun r3=>
 .br (!r3.1) (
 .leaf (r1,(6,()))) (
 .ob (V7 (i64.wrap (a1.1+1),())) fun r4=>
 .ob (B7 a2 r4) fun r5=>
 .br (!r5.1) (
 .leaf (r1,(6,()))) (
 .br (a1.1==i64.wrap (a0.2.2.1-1)) (
 .leaf (r1,(0,()))) (
 .ob (A5d a0) fun r6=>
 .br (a1.1 != a0.2.2.1) (
 .leaf (r1,(6,()))) (
 .br (!r6.2.1) (
 .leaf (r1,(6,()))) (
 .leaf (r6.1,(0,())))))))))
def Qq a0 a1 a2:=(Ae3 a0 a1 a2).val
def V2 (a0:Al) (a1:YI) (a2:YBs):Tree (Al×(List Az×Unit)×(List Aq×Unit)):=
 letI u1:=a0.2.2;letI u2:=u1.2.2.2;letI u3:=u2.2.2.2;letI u4:=u3.2.2.2;letI u5:=u4.2.2.2;letI u6:=u5.2.2.2.2;letI u7:=u6.2.2;letI u8:=u7.2.2;.ob (Qq (u1.2.1,u1.2.2.1,u2.1,u2.2.1,u2.2.2.1,u3.1,u3.2.1,u3.2.2.1,u4.1,u4.2.1,u4.2.2.1,u5.1,u5.2.1,u5.2.2.1,u5.2.2.2.1,()) a1 a2) fun r1=>letI u9:=r1.1.2.2;letI u10:=u9.2.2;letI u11:=u10.2.2;letI u12:=u11.2.2;letI u13:=u12.2.2;letI u14:=u13.2.2;letI k2:=(a0.1,a0.2.1,u1.1,r1.1.1,r1.1.2.1,u9.1,u9.2.1,u10.1,u10.2.1,u11.1,u11.2.1,u12.1,u12.2.1,u13.1,u13.2.1,u14.1,u14.2.1,u14.2.2.1,u6.1,u6.2.1,u7.1,u7.2.1,u8.1,u8.2.1,());
 .br (r1.2.1 != 0) (
 .leaf (a0,([],()),([],()))) (
 .br (u9.1 != u2.1) (
 .ob (Bq (u1.1,())) fun r2=>
 .ob (Bq (u9.2.1,())) fun r3=>letI k1:=((10:Int),(0:Int),(1:Int),([]:List YB),r2.1,u9.1,(0:Int),([]:List YB),r3.1,(0:Int),(0:Int),(0:Int),());letI k3:=([]:List Aq)++[k1];
 .chk (decide (([]:List Aq).length+[k1].length<=4294967296)) <|
 .ob (Agn r1.1) fun r4=>letI u15:=r4.1.2.2.2;letI u16:=u15.2.2.2;letI u17:=u16.2.2.2.2;
 .br (r4.2.2.1 != 0) (
 .leaf (k2,([],()),(k3,()))) (
 .ob (Ii r4.1 r4.2.1) fun r5=>
 .chk (decide (k3.length+[r5].length<=4294967296)) <|
 .leaf ((a0.1,a0.2.1,u1.1,r4.1.1,r4.1.2.1,r4.1.2.2.1,u15.1,u15.2.1,u15.2.2.1,u16.1,u16.2.1,u16.2.2.1,u16.2.2.2.1,u17.1,u17.2.1,u17.2.2.1,u17.2.2.2.1,u17.2.2.2.2.1,u6.1,u6.2.1,u7.1,u7.2.1,u8.1,u8.2.1,()),([(u6.1,u6.2.1,r4.2.1.1,r4.2.1.2.1,r4.2.1.2.2.1,r4.2.1.2.2.2.1,r4.2.1.2.2.2.2.1,r4.2.1.2.2.2.2.2.1,r4.2.1.2.2.2.2.2.2.1,r4.2.1.2.2.2.2.2.2.2.1,r4.2.1.2.2.2.2.2.2.2.2.1,r4.2.1.2.2.2.2.2.2.2.2.2.1,r4.2.1.2.2.2.2.2.2.2.2.2.2.1,())],()),(k3++[r5],())))) (
 .ob (Agn r1.1) fun r6=>letI u18:=r6.1.2.2.2;letI u19:=u18.2.2.2;letI u20:=u19.2.2.2.2;
 .br (r6.2.2.1 != 0) (
 .leaf (k2,([],()),([],()))) (
 .ob (Ii r6.1 r6.2.1) fun r7=>
 .chk (decide (([]:List Aq).length+[r7].length<=4294967296)) <|
 .leaf ((a0.1,a0.2.1,u1.1,r6.1.1,r6.1.2.1,r6.1.2.2.1,u18.1,u18.2.1,u18.2.2.1,u19.1,u19.2.1,u19.2.2.1,u19.2.2.2.1,u20.1,u20.2.1,u20.2.2.1,u20.2.2.2.1,u20.2.2.2.2.1,u6.1,u6.2.1,u7.1,u7.2.1,u8.1,u8.2.1,()),([(u6.1,u6.2.1,r6.2.1.1,r6.2.1.2.1,r6.2.1.2.2.1,r6.2.1.2.2.2.1,r6.2.1.2.2.2.2.1,r6.2.1.2.2.2.2.2.1,r6.2.1.2.2.2.2.2.2.1,r6.2.1.2.2.2.2.2.2.2.1,r6.2.1.2.2.2.2.2.2.2.2.1,r6.2.1.2.2.2.2.2.2.2.2.2.1,r6.2.1.2.2.2.2.2.2.2.2.2.2.1,())],()),(([]:List Aq)++[r7],())))))
def V8 a0 a1 a2:=(V2 a0 a1 a2).val
def Gd:Lst (Int×List Bb×Int×Int×Int×Int×List Bb×Int×Int×List Bb×Unit) (Int×Int×List Bb×Int×Int×List Bb×Unit):=fun x2=>
 letI u1:=x2.2.2.2;letI u2:=u1.2.2;letI u3:=u2.2.2;letI k1:=i64.wrap (u1.1+(1:Int));letI k2:=Nat.ble (Int.toNat u1.1+1) (Int.toNat k1);Tree.val <|
 .br (decide (u1.1<x2.2.2.1)) (
 .chk (Nat.beq (Int.toNat u1.1) (Int.toNat u1.1)) <|
 .ob (idx x2.2.1 u1.1) fun e3=>
 .br (decide (e3.2.2.2.1≥x2.1)) (
 .chk (decide (x2.2.2.2.2.2.2.2.2.2.1.length+[e3].length<=4294967296)) <|
 .chk k2 <|
 .leaf (.inl (x2.1,x2.2.1,x2.2.2.1,k1,u1.2.1,u2.1,u2.2.1,u3.1,u3.2.1,u3.2.2.1++[e3],()))) (
 .chk k2 <|
 .leaf (.inl (x2.1,x2.2.1,x2.2.2.1,k1,u1.2.1,u2.1,u2.2.1,u3.1,u3.2.1,u3.2.2.1,())))) (
 .leaf (.inr (u1.2.1,u2.1,u2.2.1,u3.1,u3.2.1,u3.2.2.1,())))
def Mx (a0:Bn) (a1:YI):Tree (Bn):=
 .ob (Fr a0) fun r1=>
 .ob (A0 Gd (a1.1,r1.2.2.1,(r1.2.2.1.length:Int),0,0,0,[],a0.1,a0.2.1,[],())) fun o4=>
 .leaf (o4.2.2.2.1,o4.2.2.2.2.1,o4.2.2.2.2.2.1,())
def Sy a0 a1:=(Mx a0 a1).val
def Adw (a0:Bn) (a1:YI) (a2:A8) (a3:YBs):Tree (Bn×(Bool×Unit)):=
 .ob (Vd a0) fun r1=>
 .br (!r1.1) (
 .ob (Fr a0) fun r2=>
 .leaf (r2,(false,()))) (
 .ob (Bl a1 (0,()) (1000000,())) fun r3=>
 .br (!r3.1) (
 .ob (Fr a0) fun r4=>
 .leaf (r4,(false,()))) (
 .ob (Ha a2) fun r5=>
 .br (!r5.1) (
 .ob (Fr a0) fun r6=>
 .leaf (r6,(false,()))) (
 .ob (D5 a3) fun r7=>
 .br (!r7.1) (
 .ob (Fr a0) fun r8=>
 .leaf (r8,(false,()))) (
 .br (and (a2.1==a0.1) (and (a2.2.1==a0.2.1) true)) (
 .ob (Fr a0) fun r9=>
 .leaf (r9,(false,()))) (
 .ob (Sy a0 a1) fun r10=>
 .ob (Af7 r10 a2) fun r11=>
 .br (decide (r11.1≥0)) (
 .ob (Fr a0) fun r12=>
 .leaf (r12,(false,()))) (
 .br ((r10.2.2.1.length:Int)==3) (
 .ob (Fr a0) fun r13=>
 .leaf (r13,(false,()))) (
 .ob (Bq a3) fun r14=>letI k1:=(a2.1,a2.2.1,r14.1,i64.wrap (a1.1+(6:Int)),());
 .chk (decide (r10.2.2.1.length+[k1].length<=4294967296)) <|
 .leaf ((r10.1,r10.2.1,r10.2.2.1++[k1],()),(true,())))))))))
def Do a0 a1 a2 a3:=(Adw a0 a1 a2 a3).val
def Zu (a0:Al) (a1:YI) (a2:A8) (a3:Ap) (a4:YBs):Tree (Al×(List Az×Unit)×(List Aq×Unit)×(Bool×Unit)):=
 letI u1:=a0.2.2;letI u2:=u1.2.2;letI u3:=u2.2.2;letI u4:=u3.2.2;letI u5:=u4.2.2;letI u6:=u5.2.2;letI u7:=u6.2.2;letI u8:=u7.2.2.2;letI u9:=a3.2.2.2.2.2.2.2;letI k10:=(u1.2.1,u2.1,u2.2.1,u3.1,u3.2.1,u4.1,u4.2.1,u5.1,u5.2.1,u6.1,u6.2.1,u7.1,u7.2.1,u7.2.2.1,u8.1,());.ob (Lz a0) fun r1=>letI u10:=r1.2.2;letI u11:=u10.2.2.2.2.2.2.2.2.2.2.2.2.2.2.2.2;letI u12:=u11.2.2;letI u13:=u12.2.2.2;letI k11:=Do (u11.1,u11.2.1,u12.1,()) a1 a2 a4;
 .ob (T9 a0) fun r2=>
 .br (!r2.1) (
 .leaf (r1,([],()),([],()),(false,()))) (
 .br u8.2.2.2.2.2.2.1 (
 .leaf (r1,([],()),([],()),(false,()))) (
 .ob (Ha a2) fun r3=>
 .br (!r3.1) (
 .leaf (r1,([],()),([],()),(false,()))) (
 .ob (Ou k10 a1 a3) fun r4=>letI u14:=r4.1.2.2;letI u15:=u14.2.2;letI u16:=u15.2.2;letI u17:=u16.2.2;letI u18:=u17.2.2;letI u19:=u18.2.2;letI u20:=u19.2.2;letI k1:=(r1.1,r1.2.1,u10.1,r4.1.1,r4.1.2.1,u14.1,u14.2.1,u15.1,u15.2.1,u16.1,u16.2.1,u17.1,u17.2.1,u18.1,u18.2.1,u19.1,u19.2.1,u20.1,u11.1,u11.2.1,u12.1,u12.2.1,a1.1,u13.1,());letI k12:=Ct r4.1 ((5:Int),()) a4;
 .br (r4.2.2.1 != 0) (
 .leaf (r1,([],()),([],()),(false,()))) (
 .ob (Aad k10 (u9.1,())) fun r5=>
 .ob (L3 (0,()) a3) fun r6=>
 .ob (Aiy r5.1 (u1.1,()) r6) fun r7=>
 .br (a3.1==4) (
 .ob (Bq (u1.1,())) fun r8=>letI k3:=((6:Int),(0:Int),(0:Int),([]:List YB),r8.1,u9.1,u9.2.1,r4.2.1.1,([]:List YB),(0:Int),(0:Int),a1.1,());letI k15:=[r7]++[k3];
 .chk (decide ([r7].length+[k3].length<=4294967296)) <|
 .ob k11 fun r9=>
 .ob k12 fun r10=>letI u21:=r10.1.2.2.2;letI u22:=u21.2.2.2;letI u23:=u22.2.2.2.2;letI k4:=(a2.1,a2.2.1,r10.2.1.1,r10.2.1.2.1,r10.2.1.2.2.1,r10.2.1.2.2.2.1,r10.2.1.2.2.2.2.1,r10.2.1.2.2.2.2.2.1,r10.2.1.2.2.2.2.2.2.1,r10.2.1.2.2.2.2.2.2.2.1,r10.2.1.2.2.2.2.2.2.2.2.1,r10.2.1.2.2.2.2.2.2.2.2.2.1,r10.2.1.2.2.2.2.2.2.2.2.2.2.1,());
 .br (!r9.2.1) (
 .leaf (k1,([],()),(k15,()),(false,()))) (
 .br (r10.2.2.1 != 0) (
 .leaf (k1,([],()),(k15,()),(false,()))) (
 .chk (decide (([]:List Az).length+[k4].length<=4294967296)) <|
 .ob (Ii r10.1 r10.2.1) fun r11=>
 .chk (decide (k15.length+[r11].length<=4294967296)) <|
 .leaf ((r1.1,r1.2.1,u10.1,r10.1.1,r10.1.2.1,r10.1.2.2.1,u21.1,u21.2.1,u21.2.2.1,u22.1,u22.2.1,u22.2.2.1,u22.2.2.2.1,u23.1,u23.2.1,u23.2.2.1,u23.2.2.2.1,u23.2.2.2.2.1,r9.1.1,r9.1.2.1,r9.1.2.2.1,u12.2.1,a1.1,u13.1,()),(([]:List Az)++[k4],()),(k15++[r11],()),(true,()))))) (
 .br (a3.1==6) (
 .ob (Pr (u8.2.1,u8.2.2.1,u8.2.2.2.1,()) a1 a2 r4.2.1) fun r12=>letI k9:=(r1.1,r1.2.1,u10.1,r4.1.1,r4.1.2.1,u14.1,u14.2.1,u15.1,u15.2.1,u16.1,u16.2.1,u17.1,u17.2.1,u18.1,u18.2.1,u19.1,u19.2.1,u20.1,r12.1.1,r12.1.2.1,r12.1.2.2.1,u12.2.1,a1.1,u13.1,());
 .br r12.2.1 (
 .ob (Bq (u1.1,())) fun r13=>letI k2:=((9:Int),(0:Int),(0:Int),([]:List YB),r13.1,(0:Int),(0:Int),r4.2.1.1,([]:List YB),a2.1,a2.2.1,a1.1,());letI k16:=[r7]++[k2];
 .chk (decide ([r7].length+[k2].length<=4294967296)) <|
 .ob (Do r12.1 a1 a2 a4) fun r14=>
 .ob k12 fun r15=>letI u24:=r15.1.2.2.2;letI u25:=u24.2.2.2;letI u26:=u25.2.2.2.2;letI k5:=(a2.1,a2.2.1,r15.2.1.1,r15.2.1.2.1,r15.2.1.2.2.1,r15.2.1.2.2.2.1,r15.2.1.2.2.2.2.1,r15.2.1.2.2.2.2.2.1,r15.2.1.2.2.2.2.2.2.1,r15.2.1.2.2.2.2.2.2.2.1,r15.2.1.2.2.2.2.2.2.2.2.1,r15.2.1.2.2.2.2.2.2.2.2.2.1,r15.2.1.2.2.2.2.2.2.2.2.2.2.1,());
 .br (!r14.2.1) (
 .leaf (k9,([],()),(k16,()),(false,()))) (
 .br (r15.2.2.1 != 0) (
 .leaf (k9,([],()),(k16,()),(false,()))) (
 .chk (decide (([]:List Az).length+[k5].length<=4294967296)) <|
 .ob (Ii r15.1 r15.2.1) fun r16=>
 .chk (decide (k16.length+[r16].length<=4294967296)) <|
 .leaf ((r1.1,r1.2.1,u10.1,r15.1.1,r15.1.2.1,r15.1.2.2.1,u24.1,u24.2.1,u24.2.2.1,u25.1,u25.2.1,u25.2.2.1,u25.2.2.2.1,u26.1,u26.2.1,u26.2.2.1,u26.2.2.2.1,u26.2.2.2.2.1,r14.1.1,r14.1.2.1,r14.1.2.2.1,u12.2.1,a1.1,u13.1,()),(([]:List Az)++[k5],()),(k16++[r16],()),(true,()))))) (
 .ob k11 fun r17=>
 .ob k12 fun r18=>letI u27:=r18.1.2.2.2;letI u28:=u27.2.2.2;letI u29:=u28.2.2.2.2;letI k6:=(a2.1,a2.2.1,r18.2.1.1,r18.2.1.2.1,r18.2.1.2.2.1,r18.2.1.2.2.2.1,r18.2.1.2.2.2.2.1,r18.2.1.2.2.2.2.2.1,r18.2.1.2.2.2.2.2.2.1,r18.2.1.2.2.2.2.2.2.2.1,r18.2.1.2.2.2.2.2.2.2.2.1,r18.2.1.2.2.2.2.2.2.2.2.2.1,r18.2.1.2.2.2.2.2.2.2.2.2.2.1,());
 .br (!r17.2.1) (
 .leaf (k1,([],()),([r7],()),(false,()))) (
 .br (r18.2.2.1 != 0) (
 .leaf (k1,([],()),([r7],()),(false,()))) (
 .chk (decide (([]:List Az).length+[k6].length<=4294967296)) <|
 .ob (Ii r18.1 r18.2.1) fun r19=>
 .chk (decide ([r7].length+[r19].length<=4294967296)) <|
 .leaf ((r1.1,r1.2.1,u10.1,r18.1.1,r18.1.2.1,r18.1.2.2.1,u27.1,u27.2.1,u27.2.2.1,u28.1,u28.2.1,u28.2.2.1,u28.2.2.2.1,u29.1,u29.2.1,u29.2.2.1,u29.2.2.2.1,u29.2.2.2.2.1,r17.1.1,r17.1.2.1,r17.1.2.2.1,u12.2.1,a1.1,u13.1,()),(([]:List Az)++[k6],()),([r7]++[r19],()),(true,())))))) (
 .br (a3.1==7) (
 .ob (V8 k1 (u9.1,()) r4.2.1) fun r20=>letI u30:=r20.1.2.2.2;letI u31:=u30.2.2.2;letI u32:=u31.2.2.2;letI u33:=u32.2.2.2;letI u34:=u33.2.2.2;letI u35:=u34.2.2.2.2;letI k13:=([]:List Az)++r20.2.1.1;letI k14:=[r7]++r20.2.2.1;
 .chk (decide (([]:List Az).length+r20.2.1.1.length<=4294967296)) <|
 .chk (decide ([r7].length+r20.2.2.1.length<=4294967296)) <|
 .ob (Do (u34.2.2.2.1,u35.1,u35.2.1,()) a1 a2 a4) fun r21=>
 .ob (Ct (u30.1,u30.2.1,u30.2.2.1,u31.1,u31.2.1,u31.2.2.1,u32.1,u32.2.1,u32.2.2.1,u33.1,u33.2.1,u33.2.2.1,u34.1,u34.2.1,u34.2.2.1,()) (5,()) a4) fun r22=>letI u36:=r22.1.2.2.2;letI u37:=u36.2.2.2;letI u38:=u37.2.2.2.2;letI k7:=(a2.1,a2.2.1,r22.2.1.1,r22.2.1.2.1,r22.2.1.2.2.1,r22.2.1.2.2.2.1,r22.2.1.2.2.2.2.1,r22.2.1.2.2.2.2.2.1,r22.2.1.2.2.2.2.2.2.1,r22.2.1.2.2.2.2.2.2.2.1,r22.2.1.2.2.2.2.2.2.2.2.1,r22.2.1.2.2.2.2.2.2.2.2.2.1,r22.2.1.2.2.2.2.2.2.2.2.2.2.1,());
 .br (!r21.2.1) (
 .leaf (r20.1,(k13,()),(k14,()),(false,()))) (
 .br (r22.2.2.1 != 0) (
 .leaf (r20.1,(k13,()),(k14,()),(false,()))) (
 .chk (decide (k13.length+[k7].length<=4294967296)) <|
 .ob (Ii r22.1 r22.2.1) fun r23=>
 .chk (decide (k14.length+[r23].length<=4294967296)) <|
 .leaf ((r20.1.1,r20.1.2.1,r20.1.2.2.1,r22.1.1,r22.1.2.1,r22.1.2.2.1,u36.1,u36.2.1,u36.2.2.1,u37.1,u37.2.1,u37.2.2.1,u37.2.2.2.1,u38.1,u38.2.1,u38.2.2.1,u38.2.2.2.1,u38.2.2.2.2.1,r21.1.1,r21.1.2.1,r21.1.2.2.1,u35.2.2.1,u35.2.2.2.1,u35.2.2.2.2.1,()),(k13++[k7],()),(k14++[r23],()),(true,()))))) (
 .ob k11 fun r24=>
 .ob k12 fun r25=>letI u39:=r25.1.2.2.2;letI u40:=u39.2.2.2;letI u41:=u40.2.2.2.2;letI k8:=(a2.1,a2.2.1,r25.2.1.1,r25.2.1.2.1,r25.2.1.2.2.1,r25.2.1.2.2.2.1,r25.2.1.2.2.2.2.1,r25.2.1.2.2.2.2.2.1,r25.2.1.2.2.2.2.2.2.1,r25.2.1.2.2.2.2.2.2.2.1,r25.2.1.2.2.2.2.2.2.2.2.1,r25.2.1.2.2.2.2.2.2.2.2.2.1,r25.2.1.2.2.2.2.2.2.2.2.2.2.1,());
 .br (!r24.2.1) (
 .leaf (k1,([],()),([r7],()),(false,()))) (
 .br (r25.2.2.1 != 0) (
 .leaf (k1,([],()),([r7],()),(false,()))) (
 .chk (decide (([]:List Az).length+[k8].length<=4294967296)) <|
 .ob (Ii r25.1 r25.2.1) fun r26=>
 .chk (decide ([r7].length+[r26].length<=4294967296)) <|
 .leaf ((r1.1,r1.2.1,u10.1,r25.1.1,r25.1.2.1,r25.1.2.2.1,u39.1,u39.2.1,u39.2.2.1,u40.1,u40.2.1,u40.2.2.1,u40.2.2.2.1,u41.1,u41.2.1,u41.2.2.1,u41.2.2.2.1,u41.2.2.2.2.1,r24.1.1,r24.1.2.1,r24.1.2.2.1,u12.2.1,a1.1,u13.1,()),(([]:List Az)++[k8],()),([r7]++[r26],()),(true,())))))))))))
def Jn a0 a1 a2 a3 a4:=(Zu a0 a1 a2 a3 a4).val
def Nz (a0:Bc) (a1:YI) (a2:A8) (a3:Ap):Tree (Bc×(List Az×Unit)×(List Aq×Unit)):=
 letI u1:=a0.2.2;letI u2:=u1.2.2.2;letI k3:=(u1.2.2.1,u2.1,());letI k4:=(a3.2.2.2.1,());.ob (M5 k3 k4) fun r1=>letI k5:=idx u2.1 r1.1;
 .br (decide (r1.1<0)) (
 .leaf (a0,([],()),([],()))) (
 .ob k5 fun e2=>
 .br e2.2.2.2.2.2.2.2.2.2.2.2.2.2.2.2.2.2.2.2.2.2.2.2.1 (
 .leaf (a0,([],()),([],()))) (
 .ob (Atu (u1.1,u1.2.1,())) fun r3=>
 .ob (Af3 a0 a2 (51,())) fun r4=>
 .br (!r4.1) (
 .ob k5 fun e5=>
 .ob (Jn e5 a1 a2 a3 ([],())) fun r6=>
 .ob (Ho k3 r1 r6.1) fun r7=>
 .br r6.2.2.2.1 (
 .ob (Bq k4) fun r8=>
 .ob (Bq ([],())) fun r9=>letI k2:=((7:Int),(0:Int),(0:Int),([]:List YB),r8.1,(0:Int),(0:Int),r9.1,([]:List YB),a2.1,a2.2.1,a1.1,());
 .ob (L0 ([],())) fun r10=>
 .chk (decide ([r10].length+r6.2.2.1.1.length<=4294967296)) <|
 .chk (decide (([r10]++r6.2.2.1.1).length+[k2].length<=4294967296)) <|
 .leaf ((a0.1,a0.2.1,r3.1.1,r3.1.2.1,r7.1.1,r7.1.2.1,u2.2.1,()),r6.2.1,(([r10]++r6.2.2.1.1)++[k2],()))) (
 .leaf ((a0.1,a0.2.1,u1.1,u1.2.1,r7.1.1,r7.1.2.1,u2.2.1,()),r6.2.1,r6.2.2.1))) (
 .ob k5 fun e11=>
 .ob (Jn e11 a1 a2 a3 r3.2) fun r12=>
 .ob (Ho k3 r1 r12.1) fun r13=>
 .br r12.2.2.2.1 (
 .ob (Bq k4) fun r14=>
 .ob (Bq r3.2) fun r15=>letI k1:=((7:Int),(0:Int),(0:Int),([]:List YB),r14.1,(0:Int),(0:Int),r15.1,([]:List YB),a2.1,a2.2.1,a1.1,());
 .ob (L0 r3.2) fun r16=>
 .chk (decide ([r16].length+r12.2.2.1.1.length<=4294967296)) <|
 .chk (decide (([r16]++r12.2.2.1.1).length+[k1].length<=4294967296)) <|
 .leaf ((a0.1,a0.2.1,r3.1.1,r3.1.2.1,r13.1.1,r13.1.2.1,u2.2.1,()),r12.2.1,(([r16]++r12.2.2.1.1)++[k1],()))) (
 .leaf ((a0.1,a0.2.1,u1.1,u1.2.1,r13.1.1,r13.1.2.1,u2.2.1,()),r12.2.1,r12.2.2.1)))))
def Ki a0 a1 a2 a3:=(Nz a0 a1 a2 a3).val
def As1 (a0:Ap):Tree (YI):=
 .ob (El a0) fun r1=>
 .leaf ((r1.1.length:Int),())
def Af8 a0:=(As1 a0).val
def Ay0 (a0:List An×Unit) (a1:A8) (a2:YI):Tree ((List An×Unit)×(Bool×Unit)):=
 .ob (M4 a0) fun r1=>
 .ob (Oo a0 a1) fun r2=>
 .ob (Mo a0) fun r3=>
 .br (!r3.1) (
 .leaf (r1,(false,()))) (
 .br (decide (r2.1<0)) (
 .leaf (r1,(false,()))) (
 .ob (K6 a0 a1) fun r4=>
 .ob (Bl a2 (0,()) r4) fun r5=>
 .br (!r5.1) (
 .leaf (r1,(false,()))) (
 .ob (idx r1.1 r2.1) fun e6=>
 .ob (idx r1.1 r2.1) fun e7=>
 let q8:=(r1.1.set (r2.1).toNat (e7.1,e7.2.1,e7.2.2.1,i64.wrap (e6.2.2.2.1+a2.1),()))
 .leaf ((q8,()),(true,())))))
def Azn a0 a1 a2:=(Ay0 a0 a1 a2).val
def Dx:Lst (List Aq×List Az×List Az×Int×Int×List YBs×List YB×List YB×Int×Int×List Al×List An×List YBs×List YB×List YB×Int×Int×List Al×List An×Unit) (List Aq×List Az×List YBs×List YB×List YB×Int×Int×List Al×List An×List YBs×List YB×List YB×Int×Int×List Al×List An×Unit):=fun x7=>
 letI u1:=x7.2.2;letI u2:=u1.2.2;letI u3:=u2.2.2;letI u4:=u3.2.2;letI u5:=u4.2.2;letI u6:=u5.2.2;letI u7:=u6.2.2;letI u8:=u7.2.2;letI k1:=Nat.ble (Int.toNat u2.1+1) (Int.toNat (i64.wrap (u2.1+(1:Int))));letI k2:=i64.wrap (u2.1+(1:Int));Tree.val <|
 .br (decide (u2.1<u1.2.1)) (
 .chk (Nat.beq (Int.toNat u2.1) (Int.toNat u2.1)) <|
 .ob (idx u1.1 u2.1) fun e8=>letI u9:=e8.2.2.2;letI u10:=u9.2.2.2;letI u11:=u10.2.2.2;letI k3:=decide (x7.2.1.length+[e8].length<=4294967296);
 .ob (Abq (u8.1,u8.2.1,()) (e8.1,e8.2.1,())) fun r9=>
 .br (!r9.1) (
 .ob (Af8 (e8.2.2.1,u9.1,u9.2.1,u9.2.2.1,u10.1,u10.2.1,u10.2.2.1,u11.1,u11.2.1,u11.2.2.1,u11.2.2.2.1,())) fun r10=>
 .ob (Azn (u8.2.2.1,()) (e8.1,e8.2.1,()) r10) fun r11=>
 .br (!r11.2.1) (
 .chk k1 <|
 .leaf (.inl (x7.1,x7.2.1,u1.1,u1.2.1,k2,u2.2.1,u3.1,u3.2.1,u4.1,u4.2.1,u5.1,u5.2.1,u6.1,u6.2.1,u7.1,u7.2.1,u8.1,u8.2.1,u8.2.2.1,()))) (
 .chk k3 <|
 .chk k1 <|
 .leaf (.inl (x7.1,x7.2.1++[e8],u1.1,u1.2.1,k2,u2.2.1,u3.1,u3.2.1,u4.1,u4.2.1,u5.1,u5.2.1,u6.1,u6.2.1,u7.1,u7.2.1,u8.1,u8.2.1,r11.1.1,())))) (
 .chk k3 <|
 .chk k1 <|
 .leaf (.inl (x7.1,x7.2.1++[e8],u1.1,u1.2.1,k2,u2.2.1,u3.1,u3.2.1,u4.1,u4.2.1,u5.1,u5.2.1,u6.1,u6.2.1,u7.1,u7.2.1,u8.1,u8.2.1,u8.2.2.1,())))) (
 .leaf (.inr (x7.1,x7.2.1,u2.2.1,u3.1,u3.2.1,u4.1,u4.2.1,u5.1,u5.2.1,u6.1,u6.2.1,u7.1,u7.2.1,u8.1,u8.2.1,u8.2.2.1,())))
def Tz (a0:Bc) (a1:YI) (a2:A8) (a3:YBs):Tree (Bc×(List Az×Unit)×(List Aq×Unit)):=
 .ob (Abn a0) fun r1=>letI u1:=r1.2.2;letI u2:=u1.2.2;
 .ob (Su a0) fun r2=>
 .br (!r2.1) (
 .leaf (r1,([],()),([],()))) (
 .ob (Bl a1 (0,()) (1000000,())) fun r3=>
 .br (!r3.1) (
 .leaf (r1,([],()),([],()))) (
 .ob (Ha a2) fun r4=>
 .br (!r4.1) (
 .leaf (r1,([],()),([],()))) (
 .ob (A5c (a0.2.2.2.2.2.2.1,()) a2 ((a3.1.length:Int),())) fun r5=>letI k1:=A0 Dx (([]:List Aq),([]:List Az),([]:List Az),(([]:List Az).length:Int),(0:Int),([]:List YBs),([]:List YB),([]:List YB),(0:Int),(0:Int),([]:List Al),([]:List An),r1.1,r1.2.1,u1.1,u1.2.1,u2.1,u2.2.1,r5.1,());letI k2:=(r1.1,r1.2.1,u1.1,u1.2.1,u2.1,u2.2.1,r5.1,());
 .ob (Jm a3) fun r6=>
 .br (!r6.2.1) (
 .ob k1 fun o12=>letI u3:=o12.2.2.2.2.2.2.2.2.2;letI u4:=u3.2.2.2;
 .leaf ((u3.1,u3.2.1,u3.2.2.1,u4.1,u4.2.1,u4.2.2.1,u4.2.2.2.1,()),(o12.2.1,()),(o12.1,()))) (
 .br (r6.1.1==1) (
 .ob (Sx k2 a1 a2 r6.1) fun r13=>letI u5:=r13.1.2.2.2;
 .ob (A0 Dx (r13.2.2.1,[],r13.2.1.1,(r13.2.1.1.length:Int),0,[],[],[],0,0,[],[],r13.1.1,r13.1.2.1,r13.1.2.2.1,u5.1,u5.2.1,u5.2.2.1,u5.2.2.2.1,())) fun o14=>letI u6:=o14.2.2.2.2.2.2.2.2.2;letI u7:=u6.2.2.2;
 .leaf ((u6.1,u6.2.1,u6.2.2.1,u7.1,u7.2.1,u7.2.2.1,u7.2.2.2.1,()),(o14.2.1,()),(o14.1,()))) (
 .br (r6.1.1==3) (
 .ob (Oq k2 a1 a2 r6.1) fun r15=>letI u8:=r15.1.2.2.2;
 .ob (A0 Dx (r15.2.2.1,[],r15.2.1.1,(r15.2.1.1.length:Int),0,[],[],[],0,0,[],[],r15.1.1,r15.1.2.1,r15.1.2.2.1,u8.1,u8.2.1,u8.2.2.1,u8.2.2.2.1,())) fun o16=>letI u9:=o16.2.2.2.2.2.2.2.2.2;letI u10:=u9.2.2.2;
 .leaf ((u9.1,u9.2.1,u9.2.2.1,u10.1,u10.2.1,u10.2.2.1,u10.2.2.2.1,()),(o16.2.1,()),(o16.1,()))) (
 .ob (M6 (r6.1.1,())) fun r17=>
 .br r17.1 (
 .ob (Ki k2 a1 a2 r6.1) fun r18=>letI u11:=r18.1.2.2.2;
 .ob (A0 Dx (r18.2.2.1,[],r18.2.1.1,(r18.2.1.1.length:Int),0,[],[],[],0,0,[],[],r18.1.1,r18.1.2.1,r18.1.2.2.1,u11.1,u11.2.1,u11.2.2.1,u11.2.2.2.1,())) fun o19=>letI u12:=o19.2.2.2.2.2.2.2.2.2;letI u13:=u12.2.2.2;
 .leaf ((u12.1,u12.2.1,u12.2.2.1,u13.1,u13.2.1,u13.2.2.1,u13.2.2.2.1,()),(o19.2.1,()),(o19.1,()))) (
 .ob k1 fun o20=>letI u14:=o20.2.2.2.2.2.2.2.2.2;letI u15:=u14.2.2.2;
 .leaf ((u14.1,u14.2.1,u14.2.2.1,u15.1,u15.2.1,u15.2.2.1,u15.2.2.2.1,()),(o20.2.1,()),(o20.1,())))))))))
def Abu a0 a1 a2 a3:=(Tz a0 a1 a2 a3).val
def Mk:Lst (Int×List YBs×List YB×List YB×Int×Int×List Al×List An×List YBs×List YB×List YB×Int×Int×List Al×List An×List YBs×List YB×List YB×Int×Int×List Al×List An×Unit) (List YBs×List YB×List YB×Int×Int×List Al×List An×List YBs×List YB×List YB×Int×Int×List Al×List An×Unit):=fun x3=>
 letI u1:=x3.2.2.2.2;letI u2:=u1.2.2.2.2;letI u3:=u2.2.2;letI u4:=u3.2.2;letI u5:=u4.2.2;letI u6:=u5.2.2;letI u7:=u6.2.2.2;Tree.val <|
 .br (decide (x3.1<(x3.2.1.length:Int))) (
 .ob (idx x3.2.1 x3.1) fun e4=>letI k1:=(([]:List YB)++e4.1,());
 .chk (decide (([]:List YB).length+e4.1.length<=4294967296)) <|
 .chk (decide (x3.2.2.2.2.2.2.2.2.2.2.2.2.2.2.2.1.length+[k1].length<=4294967296)) <|
 .leaf (.inl (i64.wrap (x3.1+1),x3.2.1,x3.2.2.1,x3.2.2.2.1,u1.1,u1.2.1,u1.2.2.1,u1.2.2.2.1,u2.1,u2.2.1,u3.1,u3.2.1,u4.1,u4.2.1,u5.1,u5.2.1++[k1],u6.1,u6.2.1,u6.2.2.1,u7.1,u7.2.1,u7.2.2.1,()))) (
 .leaf (.inr (u2.1,u2.2.1,u3.1,u3.2.1,u4.1,u4.2.1,u5.1,u5.2.1,u6.1,u6.2.1,u6.2.2.1,u7.1,u7.2.1,u7.2.2.1,())))
def Amy (a0:Bc):Tree (Bc):=
 letI u1:=a0.2.2;letI u2:=u1.2.2;.chk (decide (([]:List YB).length+a0.2.1.length<=4294967296)) <|
 .ob (Ac3 (u1.1,u1.2.1,())) fun r1=>
 .ob (Ac6 (u2.1,u2.2.1,())) fun r2=>
 .chk (decide (([]:List An).length+a0.2.2.2.2.2.2.1.length<=4294967296)) <|
 .ob (A0 Mk (0,a0.1,a0.2.1,u1.1,u1.2.1,u2.1,u2.2.1,u2.2.2.1,[],[],[],0,0,[],[],[],([]:List YB)++a0.2.1,r1.1,r1.2.1,r2.1,r2.2.1,([]:List An)++u2.2.2.1,())) fun o5=>letI u3:=o5.2.2.2.2.2.2.2;letI u4:=u3.2.2.2;
 .leaf (u3.1,u3.2.1,u3.2.2.1,u4.1,u4.2.1,u4.2.2.1,u4.2.2.2.1,())
def Ang a0:=(Amy a0).val
def Aic (a0:YBs):Tree (Ap×(Bool×Unit)):=
 letI k1:=(a0.1.length:Int);letI k6:=(a0.1.take (14:Int).toNat).drop (2:Int).toNat;letI k7:=(a0.1.take (13:Int).toNat).drop (1:Int).toNat;letI k8:=a0.1.take (k1).toNat;letI k10:=(a0.1.take (25:Int).toNat).drop (13:Int).toNat;letI k11:=(a0.1.take (26:Int).toNat).drop (14:Int).toNat;letI k12:=(a0.1.take (46:Int).toNat).drop (30:Int).toNat;letI k13:=(a0.1.take (39:Int).toNat).drop (23:Int).toNat;letI k14:=decide (([]:List YB).length+k6.length<=4294967296);letI k15:=decide (([]:List YB).length+k7.length<=4294967296);letI k16:=decide (k1<=k1);letI k17:=k8.drop (29:Int).toNat;letI k18:=k8.drop (46:Int).toNat;letI k19:=k8.drop (39:Int).toNat;letI k20:=decide ((14:Int)<=k1);letI k21:=decide ((13:Int)<=k1);letI k22:=decide ((46:Int)<=k1);letI k23:=decide ((39:Int)<=k1); .br (k1==0) (
 .leaf ((0,0,[],[],0,[],[],0,0,[],[],()),(false,()))) (
 .ob (idx a0.1 0) fun e1=>letI k9:=i64.wrap (e1.1);
 .br (k9==1) (
 .br (k1 != 34) (
 .leaf ((0,0,[],[],0,[],[],0,0,[],[],()),(false,()))) (
 .ob (idx a0.1 1) fun e2=>letI k5:=(k9,i64.wrap e2.1,([]:List YB)++k6,([]:List YB),(0:Int),([]:List YB),([]:List YB),(0:Int),(0:Int),([]:List YB),([]:List YB),());
 .chk k20 <|
 .chk k14 <|
 .ob (Ft k5) fun r3=>
 .br (!(decide ((Ht r3.1)=(Ht a0.1)))) (
 .leaf ((0,0,[],[],0,[],[],0,0,[],[],()),(false,()))) (
 .leaf (k5,(true,()))))) (
 .br (k9==2) (
 .br (k1 != 45) (
 .leaf ((0,0,[],[],0,[],[],0,0,[],[],()),(false,()))) (
 .chk k21 <|
 .chk k15 <|
 .chk (decide (25<=k1)) <|
 .chk (decide (([]:List YB).length+k10.length<=4294967296)) <|
 .ob (Wg a0 (25,()) (4,())) fun r4=>letI k3:=(k9,(0:Int),([]:List YB)++k7,([]:List YB)++k10,r4.1.1,([]:List YB)++k17,([]:List YB),(0:Int),(0:Int),([]:List YB),([]:List YB),());
 .chk (decide (29<=k1)) <|
 .chk k16 <|
 .chk (decide (([]:List YB).length+k17.length<=4294967296)) <|
 .ob (Ft k3) fun r5=>
 .br (!(decide ((Ht r5.1)=(Ht a0.1)))) (
 .leaf ((0,0,[],[],0,[],[],0,0,[],[],()),(false,()))) (
 .leaf (k3,(true,()))))) (
 .br (k9==3) (
 .br (k1 != 62) (
 .leaf ((0,0,[],[],0,[],[],0,0,[],[],()),(false,()))) (
 .ob (idx a0.1 1) fun e6=>
 .chk k20 <|
 .chk k14 <|
 .chk (decide (26<=k1)) <|
 .chk (decide (([]:List YB).length+k11.length<=4294967296)) <|
 .ob (Wg a0 (26,()) (4,())) fun r7=>letI k2:=(k9,i64.wrap e6.1,([]:List YB)++k6,([]:List YB)++k11,r7.1.1,([]:List YB)++k12,([]:List YB)++k18,(0:Int),(0:Int),([]:List YB),([]:List YB),());
 .chk k22 <|
 .chk (decide (([]:List YB).length+k12.length<=4294967296)) <|
 .chk k22 <|
 .chk k16 <|
 .chk (decide (([]:List YB).length+k18.length<=4294967296)) <|
 .ob (Ft k2) fun r8=>
 .br (!(decide ((Ht r8.1)=(Ht a0.1)))) (
 .leaf ((0,0,[],[],0,[],[],0,0,[],[],()),(false,()))) (
 .leaf (k2,(true,()))))) (
 .br (decide (k1<39)) (
 .leaf ((0,0,[],[],0,[],[],0,0,[],[],()),(false,()))) (
 .chk k21 <|
 .chk k15 <|
 .ob (Wg a0 (13,()) (4,())) fun r9=>
 .ob (Wg a0 (17,()) (6,())) fun r10=>letI k4:=(k9,(0:Int),([]:List YB),([]:List YB)++k7,(0:Int),([]:List YB),([]:List YB),r9.1.1,r10.1.1,([]:List YB)++k19,([]:List YB)++k13,());
 .chk k23 <|
 .chk (decide (([]:List YB).length+k13.length<=4294967296)) <|
 .chk k23 <|
 .chk k16 <|
 .chk (decide (([]:List YB).length+k19.length<=4294967296)) <|
 .ob (Ft k4) fun r11=>
 .br (!(decide ((Ht r11.1)=(Ht a0.1)))) (
 .leaf ((0,0,[],[],0,[],[],0,0,[],[],()),(false,()))) (
 .leaf (k4,(true,()))))))))
def Aae a0:=(Aic a0).val
def Zv:Lst (Int×Int×List Al×Int×Int×Unit) ((Bool×Unit)⊕(Unit)):=fun x1=>
 letI u1:=x1.2.2;letI k1:=(i64.wrap (x1.1+(1:Int)),x1.2.1,u1.1,u1.2.1,u1.2.2.1,());Tree.val <|
 .br (decide (x1.1<(x1.2.2.1.length:Int))) (
 .ob (idx u1.1 x1.1) fun e2=>
 .br (!e2.2.2.2.2.2.2.2.2.2.2.2.2.2.2.2.2.2.2.2.2.2.2.2.1) (
 .ob (idx u1.1 x1.1) fun e3=>letI u2:=e3.2.2.2.2.2.2.2.2.2.2.2.2.2.2.2.2.2.2;
 .br (and (u2.1==u1.2.1) (and (u2.2.1==u1.2.2.1) true)) (
 .leaf (.inr (.inl (true,())))) (
 .leaf (.inl k1))) (
 .leaf (.inl k1))) (
 .leaf (.inr (.inr ())))
def A41 (a0:Ck) (a1:A8):Tree (Bool×Unit):=
 .ob (A0 Zv (0,a0.1,a0.2.1,a1.1,a1.2.1,())) fun o4=>
 .sm o4 (fun o5=>
 .leaf o5) (fun o6=>
 .leaf (false,()))
def Ai0 a0 a1:=(A41 a0 a1).val
def As2 (a0:Bc) (a1:A8) (a2:YI):Tree (Bool×Unit):=
 letI u1:=a0.2.2.2.2;.ob (Ai0 (u1.1,u1.2.1,()) a1) fun r1=>
 .br r1.1 (
 .leaf (true,())) (
 .ob (Jc (u1.2.2.1,()) a1) fun r2=>
 .leaf (decide (r2.1≥a2.1),()))
def Uc a0 a1 a2:=(As2 a0 a1 a2).val
def Ae4 (a0:YBs):Tree (Aq):=
 .chk (decide (([]:List YB).length+a0.1.length<=4294967296)) <|
 .leaf (14,0,0,[],[],0,0,([]:List YB)++a0.1,[],0,0,0,())
def Qr a0:=(Ae4 a0).val
def A43 (a0 a1:YBs):Tree (Aq):=
 .chk (decide (([]:List YB).length+a0.1.length<=4294967296)) <|
 .chk (decide (([]:List YB).length+a1.1.length<=4294967296)) <|
 .leaf (15,0,0,[],[],0,0,([]:List YB)++a1.1,([]:List YB)++a0.1,0,0,0,())
def At3 a0 a1:=(A43 a0 a1).val
def Ay3 (a0 a1:YI):Tree (Bool×Unit):=
 .ob (Bs a0 (0,()) (1000000,())) fun r1=>
 .br r1.1 (
 .ob (Bs a1 (0,()) (1000000,())) fun r2=>
 .br r2.1 (
 .ob (Bs (i64.wrap (a0.1-a1.1),()) (0,()) (10,())) fun r3=>
 .leaf r3) (
 .leaf (false,()))) (
 .leaf (false,()))
def Azo a0 a1:=(Ay3 a0 a1).val
def Zw:Lst (List YB×List YB×Int×Int×Unit) (YI):=fun x1=>
 letI u1:=x1.2.2;Tree.val <|
 .br (decide (u1.2.1<(x1.1.length:Int))) (
 .ob (idx x1.1 u1.2.1) fun e2=>
 .ob (idx x1.2.1 u1.2.1) fun e3=>
 .leaf (.inl (x1.1,x1.2.1,i64.wrap ((BitVec.ofInt i64.bits u1.1 ||| BitVec.ofInt i64.bits (i64.wrap (u8.wrap ((BitVec.ofInt u8.bits e2.1 ^^^ BitVec.ofInt u8.bits e3.1).toNat:Nat)))).toNat:Nat),i64.wrap (u1.2.1+1),()))) (
 .leaf (.inr (u1.1,())))
def A44 (a0 a1:YBs):Tree (YI):=
 .br ((a0.1.length:Int) != (a1.1.length:Int)) (
 .leaf (-1,())) (
 .ob (A0 Zw (a0.1,a1.1,0,0,())) fun o4=>
 .leaf o4)
def A5e a0 a1:=(A44 a0 a1).val
def Amz (a0 a1:YBs):Tree (Bool×Unit):=
 .br ((a0.1.length:Int)==16) (
 .ob (A5e a0 a1) fun r1=>
 .leaf (r1.1==0,())) (
 .leaf (false,()))
def Vh a0 a1:=(Amz a0 a1).val
def Ay4 (a0:YBs) (a1:YI) (a2:A8) (a3:Ap):Tree (YI):=
 letI u1:=a3.2.2.2;.ob (Akf a0) fun r1=>
 .br (!r1.1) (
 .leaf (1,())) (
 .ob (Bs a1 (0,()) (1000000,())) fun r2=>
 .br (!r2.1) (
 .leaf (1,())) (
 .ob (Gr a2) fun r3=>
 .br (!r3.1) (
 .leaf (1,())) (
 .ob (I9 a3) fun r4=>
 .br (!r4.1) (
 .leaf (1,())) (
 .br (a3.1 != 3) (
 .leaf (1,())) (
 .ob (Azo a1 (u1.2.1,())) fun r5=>
 .br (!r5.1) (
 .leaf (9,())) (
 .ob (Sr a0 a2 (a3.2.1,()) (a3.2.2.1,()) (u1.1,()) (u1.2.1,())) fun r6=>
 .ob (Vh (u1.2.2.1,()) r6) fun r7=>
 .br (!r7.1) (
 .leaf (2,())) (
 .leaf (0,()))))))))
def Azp a0 a1 a2 a3:=(Ay4 a0 a1 a2 a3).val
def Am0 (a0:YBs) (a1:Ap):Tree (Bool×Unit):=
 letI u1:=a1.2.2.2;.ob (I9 a1) fun r1=>
 .br r1.1 (
 .br (a1.1==3) (
 .ob (W7 a0 (a1.2.1,()) (a1.2.2.1,()) (u1.1,()) (u1.2.1,()) (u1.2.2.1,())) fun r2=>
 .ob (Vh (u1.2.2.2.1,()) r2) fun r3=>
 .leaf r3) (
 .leaf (false,()))) (
 .leaf (false,()))
def Anh a0 a1:=(Am0 a0 a1).val
def A46 (a0 a1 a2:YBs):Tree (Aq):=
 .chk (decide (([]:List YB).length+a0.1.length<=4294967296)) <|
 .chk (decide (([]:List YB).length+a1.1.length<=4294967296)) <|
 .chk (decide (([]:List YB).length+a2.1.length<=4294967296)) <|
 .leaf (16,0,0,[],([]:List YB)++a1.1,0,0,([]:List YB)++a2.1,([]:List YB)++a0.1,0,0,0,())
def Ai1 a0 a1 a2:=(A46 a0 a1 a2).val
def As3 (a0:YEp) (a1:YI) (a2:YBs) (a3:YI) (a4:YBs):Tree (YEp×Ap×YI):=
 letI u1:=a0.2.2;letI k2:=B6 (a0.2.1,()) a1 a2 (a0.1,()) (u1.1,()) a3 a4;letI k3:=u1.1==(281474976710656:Int);.ob (T6 a0) fun r1=>letI u2:=r1.2.2.2;letI k1:=(r1.1,r1.2.1,i64.wrap (u1.1+(1:Int)),u2.1,u2.2.1,());
 .ob (Wi a0) fun r2=>
 .br (!r2.1) (
 .leaf (r1,(0,0,[],[],0,[],[],0,0,[],[],()),(1,()))) (
 .ob (T7 a1 a2 (a0.1,()) (0,())) fun r3=>
 .br ((r3.1.length:Int)==0) (
 .leaf (r1,(0,0,[],[],0,[],[],0,0,[],[],()),(1,()))) (
 .ob (M0 a3) fun r4=>
 .br (!r4.1) (
 .leaf (r1,(0,0,[],[],0,[],[],0,0,[],[],()),(1,()))) (
 .ob (Z2 a3 ((a4.1.length:Int),())) fun r5=>
 .br (!r5.1) (
 .leaf (r1,(0,0,[],[],0,[],[],0,0,[],[],()),(1,()))) (
 .br (a3.1==4) (
 .br (decide (u1.1≥281474976709656)) (
 .leaf (r1,(0,0,[],[],0,[],[],0,0,[],[],()),(4,()))) (
 .br k3 (
 .leaf (r1,(0,0,[],[],0,[],[],0,0,[],[],()),(5,()))) (
 .ob k2 fun r6=>
 .leaf (k1,r6.1,(0,()))))) (
 .br k3 (
 .leaf (r1,(0,0,[],[],0,[],[],0,0,[],[],()),(5,()))) (
 .ob k2 fun r7=>
 .leaf (k1,r7.1,(0,()))))))))
def At4 a0 a1 a2 a3 a4:=(As3 a0 a1 a2 a3 a4).val
def Aif (a0:Au) (a1:YI) (a2:YBs):Tree (Au×Ap×YI):=
 letI u1:=a0.2.2.2;.ob (Jb a0) fun r1=>letI u2:=r1.2.2.2.2.2.2.2;letI u3:=u2.2.2.2;
 .ob (Kr a0) fun r2=>
 .br (!r2.1) (
 .leaf (r1,(0,0,[],[],0,[],[],0,0,[],[],()),(1,()))) (
 .ob (At4 (a0.2.2.1,u1.1,u1.2.1,u1.2.2.1,u1.2.2.2.1,()) (a0.1,()) (a0.2.1,()) a1 a2) fun r3=>
 .br (r3.2.2.1==0) (
 .leaf ((r1.1,r1.2.1,r3.1.1,r3.1.2.1,r3.1.2.2.1,r3.1.2.2.2.1,r3.1.2.2.2.2.1,u2.1,u2.2.1,u2.2.2.1,u3.1,u3.2.1,u3.2.2.1,u3.2.2.2.1,u3.2.2.2.2.1,()),r3.2.1,r3.2.2)) (
 .leaf (r1,r3.2.1,r3.2.2)))
def Du a0 a1 a2:=(Aif a0 a1 a2).val
def Ba0 (a0:Au):Tree (Au×Ap×YI):=
 .ob (Kr a0) fun r1=>
 .br (!r1.1) (
 .ob (Jb a0) fun r2=>
 .leaf (r2,(0,0,[],[],0,[],[],0,0,[],[],()),(6,()))) (
 .br (a0.1 != 1) (
 .ob (Jb a0) fun r3=>
 .leaf (r3,(0,0,[],[],0,[],[],0,0,[],[],()),(6,()))) (
 .ob (Fp (a0.2.2.1,())) fun r4=>
 .ob (Du a0 (8,()) r4) fun r5=>
 .leaf (r5.1,r5.2.1,r5.2.2)))
def Apa a0:=(Ba0 a0).val
def Am2 (a0:Au) (a1:Ap):Tree (Aq):=
 .ob (Ly (a0.1,()) a1) fun r1=>
 .ob (At3 (a0.2.2.2.1,()) r1) fun r2=>
 .leaf r2
def Hp a0 a1:=(Am2 a0 a1).val
def Am3 (a0:Al):Tree (Al×(List Az×Unit)×(List Aq×Unit)):=
 letI u1:=a0.2.2.2;letI u2:=u1.2.2;letI u3:=u2.2.2.2;letI u4:=u3.2.2.2;letI u5:=u4.2.2.2;letI u6:=u5.2.2.2;.ob (Nu a0) fun r1=>letI u7:=r1.2.2.2.2.2.2.2.2.2.2.2.2.2.2.2.2.2.2;
 .ob (Po a0) fun r2=>
 .br (!r2.1) (
 .leaf (r1,([],()),([],()))) (
 .br u6.2.2.2.2.2.2.1 (
 .leaf (r1,([],()),([],()))) (
 .br (u2.1 != 0) (
 .leaf (r1,([],()),([],()))) (
 .ob (Apa (u1.1,u1.2.1,u2.1,u2.2.1,u2.2.2.1,u3.1,u3.2.1,u3.2.2.1,u4.1,u4.2.1,u4.2.2.1,u5.1,u5.2.1,u5.2.2.1,u6.1,())) fun r3=>letI u8:=r3.1.2.2.2;letI u9:=u8.2.2.2;letI u10:=u9.2.2.2.2;
 .br (r3.2.2.1 != 0) (
 .leaf (r1,([],()),([],()))) (
 .ob (Hp r3.1 r3.2.1) fun r4=>
 .leaf ((r1.1,r1.2.1,r1.2.2.1,r3.1.1,r3.1.2.1,r3.1.2.2.1,u8.1,u8.2.1,u8.2.2.1,u9.1,u9.2.1,u9.2.2.1,u9.2.2.2.1,u10.1,u10.2.1,u10.2.2.1,u10.2.2.2.1,u10.2.2.2.2.1,u7.1,u7.2.1,u7.2.2.1,u7.2.2.2.1,u7.2.2.2.2.1,u7.2.2.2.2.2.1,()),([(u6.2.1,u6.2.2.1,r3.2.1.1,r3.2.1.2.1,r3.2.1.2.2.1,r3.2.1.2.2.2.1,r3.2.1.2.2.2.2.1,r3.2.1.2.2.2.2.2.1,r3.2.1.2.2.2.2.2.2.1,r3.2.1.2.2.2.2.2.2.2.1,r3.2.1.2.2.2.2.2.2.2.2.1,r3.2.1.2.2.2.2.2.2.2.2.2.1,r3.2.1.2.2.2.2.2.2.2.2.2.2.1,())],()),([r4],()))))))
def Vi a0:=(Am3 a0).val
def As4 (a0:YBs) (a1:YI) (a2:Ap):Tree (YBs×(Bool×Unit)):=
 letI u1:=a2.2.2.2.2.2.2.2;.ob (Ly a1 a2) fun r1=>
 .br ((a0.1.length:Int) != 32) (
 .leaf (([],()),(false,()))) (
 .br ((r1.1.length:Int)==0) (
 .leaf (([],()),(false,()))) (
 .ob (Agl a0 r1) fun r2=>
 .ob (Vh (u1.2.2.2.1,()) r2) fun r3=>
 .br (!r3.1) (
 .leaf (([],()),(false,()))) (
 .ob (T7 a1 (a2.2.2.2.1,()) (u1.1,()) (u1.2.1,())) fun r4=>
 .ob (A06 a0 r4 (u1.2.2.1,())) fun r5=>
 .leaf (r5,(true,())))))
def At5 a0 a1 a2:=(As4 a0 a1 a2).val
def As5 (a0:YEp) (a1:YI) (a2:Ap):Tree (YEp×YBs×YI):=
 letI u1:=a0.2.2.2;letI u2:=a2.2.2.2.2.2.2.2;.ob (T6 a0) fun r1=>
 .ob (Wi a0) fun r2=>
 .br (!r2.1) (
 .leaf (r1,([],()),(1,()))) (
 .ob (Ly a1 a2) fun r3=>
 .br ((r3.1.length:Int)==0) (
 .leaf (r1,([],()),(1,()))) (
 .br (u2.1 != a0.1) (
 .leaf (r1,([],()),(1,()))) (
 .ob (Af1 (u1.1,u1.2.1,()) (u2.2.1,())) fun r4=>
 .br (!r4.1) (
 .leaf (r1,([],()),(3,()))) (
 .ob (At5 (a0.2.1,()) a1 a2) fun r5=>
 .br (!r5.2.1) (
 .leaf (r1,([],()),(2,()))) (
 .ob (Z4 (u1.1,u1.2.1,()) (u2.2.1,())) fun r6=>
 .leaf ((r1.1,r1.2.1,r1.2.2.1,r6.1.1,r6.1.2.1,()),r5.1,(0,())))))))
def M9 a0 a1 a2:=(As5 a0 a1 a2).val
def Zx (a0:Au) (a1:YI) (a2:Ap):Tree (Au×YBs×YI):=
 letI u1:=a0.2.2;letI u2:=u1.2.2;letI u3:=u2.2.2.2;letI u4:=u3.2.2;letI u5:=u4.2.2;letI u6:=u5.2.2;letI u7:=a2.2.2.2.2.2.2.2;letI k2:=(i64.wrap ((1:Int)-a0.1),());letI k3:=i64.wrap (u1.1+(1:Int));letI k4:=decide ((a0.2.2.2.2.2.2.2.2.2.2.2.2.2.2.1.length:Int)>(0:Int));letI k5:=i64.wrap (a1.1+(5:Int));letI k6:=M9 (u3.1,u3.2.1,u4.1,u4.2.1,u5.1,()) k2 a2;letI k7:=Gl (k3,()) (u6.2.1,());.ob (Jb a0) fun r1=>letI u8:=r1.2.2;letI u9:=u8.2.2;letI u10:=u9.2.2;letI u11:=u10.2.2;letI u12:=u11.2.2;letI u13:=u12.2.2;letI u14:=u13.2.2;
 .ob (Kr a0) fun r2=>
 .br (!r2.1) (
 .leaf (r1,([],()),(1,()))) (
 .ob (Bs a1 (0,()) (1000000,())) fun r3=>
 .br (!r3.1) (
 .leaf (r1,([],()),(1,()))) (
 .ob (I9 a2) fun r4=>
 .br (!r4.1) (
 .leaf (r1,([],()),(1,()))) (
 .ob (M0 (a2.1,())) fun r5=>
 .br (!r5.1) (
 .leaf (r1,([],()),(1,()))) (
 .ob (Mz (a2.2.2.2.1,()) (a0.2.1,())) fun r6=>
 .br (!r6.1) (
 .leaf (r1,([],()),(8,()))) (
 .br (u7.1==u1.1) (
 .ob (M9 (u1.1,u1.2.1,u2.1,u2.2.1,u2.2.2.1,()) k2 a2) fun r7=>letI u15:=r7.1.2.2;letI k1:=(r1.1,r1.2.1,r7.1.1,r7.1.2.1,u15.1,u15.2.1,u15.2.2.1,u10.2.1,u11.1,u11.2.1,u12.1,u12.2.1,u13.1,u13.2.1,u14.1,());
 .br (r7.2.2.1 != 0) (
 .leaf (r1,([],()),r7.2.2)) (
 .br u5.2.1 (
 .br (u6.1==(-1:Int)) (
 .leaf ((r1.1,r1.2.1,r7.1.1,r7.1.2.1,u15.1,u15.2.1,u15.2.2.1,u10.2.1,u11.1,u11.2.1,u12.1,u12.2.1,u13.1,k5,u14.1,()),r7.2.1,(0,()))) (
 .leaf (k1,r7.2.1,(0,())))) (
 .leaf (k1,r7.2.1,(0,()))))) (
 .br u5.2.1 (
 .br (u7.1==u3.1) (
 .br (u6.1 != (-1:Int)) (
 .br (decide (a1.1>u6.1)) (
 .leaf (r1,([],()),(9,()))) (
 .ob k6 fun r8=>
 .br (r8.2.2.1 != 0) (
 .leaf (r1,([],()),r8.2.2)) (
 .leaf ((r1.1,r1.2.1,u8.1,u8.2.1,u9.1,u9.2.1,u10.1,r8.1.1,r8.1.2.1,r8.1.2.2.1,r8.1.2.2.2.1,r8.1.2.2.2.2.1,u13.1,u13.2.1,u14.1,()),r8.2.1,(0,()))))) (
 .ob k6 fun r9=>
 .br (r9.2.2.1 != 0) (
 .leaf (r1,([],()),r9.2.2)) (
 .leaf ((r1.1,r1.2.1,u8.1,u8.2.1,u9.1,u9.2.1,u10.1,r9.1.1,r9.1.2.1,r9.1.2.2.1,r9.1.2.2.2.1,r9.1.2.2.2.2.1,u13.1,u13.2.1,u14.1,()),r9.2.1,(0,()))))) (
 .br k4 (
 .br (u7.1==k3) (
 .ob k7 fun r10=>
 .ob (M9 r10 k2 a2) fun r11=>
 .br (r11.2.2.1 != 0) (
 .leaf (r1,([],()),r11.2.2)) (
 .leaf ((r1.1,r1.2.1,r11.1.1,r11.1.2.1,r11.1.2.2.1,r11.1.2.2.2.1,r11.1.2.2.2.2.1,u8.1,u8.2.1,u9.1,u9.2.1,u10.1,true,k5,[],()),r11.2.1,(0,())))) (
 .leaf (r1,([],()),(8,())))) (
 .leaf (r1,([],()),(8,()))))) (
 .br k4 (
 .br (u7.1==k3) (
 .ob k7 fun r12=>
 .ob (M9 r12 k2 a2) fun r13=>
 .br (r13.2.2.1 != 0) (
 .leaf (r1,([],()),r13.2.2)) (
 .leaf ((r1.1,r1.2.1,r13.1.1,r13.1.2.1,r13.1.2.2.1,r13.1.2.2.2.1,r13.1.2.2.2.2.1,u8.1,u8.2.1,u9.1,u9.2.1,u10.1,true,k5,[],()),r13.2.1,(0,())))) (
 .leaf (r1,([],()),(8,())))) (
 .leaf (r1,([],()),(8,()))))))))))
def L4 a0 a1 a2:=(Zx a0 a1 a2).val
def As6 (a0:Au) (a1:YI):Tree (YBs×(Bool×Unit)):=
 letI u1:=a0.2.2;letI u2:=u1.2.2.2.2.2;letI u3:=u2.2.2.2.2.2;letI k1:=decide (([]:List YB).length+a0.2.2.2.2.2.2.2.2.2.2.2.2.2.2.1.length<=4294967296);letI k2:=decide ((a0.2.2.2.2.2.2.2.2.2.2.2.2.2.2.1.length:Int)>(0:Int));letI k3:=decide (([]:List YB).length+a0.2.2.2.1.length<=4294967296);letI k4:=a1.1==(i64.wrap (u1.1+(1:Int)));letI k5:=(([]:List YB)++u3.2.2.1,());letI k6:=(([]:List YB)++u1.2.1,());.ob (Kr a0) fun r1=>
 .br (!r1.1) (
 .leaf (([],()),(false,()))) (
 .br u3.1 (
 .br (a1.1==u2.1) (
 .chk (decide (([]:List YB).length+a0.2.2.2.2.2.2.2.2.1.length<=4294967296)) <|
 .leaf ((([]:List YB)++u2.2.1,()),(true,()))) (
 .br (a1.1==u1.1) (
 .chk k3 <|
 .leaf (k6,(true,()))) (
 .br k2 (
 .br k4 (
 .chk k1 <|
 .leaf (k5,(true,()))) (
 .leaf (([],()),(false,())))) (
 .leaf (([],()),(false,())))))) (
 .br (a1.1==u1.1) (
 .chk k3 <|
 .leaf (k6,(true,()))) (
 .br k2 (
 .br k4 (
 .chk k1 <|
 .leaf (k5,(true,()))) (
 .leaf (([],()),(false,())))) (
 .leaf (([],()),(false,()))))))
def Af9 a0 a1:=(As6 a0 a1).val
def Ol:Lst (Int×Int×Int×List Bb×Int×Int×Int×Int×List YB×Int×Unit) ((Bool×Int×Int×List YB×Int×Unit)⊕Bb):=fun x2=>
 letI u1:=x2.2.2.2;letI u2:=u1.2.2;letI u3:=u2.2.2;Tree.val <|
 .br (decide (x2.1<(x2.2.2.2.1.length:Int))) (
 .ob (idx u1.1 x2.1) fun e3=>
 .br (and (e3.1==u1.2.1) (and (e3.2.1==u2.1) true)) (
 .ob (idx u1.1 x2.1) fun e4=>
 .ob (Q7 e4) fun r5=>
 .leaf (.inr (.inl (true,r5.1,r5.2.1,r5.2.2.1,r5.2.2.2.1,())))) (
 .leaf (.inl (i64.wrap (x2.1+1),x2.2.1,x2.2.2.1,u1.1,u1.2.1,u2.1,u2.2.1,u3.1,u3.2.1,u3.2.2.1,())))) (
 .leaf (.inr (.inr (u2.2.1,u3.1,u3.2.1,u3.2.2.1,()))))
def As7 (a0:Bn) (a1:A8):Tree (Bb×(Bool×Unit)):=
 .ob (Q6 a0) fun r1=>
 .br (!r1.1) (
 .leaf ((0,0,[],0,()),(false,()))) (
 .ob (A0 Ol (0,a0.1,a0.2.1,a0.2.2.1,a1.1,a1.2.1,0,0,[],0,())) fun o6=>
 .sm o6 (fun o7=>
 .leaf ((o7.2.1,o7.2.2.1,o7.2.2.2.1,o7.2.2.2.2.1,()),(o7.1,()))) (fun o8=>
 .leaf ((0,0,[],0,()),(false,()))))
def A8n a0 a1:=(As7 a0 a1).val
def Om:Lst (Int×Int×Int×List Bb×Int×Int×Int×Int×List Bb×Int×Int×List Bb×Unit) (Int×Int×List Bb×Int×Int×List Bb×Unit):=fun x8=>
 letI u1:=x8.2.2.2;letI u2:=u1.2.2;letI u3:=u2.2.2;letI u4:=u3.2.2;letI k1:=i64.wrap (x8.1+(1:Int));Tree.val <|
 .br (decide (x8.1<(x8.2.2.2.1.length:Int))) (
 .ob (idx u1.1 x8.1) fun e9=>
 .br (!(and (e9.1==u1.2.1) (and (e9.2.1==u2.1) true))) (
 .ob (idx u1.1 x8.1) fun e10=>
 .ob (Q7 e10) fun r11=>
 .chk (decide (x8.2.2.2.2.2.2.2.2.2.2.2.1.length+[r11].length<=4294967296)) <|
 .leaf (.inl (k1,x8.2.1,x8.2.2.1,u1.1,u1.2.1,u2.1,u2.2.1,u3.1,u3.2.1,u4.1,u4.2.1,u4.2.2.1++[r11],()))) (
 .leaf (.inl (k1,x8.2.1,x8.2.2.1,u1.1,u1.2.1,u2.1,u2.2.1,u3.1,u3.2.1,u4.1,u4.2.1,u4.2.2.1,())))) (
 .leaf (.inr (u2.2.1,u3.1,u3.2.1,u4.1,u4.2.1,u4.2.2.1,())))
def As8 (a0:Bn) (a1:YI) (a2:A8) (a3:YBs):Tree (Bn×(Bool×Unit)):=
 .ob (A8n a0 a2) fun r1=>
 .br (!r1.2.1) (
 .ob (Ei a0) fun r2=>
 .leaf (r2,(false,()))) (
 .ob (Bs a1 (0,()) (1000000,())) fun r3=>
 .br (!r3.1) (
 .ob (Ei a0) fun r4=>
 .leaf (r4,(false,()))) (
 .ob (Mz (r1.1.2.2.1,()) a3) fun r5=>
 .br (!r5.1) (
 .ob (Ei a0) fun r6=>
 .leaf (r6,(false,()))) (
 .br (decide (a1.1>r1.1.2.2.2.1)) (
 .ob (Ei a0) fun r7=>
 .leaf (r7,(false,()))) (
 .ob (A0 Om (0,a0.1,a0.2.1,a0.2.2.1,a2.1,a2.2.1,0,0,[],a2.1,a2.2.1,[],())) fun o12=>
 .leaf ((o12.2.2.2.1,o12.2.2.2.2.1,o12.2.2.2.2.2.1,()),(true,()))))))
def Aga a0 a1 a2 a3:=(As8 a0 a1 a2 a3).val
def A47 (a0:Au):Tree (Au×(Bool×Unit)):=
 .ob (Jb a0) fun r1=>letI u1:=r1.2.2.2;
 .ob (Kr a0) fun r2=>
 .br (!r2.1) (
 .leaf (r1,(false,()))) (
 .br (a0.1 != 1) (
 .leaf (r1,(false,()))) (
 .br (a0.2.2.1==4294967295) (
 .leaf (r1,(false,()))) (
 .ob (Eb (a0.2.2.2.1,()) (Dq [114,101,107,101,121],())) fun r3=>
 .ob (Gl (i64.wrap (a0.2.2.1+1),()) r3) fun r4=>
 .leaf ((r1.1,r1.2.1,r4.1,r4.2.1,r4.2.2.1,r4.2.2.2.1,r4.2.2.2.2.1,r1.2.2.1,u1.1,u1.2.1,u1.2.2.1,u1.2.2.2.1,true,-1,u1.2.2.2.2.2.2.2.2.2.2.2.1,()),(true,())))))
def A5f a0:=(A47 a0).val
def Ae5 (a0:Au) (a1:YI) (a2:YBs):Tree (Au×YI):=
 .ob (Jb a0) fun r1=>
 .ob (Kr a0) fun r2=>
 .br (!r2.1) (
 .leaf (r1,(6,()))) (
 .br (a0.1 != 1) (
 .leaf (r1,(6,()))) (
 .ob (Bs a1 (0,()) (4294967294,())) fun r3=>
 .br (!r3.1) (
 .leaf (r1,(6,()))) (
 .ob (Fp (i64.wrap (a1.1+1),())) fun r4=>
 .ob (Mz a2 r4) fun r5=>
 .br (!r5.1) (
 .leaf (r1,(6,()))) (
 .br (a1.1==a0.2.2.1) (
 .ob (A5f a0) fun r6=>
 .br (!r6.2.1) (
 .leaf (r1,(6,()))) (
 .leaf (r6.1,(0,())))) (
 .br (a1.1==i64.wrap (a0.2.2.1-1)) (
 .leaf (r1,(0,()))) (
 .leaf (r1,(6,()))))))))
def V9 a0 a1 a2:=(Ae5 a0 a1 a2).val
def Apb (r7 r17:Aq) (r1:Al) (r16:Au×Ap×YI) (r15:Bn×(Bool×Unit)) (a1:YI) (a2:A8):Tree (Al×(List Az×Unit)×(List Aq×Unit)×(Bool×Unit)):=
 letI u1:=r1.2.2.2.2.2.2.2.2.2.2.2.2.2.2.2.2.2.2.2.2.2;letI u2:=r16.1.2.2.2;letI u3:=u2.2.2.2;letI u4:=u3.2.2.2.2;.chk (decide ((([]:List Aq)++[r7]).length+[r17].length<=4294967296)) <|
 .leaf ((r1.1,r1.2.1,r1.2.2.1,r16.1.1,r16.1.2.1,r16.1.2.2.1,u2.1,u2.2.1,u2.2.2.1,u3.1,u3.2.1,u3.2.2.1,u3.2.2.2.1,u4.1,u4.2.1,u4.2.2.1,u4.2.2.2.1,u4.2.2.2.2.1,r15.1.1,r15.1.2.1,r15.1.2.2.1,u1.1,a1.1,u1.2.2.1,()),(([]:List Az)++[(a2.1,a2.2.1,r16.2.1.1,r16.2.1.2.1,r16.2.1.2.2.1,r16.2.1.2.2.2.1,r16.2.1.2.2.2.2.1,r16.2.1.2.2.2.2.2.1,r16.2.1.2.2.2.2.2.2.1,r16.2.1.2.2.2.2.2.2.2.1,r16.2.1.2.2.2.2.2.2.2.2.1,r16.2.1.2.2.2.2.2.2.2.2.2.1,r16.2.1.2.2.2.2.2.2.2.2.2.2.1,())],()),((([]:List Aq)++[r7])++[r17],()),(true,()))
def Apc (r16:Au×Ap×YI) (r7:Aq) (r1:Al) (r15:Bn×(Bool×Unit)) (a1:YI) (a2:A8):Tree (Al×(List Az×Unit)×(List Aq×Unit)×(Bool×Unit)):=
 .ob (Hp r16.1 r16.2.1) fun r17=>
 Apb r7 r17 r1 r16 r15 a1 a2
def Abv (a2:A8) (r16:Au×Ap×YI) (r7:Aq) (r1:Al) (r15:Bn×(Bool×Unit)) (a1:YI):Tree (Al×(List Az×Unit)×(List Aq×Unit)×(Bool×Unit)):=
 .chk (decide (([]:List Az).length+[(a2.1,a2.2.1,r16.2.1.1,r16.2.1.2.1,r16.2.1.2.2.1,r16.2.1.2.2.2.1,r16.2.1.2.2.2.2.1,r16.2.1.2.2.2.2.2.1,r16.2.1.2.2.2.2.2.2.1,r16.2.1.2.2.2.2.2.2.2.1,r16.2.1.2.2.2.2.2.2.2.2.1,r16.2.1.2.2.2.2.2.2.2.2.2.1,r16.2.1.2.2.2.2.2.2.2.2.2.2.1,())].length<=4294967296)) <|
 Apc r16 r7 r1 r15 a1 a2
def Apd (r16:Au×Ap×YI) (r1:Al) (r4:Au×YBs×YI) (a1:YI) (r7:Aq) (a2:A8) (r15:Bn×(Bool×Unit)):Tree (Al×(List Az×Unit)×(List Aq×Unit)×(Bool×Unit)):=
 letI u1:=r1.2.2.2.2.2.2.2.2.2.2.2.2.2.2.2.2.2.2;letI u2:=r4.1.2.2.2;letI u3:=u2.2.2.2;letI u4:=u3.2.2.2.2;.br (r16.2.2.1 != 0) (
 .leaf ((r1.1,r1.2.1,r1.2.2.1,r4.1.1,r4.1.2.1,r4.1.2.2.1,u2.1,u2.2.1,u2.2.2.1,u3.1,u3.2.1,u3.2.2.1,u3.2.2.2.1,u4.1,u4.2.1,u4.2.2.1,u4.2.2.2.1,u4.2.2.2.2.1,u1.1,u1.2.1,u1.2.2.1,u1.2.2.2.1,a1.1,u1.2.2.2.2.2.1,()),([],()),(([]:List Aq)++[r7],()),(false,()))) (
 Abv a2 r16 r7 r1 r15 a1)
def Ape (r15:Bn×(Bool×Unit)) (r1:Al) (r4:Au×YBs×YI) (a1:YI) (r7:Aq) (r16:Au×Ap×YI) (a2:A8):Tree (Al×(List Az×Unit)×(List Aq×Unit)×(Bool×Unit)):=
 letI u1:=r1.2.2.2.2.2.2.2.2.2.2.2.2.2.2.2.2.2.2;letI u2:=r4.1.2.2.2;letI u3:=u2.2.2.2;letI u4:=u3.2.2.2.2;.br (!r15.2.1) (
 .leaf ((r1.1,r1.2.1,r1.2.2.1,r4.1.1,r4.1.2.1,r4.1.2.2.1,u2.1,u2.2.1,u2.2.2.1,u3.1,u3.2.1,u3.2.2.1,u3.2.2.2.1,u4.1,u4.2.1,u4.2.2.1,u4.2.2.2.1,u4.2.2.2.2.1,u1.1,u1.2.1,u1.2.2.1,u1.2.2.2.1,a1.1,u1.2.2.2.2.2.1,()),([],()),(([]:List Aq)++[r7],()),(false,()))) (
 Apd r16 r1 r4 a1 r7 a2 r15)
def Apf (r4:Au×YBs×YI) (a4:YBs) (r15:Bn×(Bool×Unit)) (r1:Al) (a1:YI) (r7:Aq) (a2:A8):Tree (Al×(List Az×Unit)×(List Aq×Unit)×(Bool×Unit)):=
 .ob (Du r4.1 (5,()) a4) fun r16=>
 Ape r15 r1 r4 a1 r7 r16 a2
def Ud (r1:Al) (a1:YI) (a2:A8) (a4:YBs) (r4:Au×YBs×YI) (r7:Aq):Tree (Al×(List Az×Unit)×(List Aq×Unit)×(Bool×Unit)):=
 letI u1:=r1.2.2.2.2.2.2.2.2.2.2.2.2.2.2.2.2.2.2;.ob (E6 (u1.1,u1.2.1,u1.2.2.1,()) a1 a2 a4) fun r15=>
 Apf r4 a4 r15 r1 a1 r7 a2
def Aig (a0:Al) (a1:YI) (a2:A8) (a3:Ap) (a4:YBs):Tree (Al×(List Az×Unit)×(List Aq×Unit)×(Bool×Unit)):=
 letI u1:=a0.2.2;letI u2:=u1.2.2;letI u3:=u2.2.2;letI u4:=u3.2.2;letI u5:=u4.2.2;letI u6:=u5.2.2;letI u7:=u6.2.2;letI u8:=u7.2.2;letI u9:=a3.2.2.2.2.2.2.2;letI k18:=decide (([]:List YB).length+a0.2.2.1.length<=4294967296);letI k19:=(u1.2.1,u2.1,u2.2.1,u3.1,u3.2.1,u4.1,u4.2.1,u5.1,u5.2.1,u6.1,u6.2.1,u7.1,u7.2.1,u8.1,u8.2.1,());letI k24:=([]:List YB)++u1.1;.ob (Nu a0) fun r1=>letI u10:=r1.2.2;letI u11:=u10.2.2.2.2.2.2.2.2.2.2.2.2.2.2.2.2;letI u12:=u11.2.2;letI u13:=u12.2.2.2;letI k17:=E6 (u11.1,u11.2.1,u12.1,()) a1 a2 a4;
 .ob (Po a0) fun r2=>
 .br (!r2.1) (
 .leaf (r1,([],()),([],()),(false,()))) (
 .br u8.2.2.2.2.2.2.2.1 (
 .leaf (r1,([],()),([],()),(false,()))) (
 .ob (Gr a2) fun r3=>
 .br (!r3.1) (
 .leaf (r1,([],()),([],()),(false,()))) (
 .ob (L4 k19 a1 a3) fun r4=>letI u14:=r4.1.2.2;letI u15:=u14.2.2;letI u16:=u15.2.2;letI u17:=u16.2.2;letI u18:=u17.2.2;letI u19:=u18.2.2;letI k4:=((6:Int),(0:Int),(0:Int),([]:List YB),k24,u9.1,u9.2.1,([]:List YB)++r4.2.1.1,([]:List YB),(0:Int),(0:Int),a1.1,());letI k5:=((9:Int),(0:Int),(0:Int),([]:List YB),k24,(0:Int),(0:Int),([]:List YB)++r4.2.1.1,([]:List YB),a2.1,a2.2.1,a1.1,());letI k16:=(r1.1,r1.2.1,u10.1,r4.1.1,r4.1.2.1,u14.1,u14.2.1,u15.1,u15.2.1,u16.1,u16.2.1,u17.1,u17.2.1,u18.1,u18.2.1,u19.1,u19.2.1,u19.2.2.1,u11.1,u11.2.1,u12.1,u12.2.1,a1.1,u13.1,());letI k20:=decide (([]:List YB).length+r4.2.1.1.length<=4294967296);letI k26:=Du r4.1 ((5:Int),()) a4;
 .br (r4.2.2.1 != 0) (
 .leaf (r1,([],()),([],()),(false,()))) (
 .ob (Af9 k19 (u9.1,())) fun r5=>
 .ob (Ly (0,()) a3) fun r6=>
 .ob (Ai1 r5.1 (u1.1,()) r6) fun r7=>letI k7:=([]:List Aq)++[r7];
 .chk (decide (([]:List Aq).length+[r7].length<=4294967296)) <|
 .br (a3.1==4) (
 .chk k18 <|
 .chk k20 <|
 .chk (decide (k7.length+[k4].length<=4294967296)) <|
 .ob k17 fun r8=>
 .ob k26 fun r9=>letI u20:=r9.1.2.2.2;letI u21:=u20.2.2.2;letI u22:=u21.2.2.2.2;letI k12:=(a2.1,a2.2.1,r9.2.1.1,r9.2.1.2.1,r9.2.1.2.2.1,r9.2.1.2.2.2.1,r9.2.1.2.2.2.2.1,r9.2.1.2.2.2.2.2.1,r9.2.1.2.2.2.2.2.2.1,r9.2.1.2.2.2.2.2.2.2.1,r9.2.1.2.2.2.2.2.2.2.2.1,r9.2.1.2.2.2.2.2.2.2.2.2.1,r9.2.1.2.2.2.2.2.2.2.2.2.2.1,());
 .br (!r8.2.1) (
 .leaf (k16,([],()),(k7++[k4],()),(false,()))) (
 .br (r9.2.2.1 != 0) (
 .leaf (k16,([],()),(k7++[k4],()),(false,()))) (
 .chk (decide (([]:List Az).length+[k12].length<=4294967296)) <|
 .ob (Hp r9.1 r9.2.1) fun r10=>
 .chk (decide ((k7++[k4]).length+[r10].length<=4294967296)) <|
 .leaf ((r1.1,r1.2.1,u10.1,r9.1.1,r9.1.2.1,r9.1.2.2.1,u20.1,u20.2.1,u20.2.2.1,u21.1,u21.2.1,u21.2.2.1,u21.2.2.2.1,u22.1,u22.2.1,u22.2.2.1,u22.2.2.2.1,u22.2.2.2.2.1,r8.1.1,r8.1.2.1,r8.1.2.2.1,u12.2.1,a1.1,u13.1,()),(([]:List Az)++[k12],()),((k7++[k4])++[r10],()),(true,()))))) (
 .br (a3.1==6) (
 .ob (Aga (u11.1,u11.2.1,u12.1,()) a1 a2 r4.2.1) fun r11=>letI k13:=(r1.1,r1.2.1,u10.1,r4.1.1,r4.1.2.1,u14.1,u14.2.1,u15.1,u15.2.1,u16.1,u16.2.1,u17.1,u17.2.1,u18.1,u18.2.1,u19.1,u19.2.1,u19.2.2.1,r11.1.1,r11.1.2.1,r11.1.2.2.1,u12.2.1,a1.1,u13.1,());
 .br r11.2.1 (
 .chk k18 <|
 .chk k20 <|
 .chk (decide (k7.length+[k5].length<=4294967296)) <|
 .ob (E6 r11.1 a1 a2 a4) fun r12=>
 .ob k26 fun r13=>letI u23:=r13.1.2.2.2;letI u24:=u23.2.2.2;letI u25:=u24.2.2.2.2;letI k8:=(a2.1,a2.2.1,r13.2.1.1,r13.2.1.2.1,r13.2.1.2.2.1,r13.2.1.2.2.2.1,r13.2.1.2.2.2.2.1,r13.2.1.2.2.2.2.2.1,r13.2.1.2.2.2.2.2.2.1,r13.2.1.2.2.2.2.2.2.2.1,r13.2.1.2.2.2.2.2.2.2.2.1,r13.2.1.2.2.2.2.2.2.2.2.2.1,r13.2.1.2.2.2.2.2.2.2.2.2.2.1,());
 .br (!r12.2.1) (
 .leaf (k13,([],()),(k7++[k5],()),(false,()))) (
 .br (r13.2.2.1 != 0) (
 .leaf (k13,([],()),(k7++[k5],()),(false,()))) (
 .chk (decide (([]:List Az).length+[k8].length<=4294967296)) <|
 .ob (Hp r13.1 r13.2.1) fun r14=>
 .chk (decide ((k7++[k5]).length+[r14].length<=4294967296)) <|
 .leaf ((r1.1,r1.2.1,u10.1,r13.1.1,r13.1.2.1,r13.1.2.2.1,u23.1,u23.2.1,u23.2.2.1,u24.1,u24.2.1,u24.2.2.1,u24.2.2.2.1,u25.1,u25.2.1,u25.2.2.1,u25.2.2.2.1,u25.2.2.2.2.1,r12.1.1,r12.1.2.1,r12.1.2.2.1,u12.2.1,a1.1,u13.1,()),(([]:List Az)++[k8],()),((k7++[k5])++[r14],()),(true,()))))) (
 Ud r1 a1 a2 a4 r4 r7)) (
 .br (a3.1==7) (
 .ob (V9 r4.1 (u9.1,()) r4.2.1) fun r18=>letI u26:=r18.1.2.2;letI u27:=u26.2.2;letI u28:=u27.2.2;letI u29:=u28.2.2;letI u30:=u29.2.2;letI u31:=u30.2.2;letI k1:=((10:Int),(0:Int),(1:Int),([]:List YB),k24,u26.1,(0:Int),([]:List YB),([]:List YB)++u26.2.1,(0:Int),(0:Int),(0:Int),());letI k6:=(r1.1,r1.2.1,u10.1,r18.1.1,r18.1.2.1,u26.1,u26.2.1,u27.1,u27.2.1,u28.1,u28.2.1,u29.1,u29.2.1,u30.1,u30.2.1,u31.1,u31.2.1,u31.2.2.1,u11.1,u11.2.1,u12.1,u12.2.1,a1.1,u13.1,());letI k25:=Du r18.1 ((5:Int),()) a4;
 .br (r18.2.1==0) (
 .br (u26.1 != u14.1) (
 .chk k18 <|
 .chk (decide (([]:List YB).length+r18.1.2.2.2.1.length<=4294967296)) <|
 .chk (decide (k7.length+[k1].length<=4294967296)) <|
 .ob (Apa r18.1) fun r19=>letI u32:=r19.1.2.2;letI u33:=u32.2.2;letI u34:=u33.2.2;letI u35:=u34.2.2;letI u36:=u35.2.2;letI u37:=u36.2.2;letI k2:=(u11.1,u11.2.1,r19.2.1.1,r19.2.1.2.1,r19.2.1.2.2.1,r19.2.1.2.2.2.1,r19.2.1.2.2.2.2.1,r19.2.1.2.2.2.2.2.1,r19.2.1.2.2.2.2.2.2.1,r19.2.1.2.2.2.2.2.2.2.1,r19.2.1.2.2.2.2.2.2.2.2.1,r19.2.1.2.2.2.2.2.2.2.2.2.1,r19.2.1.2.2.2.2.2.2.2.2.2.2.1,());letI k14:=(r1.1,r1.2.1,u10.1,r19.1.1,r19.1.2.1,u32.1,u32.2.1,u33.1,u33.2.1,u34.1,u34.2.1,u35.1,u35.2.1,u36.1,u36.2.1,u37.1,u37.2.1,u37.2.2.1,u11.1,u11.2.1,u12.1,u12.2.1,a1.1,u13.1,());letI k21:=([]:List Az)++[k2];
 .br (r19.2.2.1==0) (
 .chk (decide (([]:List Az).length+[k2].length<=4294967296)) <|
 .ob (Hp r19.1 r19.2.1) fun r20=>letI k23:=(k7++[k1])++[r20];
 .chk (decide ((k7++[k1]).length+[r20].length<=4294967296)) <|
 .ob k17 fun r21=>
 .ob (Du r19.1 (5,()) a4) fun r22=>letI u38:=r22.1.2.2.2;letI u39:=u38.2.2.2;letI u40:=u39.2.2.2.2;letI k9:=(a2.1,a2.2.1,r22.2.1.1,r22.2.1.2.1,r22.2.1.2.2.1,r22.2.1.2.2.2.1,r22.2.1.2.2.2.2.1,r22.2.1.2.2.2.2.2.1,r22.2.1.2.2.2.2.2.2.1,r22.2.1.2.2.2.2.2.2.2.1,r22.2.1.2.2.2.2.2.2.2.2.1,r22.2.1.2.2.2.2.2.2.2.2.2.1,r22.2.1.2.2.2.2.2.2.2.2.2.2.1,());
 .br (!r21.2.1) (
 .leaf (k14,(k21,()),(k23,()),(false,()))) (
 .br (r22.2.2.1 != 0) (
 .leaf (k14,(k21,()),(k23,()),(false,()))) (
 .chk (decide (k21.length+[k9].length<=4294967296)) <|
 .ob (Hp r22.1 r22.2.1) fun r23=>
 .chk (decide (k23.length+[r23].length<=4294967296)) <|
 .leaf ((r1.1,r1.2.1,u10.1,r22.1.1,r22.1.2.1,r22.1.2.2.1,u38.1,u38.2.1,u38.2.2.1,u39.1,u39.2.1,u39.2.2.1,u39.2.2.2.1,u40.1,u40.2.1,u40.2.2.1,u40.2.2.2.1,u40.2.2.2.2.1,r21.1.1,r21.1.2.1,r21.1.2.2.1,u12.2.1,a1.1,u13.1,()),(k21++[k9],()),(k23++[r23],()),(true,()))))) (
 .ob k17 fun r24=>
 .ob k25 fun r25=>letI u41:=r25.1.2.2.2;letI u42:=u41.2.2.2;letI u43:=u42.2.2.2.2;letI k10:=(a2.1,a2.2.1,r25.2.1.1,r25.2.1.2.1,r25.2.1.2.2.1,r25.2.1.2.2.2.1,r25.2.1.2.2.2.2.1,r25.2.1.2.2.2.2.2.1,r25.2.1.2.2.2.2.2.2.1,r25.2.1.2.2.2.2.2.2.2.1,r25.2.1.2.2.2.2.2.2.2.2.1,r25.2.1.2.2.2.2.2.2.2.2.2.1,r25.2.1.2.2.2.2.2.2.2.2.2.2.1,());
 .br (!r24.2.1) (
 .leaf (k6,([],()),(k7++[k1],()),(false,()))) (
 .br (r25.2.2.1 != 0) (
 .leaf (k6,([],()),(k7++[k1],()),(false,()))) (
 .chk (decide (([]:List Az).length+[k10].length<=4294967296)) <|
 .ob (Hp r25.1 r25.2.1) fun r26=>
 .chk (decide ((k7++[k1]).length+[r26].length<=4294967296)) <|
 .leaf ((r1.1,r1.2.1,u10.1,r25.1.1,r25.1.2.1,r25.1.2.2.1,u41.1,u41.2.1,u41.2.2.1,u42.1,u42.2.1,u42.2.2.1,u42.2.2.2.1,u43.1,u43.2.1,u43.2.2.1,u43.2.2.2.1,u43.2.2.2.2.1,r24.1.1,r24.1.2.1,r24.1.2.2.1,u12.2.1,a1.1,u13.1,()),(([]:List Az)++[k10],()),((k7++[k1])++[r26],()),(true,())))))) (
 .ob (Apa r18.1) fun r27=>letI u44:=r27.1.2.2;letI u45:=u44.2.2;letI u46:=u45.2.2;letI u47:=u46.2.2;letI u48:=u47.2.2;letI u49:=u48.2.2;letI k3:=(u11.1,u11.2.1,r27.2.1.1,r27.2.1.2.1,r27.2.1.2.2.1,r27.2.1.2.2.2.1,r27.2.1.2.2.2.2.1,r27.2.1.2.2.2.2.2.1,r27.2.1.2.2.2.2.2.2.1,r27.2.1.2.2.2.2.2.2.2.1,r27.2.1.2.2.2.2.2.2.2.2.1,r27.2.1.2.2.2.2.2.2.2.2.2.1,r27.2.1.2.2.2.2.2.2.2.2.2.2.1,());letI k15:=(r1.1,r1.2.1,u10.1,r27.1.1,r27.1.2.1,u44.1,u44.2.1,u45.1,u45.2.1,u46.1,u46.2.1,u47.1,u47.2.1,u48.1,u48.2.1,u49.1,u49.2.1,u49.2.2.1,u11.1,u11.2.1,u12.1,u12.2.1,a1.1,u13.1,());letI k22:=([]:List Az)++[k3];
 .br (r27.2.2.1==0) (
 .chk (decide (([]:List Az).length+[k3].length<=4294967296)) <|
 .ob (Hp r27.1 r27.2.1) fun r28=>
 .chk (decide (k7.length+[r28].length<=4294967296)) <|
 .ob k17 fun r29=>
 .ob (Du r27.1 (5,()) a4) fun r30=>letI u50:=r30.1.2.2.2;letI u51:=u50.2.2.2;letI u52:=u51.2.2.2.2;letI k11:=(a2.1,a2.2.1,r30.2.1.1,r30.2.1.2.1,r30.2.1.2.2.1,r30.2.1.2.2.2.1,r30.2.1.2.2.2.2.1,r30.2.1.2.2.2.2.2.1,r30.2.1.2.2.2.2.2.2.1,r30.2.1.2.2.2.2.2.2.2.1,r30.2.1.2.2.2.2.2.2.2.2.1,r30.2.1.2.2.2.2.2.2.2.2.2.1,r30.2.1.2.2.2.2.2.2.2.2.2.2.1,());
 .br (!r29.2.1) (
 .leaf (k15,(k22,()),(k7++[r28],()),(false,()))) (
 .br (r30.2.2.1 != 0) (
 .leaf (k15,(k22,()),(k7++[r28],()),(false,()))) (
 .chk (decide (k22.length+[k11].length<=4294967296)) <|
 .ob (Hp r30.1 r30.2.1) fun r31=>
 .chk (decide ((k7++[r28]).length+[r31].length<=4294967296)) <|
 .leaf ((r1.1,r1.2.1,u10.1,r30.1.1,r30.1.2.1,r30.1.2.2.1,u50.1,u50.2.1,u50.2.2.1,u51.1,u51.2.1,u51.2.2.1,u51.2.2.2.1,u52.1,u52.2.1,u52.2.2.1,u52.2.2.2.1,u52.2.2.2.2.1,r29.1.1,r29.1.2.1,r29.1.2.2.1,u12.2.1,a1.1,u13.1,()),(k22++[k11],()),((k7++[r28])++[r31],()),(true,()))))) (
 .ob k17 fun r32=>
 .ob k25 fun r33=>
 .br (!r32.2.1) (
 .leaf (k6,([],()),(k7,()),(false,()))) (
 .br (r33.2.2.1 != 0) (
 .leaf (k6,([],()),(k7,()),(false,()))) (
 Abv a2 r33 r7 r1 r32 a1))))) (
 Ud r1 a1 a2 a4 r4 r7)) (
 Ud r1 a1 a2 a4 r4 r7)))))))
def Sz a0 a1 a2 a3 a4:=(Aig a0 a1 a2 a3 a4).val
def As9 (a0:Ap):Tree (YI):=
 .ob (Ft a0) fun r1=>
 .leaf ((r1.1.length:Int),())
def Agb a0:=(As9 a0).val
def On:Lst (List Az×List Az×Int×List YBs×List YB×List YB×Int×Int×List Al×List An×Unit) (List Az×List YBs×List YB×List YB×Int×Int×List Al×List An×Unit):=fun x10=>
 letI u1:=x10.2.2;letI u2:=u1.2.2;letI u3:=u2.2.2;letI u4:=u3.2.2;letI k1:=idx x10.1 u1.1;letI k2:=i64.wrap (u1.1+(1:Int));Tree.val <|
 .br (decide (u1.1<(x10.1.length:Int))) (
 .ob k1 fun e11=>
 .ob (Ai0 (u3.2.1,u4.1,()) (e11.1,e11.2.1,())) fun r12=>
 .br (!r12.1) (
 .ob k1 fun e13=>
 .ob k1 fun e14=>letI u5:=e14.2.2.2;letI u6:=u5.2.2.2;letI u7:=u6.2.2.2;
 .ob (Agb (e14.2.2.1,u5.1,u5.2.1,u5.2.2.1,u6.1,u6.2.1,u6.2.2.1,u7.1,u7.2.1,u7.2.2.1,u7.2.2.2.1,())) fun r15=>
 .ob (Sq (u4.2.1,()) (e13.1,e13.2.1,()) r15) fun r16=>
 .br (!r16.2.1) (
 .leaf (.inl (x10.1,x10.2.1,k2,u1.2.1,u2.1,u2.2.1,u3.1,u3.2.1,u4.1,u4.2.1,()))) (
 .ob k1 fun e17=>
 .chk (decide (x10.2.1.length+[e17].length<=4294967296)) <|
 .leaf (.inl (x10.1,x10.2.1++[e17],k2,u1.2.1,u2.1,u2.2.1,u3.1,u3.2.1,u4.1,r16.1.1,())))) (
 .ob k1 fun e18=>
 .chk (decide (x10.2.1.length+[e18].length<=4294967296)) <|
 .leaf (.inl (x10.1,x10.2.1++[e18],k2,u1.2.1,u2.1,u2.2.1,u3.1,u3.2.1,u4.1,u4.2.1,())))) (
 .leaf (.inr (x10.2.1,u1.2.1,u2.1,u2.2.1,u3.1,u3.2.1,u4.1,u4.2.1,())))
def Ata (a0:Bc) (a1:List Az×Unit):Tree ((List Az×Unit)×Bc):=
 letI u1:=a0.2.2.2;.ob (A0 On (a1.1,[],0,a0.1,a0.2.1,a0.2.2.1,u1.1,u1.2.1,u1.2.2.1,u1.2.2.2.1,())) fun o19=>letI u2:=o19.2.2.2;
 .leaf ((o19.1,()),(o19.2.1,o19.2.2.1,u2.1,u2.2.1,u2.2.2.1,u2.2.2.2.1,u2.2.2.2.2.1,()))
def Db a0 a1:=(Ata a0 a1).val
def Ba7 (a0:Bc) (a1:YI) (a2:A8) (r1:Bc) (r5:List An×Unit) (f:Ap):Tree (Bc×(List Az×Unit)×(List Aq×Unit)):=
 letI u1:=r1.2.2;letI u2:=u1.2.2;letI k1:=(r1.1,r1.2.1,u1.1,u1.2.1,u2.1,u2.2.1,r5.1,());.br (decide (f.2.1>(a0.1.length:Int))) (
 .leaf (k1,([],()),([],()))) (
 .ob (Uc k1 a2 (45,())) fun r7=>
 .br (!r7.1) (
 .leaf (k1,([],()),([],()))) (
 .br (a0.2.2.2.1==10000) (
 .leaf (k1,([],()),([],()))) (
 .ob (Ain (a0.2.2.1,a0.2.2.2.1,())) fun r8=>
 .chk (decide (([]:List YB).length+f.2.2.1.length<=4294967296)) <|
 .ob (Sr (a0.2.1,()) a2 (f.2.1,()) (f.2.2.1,()) r8.2 a1) fun r9=>letI k2:=(a2.1,a2.2.1,(2:Int),(0:Int),([]:List YB)++f.2.2.1,r8.2.1,a1.1,r9.1,([]:List YB),(0:Int),(0:Int),([]:List YB),([]:List YB),());
 .ob (Qr r8.2) fun r10=>
 .ob (Jl a2 (f.2.1,()) (f.2.2.1,()) r8.2 a1) fun r11=>
 .ob (At3 (a0.2.1,()) r11) fun r12=>
 .chk (decide (([]:List Aq).length+[r10,r12].length<=4294967296)) <|
 .chk (decide (([]:List Az).length+[k2].length<=4294967296)) <|
 .ob (Db (r1.1,r1.2.1,r8.1.1,r8.1.2.1,u2.1,u2.2.1,r5.1,()) (([]:List Az)++[k2],())) fun r13=>
 .leaf (r13.2,r13.1,(([]:List Aq)++[r10,r12],())))))
def Bhf (a0:Bc) (a1:YI) (a2:A8) (r1:Bc) (r5:List An×Unit) (f:Ap):Tree (Bc×(List Az×Unit)×(List Aq×Unit)):=
 letI u1:=a0.2.2.2.2;letI u2:=r1.2.2;letI u3:=u2.2.2;letI k2:=(r1.1,r1.2.1,u2.1,u2.2.1,u3.1,u3.2.1,r5.1,());letI k6:=idx a0.1 (i64.wrap (f.2.1-(1:Int)));letI k7:=Db k2 (([]:List Az),());.ob (Azp (a0.2.1,()) a1 a2 f) fun r14=>
 .br (r14.1 != 0) (
 .leaf (k2,([],()),([],()))) (
 .br (decide (f.2.1>(a0.1.length:Int))) (
 .leaf (k2,([],()),([],()))) (
 .ob k6 fun e15=>
 .ob (Anh e15 f) fun r16=>
 .br (!r16.1) (
 .leaf (k2,([],()),([],()))) (
 .ob (T5 (u1.1,u1.2.1,()) (f.2.2.2.1,())) fun r17=>
 .br (decide (r17.1<0)) (
 .ob k6 fun e18=>
 .ob (Nt e18 a1 a2 f) fun r19=>letI u4:=r19.2.2.2.2.2.2;letI k1:=((4:Int),f.2.1,(0:Int),([]:List YB)++f.2.2.1,([]:List YB)++f.2.2.2.1,(0:Int),(0:Int),([]:List YB),([]:List YB)++u4.1,a2.1,a2.2.1,a1.1,());
 .ob (Q9 (u1.1,u1.2.1,()) r19) fun r20=>letI k3:=Db (r1.1,r1.2.1,u2.1,u2.2.1,r20.1.1,r20.1.2.1,r5.1,()) (([]:List Az),());letI k5:=i64.wrap ((r20.1.2.1.length:Int)-(1:Int));
 .br (r20.2.1 != 0) (
 .leaf (k2,([],()),([],()))) (
 .ob (Jl a2 (f.2.1,()) (f.2.2.1,()) (f.2.2.2.1,()) (f.2.2.2.2.1,())) fun r21=>
 .ob (Ai1 (a0.2.1,()) (f.2.2.2.1,()) r21) fun r22=>letI k8:=([]:List Aq)++[r22];
 .chk (decide (([]:List Aq).length+[r22].length<=4294967296)) <|
 .ob k6 fun e23=>
 .ob (V3 e23) fun r24=>
 .ob (V4 (f.2.1,()) (f.2.2.1,()) (f.2.2.2.1,()) (f.2.2.2.2.1,()) (f.2.2.2.2.2.1,())) fun r25=>
 .ob (Ai1 r24 (f.2.2.2.1,()) r25) fun r26=>letI k4:=(k8++[r26])++[k1];
 .chk (decide (k8.length+[r26].length<=4294967296)) <|
 .chk (decide (([]:List YB).length+f.2.2.1.length<=4294967296)) <|
 .chk (decide (([]:List YB).length+f.2.2.2.1.length<=4294967296)) <|
 .chk (decide (([]:List YB).length+r19.2.2.2.2.2.2.1.length<=4294967296)) <|
 .chk (decide ((k8++[r26]).length+[k1].length<=4294967296)) <|
 .ob (idx r20.1.2.1 k5) fun e27=>
 .br (!e27.2.2.2.2.2.2.2.2.2.2.2.2.2.2.2.2.2.2.2.2.2.2.2.1) (
 .br (e27.1==f.2.1) (
 .ob (Mz (e27.2.1,()) (f.2.2.1,())) fun r28=>
 .br r28.1 (
 .ob (Vi e27) fun r29=>
 .ob (idx r20.1.2.1 k5) fun e30=>
 let q31:=(r20.1.2.1.set (k5).toNat r29.1)
 .chk (decide (([]:List Az).length+r29.2.1.1.length<=4294967296)) <|
 .chk (decide (k4.length+r29.2.2.1.length<=4294967296)) <|
 .ob (Db (r1.1,r1.2.1,u2.1,u2.2.1,r20.1.1,q31,r5.1,()) (([]:List Az)++r29.2.1.1,())) fun r32=>
 .leaf (r32.2,r32.1,(k4++r29.2.2.1,()))) (
 .ob k3 fun r33=>
 .leaf (r33.2,r33.1,(k4,())))) (
 .ob k3 fun r34=>
 .leaf (r34.2,r34.1,(k4,())))) (
 .ob k3 fun r35=>
 .leaf (r35.2,r35.1,(k4,()))))) (
 .ob (idx u3.2.1 r17.1) fun e36=>
 .br (!e36.2.2.2.2.2.2.2.2.2.2.2.2.2.2.2.2.2.2.2.2.2.2.2.1) (
 .br (e36.1==f.2.1) (
 .ob (Mz (e36.2.1,()) (f.2.2.1,())) fun r37=>
 .br r37.1 (
 .ob (Vi e36) fun r38=>
 .ob (idx u3.2.1 r17.1) fun e39=>
 let q40:=(r1.2.2.2.2.2.1.set (r17.1).toNat r38.1)
 .chk (decide (([]:List Az).length+r38.2.1.1.length<=4294967296)) <|
 .chk (decide (([]:List Aq).length+r38.2.2.1.length<=4294967296)) <|
 .ob (Db (r1.1,r1.2.1,u2.1,u2.2.1,u3.1,q40,r5.1,()) (([]:List Az)++r38.2.1.1,())) fun r41=>
 .leaf (r41.2,r41.1,(([]:List Aq)++r38.2.2.1,()))) (
 .ob k7 fun r42=>
 .leaf (r42.2,r42.1,([],())))) (
 .ob k7 fun r43=>
 .leaf (r43.2,r43.1,([],())))) (
 .ob k7 fun r44=>
 .leaf (r44.2,r44.1,([],())))))))
def Ba8 (a0:Bc) (a1:YI) (a2:A8) (r1:Bc) (r5:List An×Unit) (f:Ap):Tree (Bc×(List Az×Unit)×(List Aq×Unit)):=
 letI u1:=a0.2.2.2.2;letI u2:=r1.2.2;letI u3:=u2.2.2;letI k1:=((7:Int),(0:Int),(0:Int),([]:List YB),([]:List YB)++f.2.2.2.1,(0:Int),(0:Int),([]:List YB)++([]:List YB),([]:List YB),a2.1,a2.2.1,a1.1,());letI k3:=(r1.1,r1.2.1,u2.1,u2.2.1,u3.1,u3.2.1,r5.1,());.ob (T5 (u1.1,u1.2.1,()) (f.2.2.2.1,())) fun r46=>letI k15:=idx u1.2.1 r46.1;
 .br (decide (r46.1<0)) (
 .leaf (k3,([],()),([],()))) (
 .ob k15 fun e47=>
 .br e47.2.2.2.2.2.2.2.2.2.2.2.2.2.2.2.2.2.2.2.2.2.2.2.1 (
 .leaf (k3,([],()),([],()))) (
 .ob (Ain (a0.2.2.1,a0.2.2.2.1,())) fun r48=>letI k2:=((7:Int),(0:Int),(0:Int),([]:List YB),([]:List YB)++f.2.2.2.1,(0:Int),(0:Int),([]:List YB)++r48.2.1,([]:List YB),a2.1,a2.2.1,a1.1,());letI k9:=decide (([]:List YB).length+r48.2.1.length<=4294967296);
 .ob (Uc k3 a2 (51,())) fun r49=>
 .br (!r49.1) (
 .ob k15 fun e50=>
 .ob (Sz e50 a1 a2 f ([],())) fun r51=>letI u4:=r51.2.2;letI k4:=(([]:List Az)++r51.2.1.1,());letI k13:=([]:List Aq)++u4.1.1;
 .ob (idx u3.2.1 r46.1) fun e52=>
 let q53:=(r1.2.2.2.2.2.1.set (r46.1).toNat r51.1);letI k8:=Db (r1.1,r1.2.1,r48.1.1,r48.1.2.1,u3.1,q53,r5.1,()) k4;letI k11:=Db (r1.1,r1.2.1,u2.1,u2.2.1,u3.1,q53,r5.1,()) k4;
 .chk (decide (([]:List Az).length+r51.2.1.1.length<=4294967296)) <|
 .br u4.2.1 (
 .ob (Qr ([],())) fun r54=>letI k6:=(([]:List Aq)++[r54])++u4.1.1;
 .chk (decide (([]:List Aq).length+[r54].length<=4294967296)) <|
 .chk (decide ((([]:List Aq)++[r54]).length+r51.2.2.1.1.length<=4294967296)) <|
 .br u4.2.1 (
 .chk (decide (([]:List YB).length+f.2.2.2.1.length<=4294967296)) <|
 .chk (decide (([]:List YB).length+([]:List YB).length<=4294967296)) <|
 .chk (decide (k6.length+[k1].length<=4294967296)) <|
 .ob k8 fun r55=>
 .leaf (r55.2,r55.1,(k6++[k1],()))) (
 .ob k8 fun r56=>
 .leaf (r56.2,r56.1,(k6,())))) (
 .chk (decide (([]:List Aq).length+r51.2.2.1.1.length<=4294967296)) <|
 .br u4.2.1 (
 .chk (decide (([]:List YB).length+f.2.2.2.1.length<=4294967296)) <|
 .chk (decide (([]:List YB).length+([]:List YB).length<=4294967296)) <|
 .chk (decide (k13.length+[k1].length<=4294967296)) <|
 .ob k11 fun r57=>
 .leaf (r57.2,r57.1,(k13++[k1],()))) (
 .ob k11 fun r58=>
 .leaf (r58.2,r58.1,(k13,()))))) (
 .ob k15 fun e59=>
 .ob (Sz e59 a1 a2 f r48.2) fun r60=>letI u5:=r60.2.2;letI k5:=(([]:List Az)++r60.2.1.1,());letI k14:=([]:List Aq)++u5.1.1;
 .ob (idx u3.2.1 r46.1) fun e61=>
 let q62:=(r1.2.2.2.2.2.1.set (r46.1).toNat r60.1);letI k10:=Db (r1.1,r1.2.1,r48.1.1,r48.1.2.1,u3.1,q62,r5.1,()) k5;letI k12:=Db (r1.1,r1.2.1,u2.1,u2.2.1,u3.1,q62,r5.1,()) k5;
 .chk (decide (([]:List Az).length+r60.2.1.1.length<=4294967296)) <|
 .br u5.2.1 (
 .ob (Qr r48.2) fun r63=>letI k7:=(([]:List Aq)++[r63])++u5.1.1;
 .chk (decide (([]:List Aq).length+[r63].length<=4294967296)) <|
 .chk (decide ((([]:List Aq)++[r63]).length+r60.2.2.1.1.length<=4294967296)) <|
 .br u5.2.1 (
 .chk (decide (([]:List YB).length+f.2.2.2.1.length<=4294967296)) <|
 .chk k9 <|
 .chk (decide (k7.length+[k2].length<=4294967296)) <|
 .ob k10 fun r64=>
 .leaf (r64.2,r64.1,(k7++[k2],()))) (
 .ob k10 fun r65=>
 .leaf (r65.2,r65.1,(k7,())))) (
 .chk (decide (([]:List Aq).length+r60.2.2.1.1.length<=4294967296)) <|
 .br u5.2.1 (
 .chk (decide (([]:List YB).length+f.2.2.2.1.length<=4294967296)) <|
 .chk k9 <|
 .chk (decide (k14.length+[k2].length<=4294967296)) <|
 .ob k12 fun r66=>
 .leaf (r66.2,r66.1,(k14++[k2],()))) (
 .ob k12 fun r67=>
 .leaf (r67.2,r67.1,(k14,())))))))
def T4 (a0:Bc) (a1:YI) (a2:A8) (a3:YBs):Tree (Bc×(List Az×Unit)×(List Aq×Unit)):=
 .ob (Ang a0) fun r1=>letI u1:=r1.2.2.2;
 .ob (So a0) fun r2=>
 .br (!r2.1) (
 .leaf (r1,([],()),([],()))) (
 .ob (Bs a1 (0,()) (1000000,())) fun r3=>
 .br (!r3.1) (
 .leaf (r1,([],()),([],()))) (
 .ob (Gr a2) fun r4=>
 .br (!r4.1) (
 .leaf (r1,([],()),([],()))) (
 .ob (Wk (a0.2.2.2.2.2.2.1,()) a2 ((a3.1.length:Int),())) fun r5=>letI k1:=(r1.1,r1.2.1,r1.2.2.1,u1.1,u1.2.1,u1.2.2.1,r5.1,());
 .ob (Aae a3) fun r6=>
 .br (!r6.2.1) (
 .leaf (k1,([],()),([],()))) (
 .br (r6.1.1==1) (Ba7 a0 a1 a2 r1 r5 r6.1) (
 .br (r6.1.1==3) (Bhf a0 a1 a2 r1 r5 r6.1) (
 .ob (M0 (r6.1.1,())) fun r45=>
 .br r45.1 (Ba8 a0 a1 a2 r1 r5 r6.1) (
 .ob (Db k1 ([],())) fun r68=>
 .leaf (r68.2,r68.1,([],())))))))))
def Abw a0 a1 a2 a3:=(T4 a0 a1 a2 a3).val
def A48 (a0 a1:YBs):Tree (Bool×Unit):=
 .leaf (decide ((Ht a0.1)=(Ht a1.1)),())
def I4 a0 a1:=(A48 a0 a1).val
def Lj:Lst (List YI×List YI×Int×Unit) ((Bool×Unit)⊕(Unit)):=fun x1=>
 Tree.val <|
 .br (decide (x1.2.2.1<(x1.1.length:Int))) (
 .ob (idx x1.1 x1.2.2.1) fun e2=>
 .ob (idx x1.2.1 x1.2.2.1) fun e3=>
 .br (e2.1 != e3.1) (
 .leaf (.inr (.inl (false,())))) (
 .leaf (.inl (x1.1,x1.2.1,i64.wrap (x1.2.2.1+1),())))) (
 .leaf (.inr (.inr ())))
def Aih (a0 a1:List YI×Unit):Tree (Bool×Unit):=
 .br ((a0.1.length:Int) != (a1.1.length:Int)) (
 .leaf (false,())) (
 .ob (A0 Lj (a0.1,a1.1,0,())) fun o4=>
 .sm o4 (fun o5=>
 .leaf o5) (fun o6=>
 .leaf (true,())))
def Ai2 a0 a1:=(Aih a0 a1).val
def Am4 (a0 a1:Dg):Tree (Bool×Unit):=
 .br (a0.1==a1.1) (
 .ob (Ai2 (a0.2.1,()) (a1.2.1,())) fun r1=>
 .leaf r1) (
 .leaf (false,()))
def Ani a0 a1:=(Am4 a0 a1).val
def Atb (a0 a1:YEp):Tree (Bool×Unit):=
 .br (a0.1==a1.1) (
 .ob (I4 (a0.2.1,()) (a1.2.1,())) fun r1=>
 .br r1.1 (
 .br (a0.2.2.1==a1.2.2.1) (
 .ob (Ani (a0.2.2.2.1,a0.2.2.2.2.1,()) (a1.2.2.2.1,a1.2.2.2.2.1,())) fun r2=>
 .leaf r2) (
 .leaf (false,()))) (
 .leaf (false,()))) (
 .leaf (false,()))
def Agc a0 a1:=(Atb a0 a1).val
def Aii (a0 a1:Au):Tree (Bool×Unit):=
 letI u1:=a0.2.2.2;letI u2:=u1.2.2.2;letI u3:=u2.2.2.2.2;letI u4:=a1.2.2.2;letI u5:=u4.2.2.2;letI u6:=u5.2.2.2.2;.br (a0.1==a1.1) (
 .ob (I4 (a0.2.1,()) (a1.2.1,())) fun r1=>
 .br r1.1 (
 .ob (Agc (a0.2.2.1,u1.1,u1.2.1,u1.2.2.1,u2.1,()) (a1.2.2.1,u4.1,u4.2.1,u4.2.2.1,u5.1,())) fun r2=>
 .br r2.1 (
 .ob (Agc (u2.2.1,u2.2.2.1,u2.2.2.2.1,u3.1,u3.2.1,()) (u5.2.1,u5.2.2.1,u5.2.2.2.1,u6.1,u6.2.1,())) fun r3=>
 .br r3.1 (
 .br (u3.2.2.1==u6.2.2.1) (
 .br (u3.2.2.2.1==u6.2.2.2.1) (
 .ob (I4 (u3.2.2.2.2.1,()) (u6.2.2.2.2.1,())) fun r4=>
 .leaf r4) (
 .leaf (false,()))) (
 .leaf (false,()))) (
 .leaf (false,()))) (
 .leaf (false,()))) (
 .leaf (false,()))) (
 .leaf (false,()))
def Aaf a0 a1:=(Aii a0 a1).val
def J5:Lst (Int×Int×Int×List Bb×Int×Int×List Bb×Unit) ((Bool×Unit)⊕(Unit)):=fun x1=>
 letI u1:=x1.2.2.2;letI u2:=u1.2.2.2;letI k1:=idx u1.1 x1.1;letI k2:=idx u2.1 x1.1;Tree.val <|
 .br (decide (x1.1<(x1.2.2.2.1.length:Int))) (
 .ob k1 fun e2=>
 .ob k2 fun e3=>
 .br (!(and (e2.1==e3.1) (and (e2.2.1==e3.2.1) true))) (
 .leaf (.inr (.inl (false,())))) (
 .ob k1 fun e4=>
 .ob k2 fun e5=>
 .ob (I4 (e4.2.2.1,()) (e5.2.2.1,())) fun r6=>
 .br (!r6.1) (
 .leaf (.inr (.inl (false,())))) (
 .ob k1 fun e7=>
 .ob k2 fun e8=>
 .br (e7.2.2.2.1 != e8.2.2.2.1) (
 .leaf (.inr (.inl (false,())))) (
 .leaf (.inl (i64.wrap (x1.1+1),x1.2.1,x1.2.2.1,u1.1,u1.2.1,u1.2.2.1,u2.1,())))))) (
 .leaf (.inr (.inr ())))
def Ae6 (a0 a1:Bn):Tree (Bool×Unit):=
 .br (!(and (a0.1==a1.1) (and (a0.2.1==a1.2.1) true))) (
 .leaf (false,())) (
 .br ((a0.2.2.1.length:Int) != (a1.2.2.1.length:Int)) (
 .leaf (false,())) (
 .ob (A0 J5 (0,a0.1,a0.2.1,a0.2.2.1,a1.1,a1.2.1,a1.2.2.1,())) fun o9=>
 .sm o9 (fun o10=>
 .leaf o10) (fun o11=>
 .leaf (true,()))))
def Wa a0 a1:=(Ae6 a0 a1).val
def Aij (a0 a1:Al):Tree (Bool×Unit):=
 letI u1:=a0.2.2.2;letI u2:=u1.2.2.2;letI u3:=u2.2.2.2;letI u4:=u3.2.2.2;letI u5:=u4.2.2.2;letI u6:=u5.2.2.2.2;letI u7:=a1.2.2.2;letI u8:=u7.2.2.2;letI u9:=u8.2.2.2;letI u10:=u9.2.2.2;letI u11:=u10.2.2.2;letI u12:=u11.2.2.2.2;.br (a0.1==a1.1) (
 .ob (I4 (a0.2.1,()) (a1.2.1,())) fun r1=>
 .br r1.1 (
 .ob (I4 (a0.2.2.1,()) (a1.2.2.1,())) fun r2=>
 .br r2.1 (
 .ob (Aaf (u1.1,u1.2.1,u1.2.2.1,u2.1,u2.2.1,u2.2.2.1,u3.1,u3.2.1,u3.2.2.1,u4.1,u4.2.1,u4.2.2.1,u5.1,u5.2.1,u5.2.2.1,()) (u7.1,u7.2.1,u7.2.2.1,u8.1,u8.2.1,u8.2.2.1,u9.1,u9.2.1,u9.2.2.1,u10.1,u10.2.1,u10.2.2.1,u11.1,u11.2.1,u11.2.2.1,())) fun r3=>
 .br r3.1 (
 .ob (Wa (u5.2.2.2.1,u6.1,u6.2.1,()) (u11.2.2.2.1,u12.1,u12.2.1,())) fun r4=>
 .br r4.1 (
 .br (u6.2.2.1==u12.2.2.1) (
 .br (u6.2.2.2.1==u12.2.2.2.1) (
 .leaf (u6.2.2.2.2.1==u12.2.2.2.2.1,())) (
 .leaf (false,()))) (
 .leaf (false,()))) (
 .leaf (false,()))) (
 .leaf (false,()))) (
 .leaf (false,()))) (
 .leaf (false,()))) (
 .leaf (false,()))
def Ai3 a0 a1:=(Aij a0 a1).val
def Ml:Lst (Int×Int×List Al×Int×List Al×Unit) ((Bool×Unit)⊕(Unit)):=fun x1=>
 letI u1:=x1.2.2;Tree.val <|
 .br (decide (x1.1<(x1.2.2.1.length:Int))) (
 .ob (idx u1.1 x1.1) fun e2=>
 .ob (idx u1.2.2.1 x1.1) fun e3=>
 .ob (Ai3 e2 e3) fun r4=>
 .br (!r4.1) (
 .leaf (.inr (.inl (false,())))) (
 .leaf (.inl (i64.wrap (x1.1+1),x1.2.1,u1.1,u1.2.1,u1.2.2.1,())))) (
 .leaf (.inr (.inr ())))
def Am5 (a0 a1:Ck):Tree (Bool×Unit):=
 .br (a0.1 != a1.1) (
 .leaf (false,())) (
 .br ((a0.2.1.length:Int) != (a1.2.1.length:Int)) (
 .leaf (false,())) (
 .ob (A0 Ml (0,a0.1,a0.2.1,a1.1,a1.2.1,())) fun o5=>
 .sm o5 (fun o6=>
 .leaf o6) (fun o7=>
 .leaf (true,()))))
def Anj a0 a1:=(Am5 a0 a1).val
def Iv:Lst (List An×List An×Int×Unit) ((Bool×Unit)⊕(Unit)):=fun x1=>
 Tree.val <|
 .br (decide (x1.2.2.1<(x1.1.length:Int))) (
 .ob (idx x1.1 x1.2.2.1) fun e2=>
 .ob (idx x1.2.1 x1.2.2.1) fun e3=>
 .br (!(and (e2.1==e3.1) (and (e2.2.1==e3.2.1) (and (e2.2.2.1==e3.2.2.1) (and (e2.2.2.2.1==e3.2.2.2.1) true))))) (
 .leaf (.inr (.inl (false,())))) (
 .leaf (.inl (x1.1,x1.2.1,i64.wrap (x1.2.2.1+1),())))) (
 .leaf (.inr (.inr ())))
def Zy (a0 a1:List An×Unit):Tree (Bool×Unit):=
 .br ((a0.1.length:Int) != (a1.1.length:Int)) (
 .leaf (false,())) (
 .ob (A0 Iv (a0.1,a1.1,0,())) fun o4=>
 .sm o4 (fun o5=>
 .leaf o5) (fun o6=>
 .leaf (true,())))
def Aag a0 a1:=(Zy a0 a1).val
def I3:Lst (Int×List YBs×List YB×List YB×Int×Int×List Al×List An×List YBs×List YB×List YB×Int×Int×List Al×List An×Unit) ((Bool×Unit)⊕(Unit)):=fun x5=>
 letI u1:=x5.2.2.2.2;letI u2:=u1.2.2.2.2;letI u3:=u2.2.2.2;Tree.val <|
 .br (decide (x5.1<(x5.2.1.length:Int))) (
 .ob (idx x5.2.1 x5.1) fun e6=>
 .ob (idx u2.1 x5.1) fun e7=>
 .ob (I4 e6 e7) fun r8=>
 .br (!r8.1) (
 .leaf (.inr (.inl (false,())))) (
 .leaf (.inl (i64.wrap (x5.1+1),x5.2.1,x5.2.2.1,x5.2.2.2.1,u1.1,u1.2.1,u1.2.2.1,u1.2.2.2.1,u2.1,u2.2.1,u2.2.2.1,u3.1,u3.2.1,u3.2.2.1,u3.2.2.2.1,())))) (
 .leaf (.inr (.inr ())))
def Abm (a0 a1:Bc):Tree (Bool×Unit):=
 letI u1:=a0.2.2;letI u2:=u1.2.2;letI u3:=a1.2.2;letI u4:=u3.2.2;.br ((a0.1.length:Int) != (a1.1.length:Int)) (
 .leaf (false,())) (
 .ob (I4 (a0.2.1,()) (a1.2.1,())) fun r1=>
 .br (!r1.1) (
 .leaf (false,())) (
 .ob (I4 (u1.1,()) (u3.1,())) fun r2=>
 .br (!r2.1) (
 .leaf (false,())) (
 .br (u1.2.1 != u3.2.1) (
 .leaf (false,())) (
 .ob (Anj (u2.1,u2.2.1,()) (u4.1,u4.2.1,())) fun r3=>
 .br (!r3.1) (
 .leaf (false,())) (
 .ob (Aag (u2.2.2.1,()) (u4.2.2.1,())) fun r4=>
 .br (!r4.1) (
 .leaf (false,())) (
 .ob (A0 I3 (0,a0.1,a0.2.1,u1.1,u1.2.1,u2.1,u2.2.1,u2.2.2.1,a1.1,a1.2.1,u3.1,u3.2.1,u4.1,u4.2.1,u4.2.2.1,())) fun o9=>
 .sm o9 (fun o10=>
 .leaf o10) (fun o11=>
 .leaf (true,()))))))))
def Ll a0 a1:=(Abm a0 a1).val
def Aik (a0 a1:Aq):Tree (Bool×Unit):=
 letI u1:=a0.2.2.2;letI u2:=u1.2.2.2.2;letI u3:=a1.2.2.2;letI u4:=u3.2.2.2.2;.br (a0.1==a1.1) (
 .br (a0.2.1==a1.2.1) (
 .br (a0.2.2.1==a1.2.2.1) (
 .br (u1.2.2.1==u3.2.2.1) (
 .br (u1.2.2.2.1==u3.2.2.2.1) (
 .br (and (u2.2.2.1==u4.2.2.1) (and (u2.2.2.2.1==u4.2.2.2.1) true)) (
 .br (u2.2.2.2.2.1==u4.2.2.2.2.1) (
 .ob (B7 (u1.1,()) (u3.1,())) fun r1=>
 .br r1.1 (
 .ob (B7 (u1.2.1,()) (u3.2.1,())) fun r2=>
 .br r2.1 (
 .ob (B7 (u2.1,()) (u4.1,())) fun r3=>
 .br r3.1 (
 .ob (B7 (u2.2.1,()) (u4.2.1,())) fun r4=>
 .leaf r4) (
 .leaf (false,()))) (
 .leaf (false,()))) (
 .leaf (false,()))) (
 .leaf (false,()))) (
 .leaf (false,()))) (
 .leaf (false,()))) (
 .leaf (false,()))) (
 .leaf (false,()))) (
 .leaf (false,()))) (
 .leaf (false,()))
def Ai4 a0 a1:=(Aik a0 a1).val
def J6:Lst (List Aq×List Aq×Int×Unit) ((Bool×Unit)⊕(Unit)):=fun x1=>
 Tree.val <|
 .br (decide (x1.2.2.1<(x1.1.length:Int))) (
 .ob (idx x1.1 x1.2.2.1) fun e2=>
 .ob (idx x1.2.1 x1.2.2.1) fun e3=>
 .ob (Ai4 e2 e3) fun r4=>
 .br (!r4.1) (
 .leaf (.inr (.inl (false,())))) (
 .leaf (.inl (x1.1,x1.2.1,i64.wrap (x1.2.2.1+1),())))) (
 .leaf (.inr (.inr ())))
def Ae7 (a0 a1:List Aq×Unit):Tree (Bool×Unit):=
 .br ((a0.1.length:Int) != (a1.1.length:Int)) (
 .leaf (false,())) (
 .ob (A0 J6 (a0.1,a1.1,0,())) fun o5=>
 .sm o5 (fun o6=>
 .leaf o6) (fun o7=>
 .leaf (true,())))
def Afc a0 a1:=(Ae7 a0 a1).val
def Va (a0:YBs):Tree (Bool×Unit):=
 .ob (Bl9 a0) fun r1=>
 .br r1.1 (
 .leaf (true,())) (
 .ob (Hy a0) fun r2=>letI u1:=r2.2.2;
 .ob (Abu r2.1 r2.2.1 u1.1 u1.2) fun r3=>letI u2:=r3.1.2.2.2;letI k1:=Ll (r3.1.1,r3.1.2.1,r3.1.2.2.1,u2.1,u2.2.1,u2.2.2.1,r2.1.2.2.2.2.2.2.1,()) r2.1;letI k2:=(r3.2.1.1.length:Int)==(0:Int);letI k3:=(r3.2.2.1.length:Int)==(0:Int);
 .ob (Abw r2.1 r2.2.1 u1.1 u1.2) fun r4=>
 .ob (Jm u1.2) fun r5=>
 .ob (Su r2.1) fun r6=>
 .ob (So r2.1) fun r7=>
 .br (!(r6.1==r7.1)) (
 .leaf (false,())) (
 .ob (Ll r3.1 r4.1) fun r8=>
 .br (!r8.1) (
 .leaf (false,())) (
 .ob (Afc r3.2.2 r4.2.2) fun r9=>
 .br (!r9.1) (
 .leaf (false,())) (
 .br r5.2.1 (
 .ob (Su r2.1) fun r10=>
 .br r10.1 (
 .leaf (true,())) (
 .br k2 (
 .br k3 (
 .ob k1 fun r11=>
 .leaf r11) (
 .leaf (false,()))) (
 .leaf (false,())))) (
 .br k2 (
 .br k3 (
 .ob k1 fun r12=>
 .leaf r12) (
 .leaf (false,()))) (
 .leaf (false,())))))))
def A28 a0:=(Va a0).val
def A8o (a0:YI):Tree (Ck):=
 .ob (Bl a0 (1,()) (6,())) fun r1=>
 .br (!r1.1) (
 .leaf (0,[],())) (
 .leaf (a0.1,[],()))
def A8p a0:=(A8o a0).val
end
end Go.Proofs.YthccfdmiejmbaaaGreat

/-
  What the functions of the seat answer, as plain terms (printed by a program, proved in the texts P); nothing is assumed.
-/
import Derived.Test.YthccfdmiejmbaaaGreatW0
namespace Go.Proofs.YthccfdmiejmbaaaGreat
open Go.RowKit IntKind
set_option linter.unusedVariables false
set_option maxRecDepth 100000
set_option maxHeartbeats 4000000
noncomputable section
def Lb:Lst (List YB×List YI×Int×Unit) (List YI×Unit):=fun x1=>
 letI u1:=x1.2.2;Tree.val <|
 .br (decide (u1.1<16)) (
 .ob (Avu (x1.1,()) (i64.wrap (4*u1.1),()) (4,())) fun r2=>
 .ob (idx x1.2.1 u1.1) fun e3=>
 let q4:=(x1.2.1.set (u1.1).toNat r2.1)
 .leaf (.inl (x1.1,q4,i64.wrap (u1.1+1),()))) (
 .leaf (.inr (x1.2.1,())))
def Lc:Lst (List YI×Int×Unit) (List YI×Unit):=fun x6=>
 Tree.val <|
 .br (decide (x6.2.1<64)) (
 .ob (idx x6.1 (i64.wrap (x6.2.1-15))) fun e7=>
 .ob (idx x6.1 (i64.wrap (x6.2.1-2))) fun e8=>
 .ob (Mm e7 (7,())) fun r9=>
 .ob (Mm e7 (18,())) fun r10=>
 .ob (Mm e8 (17,())) fun r11=>
 .ob (Mm e8 (19,())) fun r12=>
 .ob (idx x6.1 (i64.wrap (x6.2.1-7))) fun e13=>
 .ob (idx x6.1 (i64.wrap (x6.2.1-16))) fun e14=>
 .ob (idx x6.1 x6.2.1) fun e15=>
 let q16:=(x6.1.set (x6.2.1).toNat (i64.wrap ((BitVec.ofInt i64.bits (i64.wrap (i64.wrap (i64.wrap (e13.1+e14.1)+i64.wrap ((BitVec.ofInt i64.bits (i64.wrap ((BitVec.ofInt i64.bits r9.1 ^^^ BitVec.ofInt i64.bits r10.1).toNat:Nat)) ^^^ BitVec.ofInt i64.bits (Int.fdiv e7.1 (2^(min (3:Int).toNat i64.bits)))).toNat:Nat))+i64.wrap ((BitVec.ofInt i64.bits (i64.wrap ((BitVec.ofInt i64.bits r11.1 ^^^ BitVec.ofInt i64.bits r12.1).toNat:Nat)) ^^^ BitVec.ofInt i64.bits (Int.fdiv e8.1 (2^(min (10:Int).toNat i64.bits)))).toNat:Nat))) &&& BitVec.ofInt i64.bits 4294967295).toNat:Nat),()))
 .leaf (.inl (q16,i64.wrap (x6.2.1+1),()))) (
 .leaf (.inr (x6.1,())))
def Aao (a0:YBs):Tree (List YI×Unit):=
 .br ((a0.1.length:Int) != 64) (
 .leaf ([],())) (
 .ob (Ax Lb (a0.1,List.replicate (64:Int).toNat (0,()),0,())) fun o5=>
 .ob (Ax Lc (o5.1,16,())) fun o17=>
 .leaf o17)
def Akc a0:=(Aao a0).val
def Aya (a0:YI):Tree YI:=.leaf (Aew a0.1,())
def Ayn a0:=(Aya a0).val
def Bf5 (a0 a1:YI):Tree (YI):=
 .leaf (i64.wrap ((BitVec.ofInt i64.bits (i64.wrap (a0.1+a1.1)) &&& BitVec.ofInt i64.bits 4294967295).toNat:Nat),())
def Al2 a0 a1:=(Bf5 a0 a1).val
def Iw:Lst (List YI×List YI×List YI×Int×Int×Int×Int×Int×Int×Int×Int×Int×Unit) (List YI×List YI×Int×Int×Int×Int×Int×Int×Int×Int×Unit):=fun x11=>
 letI u1:=x11.2.2.2;letI u2:=u1.2.2;letI u3:=u2.2.2;letI u4:=u3.2.2;Tree.val <|
 .br (decide (u4.2.2.1<64)) (
 .ob (Mm (u3.1,()) (6,())) fun r12=>
 .ob (Mm (u3.1,()) (11,())) fun r13=>
 .ob (Mm (u3.1,()) (25,())) fun r14=>
 .ob (Ayn (u4.2.2.1,())) fun r15=>
 .ob (idx x11.2.2.1 u4.2.2.1) fun e16=>letI k1:=(i64.wrap (i64.wrap (i64.wrap (i64.wrap (u4.2.1+i64.wrap ((BitVec.ofInt i64.bits (i64.wrap ((BitVec.ofInt i64.bits r12.1 ^^^ BitVec.ofInt i64.bits r13.1).toNat:Nat)) ^^^ BitVec.ofInt i64.bits r14.1).toNat:Nat))+i64.wrap ((BitVec.ofInt i64.bits (i64.wrap ((BitVec.ofInt i64.bits u3.1 &&& BitVec.ofInt i64.bits u3.2.1).toNat:Nat)) ^^^ BitVec.ofInt i64.bits (i64.wrap ((BitVec.ofInt i64.bits (i64.wrap ((BitVec.ofInt i64.bits (4294967295:Int) ^^^ BitVec.ofInt i64.bits u3.1).toNat:Nat)) &&& BitVec.ofInt i64.bits u4.1).toNat:Nat))).toNat:Nat))+r15.1)+e16.1),());
 .ob (Mm (u1.1,()) (2,())) fun r17=>
 .ob (Mm (u1.1,()) (13,())) fun r18=>
 .ob (Mm (u1.1,()) (22,())) fun r19=>
 .ob (Al2 (u2.2.1,()) k1) fun r20=>
 .ob (Al2 k1 (i64.wrap (i64.wrap ((BitVec.ofInt i64.bits (i64.wrap ((BitVec.ofInt i64.bits r17.1 ^^^ BitVec.ofInt i64.bits r18.1).toNat:Nat)) ^^^ BitVec.ofInt i64.bits r19.1).toNat:Nat)+i64.wrap ((BitVec.ofInt i64.bits (i64.wrap ((BitVec.ofInt i64.bits (i64.wrap ((BitVec.ofInt i64.bits u1.1 &&& BitVec.ofInt i64.bits u1.2.1).toNat:Nat)) ^^^ BitVec.ofInt i64.bits (i64.wrap ((BitVec.ofInt i64.bits u1.1 &&& BitVec.ofInt i64.bits u2.1).toNat:Nat))).toNat:Nat)) ^^^ BitVec.ofInt i64.bits (i64.wrap ((BitVec.ofInt i64.bits u1.2.1 &&& BitVec.ofInt i64.bits u2.1).toNat:Nat))).toNat:Nat)),())) fun r21=>
 .leaf (.inl (x11.1,x11.2.1,x11.2.2.1,r21.1,u1.1,u1.2.1,u2.1,r20.1,u3.1,u3.2.1,u4.1,i64.wrap (u4.2.2.1+1),()))) (
 .leaf (.inr (x11.1,x11.2.1,u1.1,u1.2.1,u2.1,u2.2.1,u3.1,u3.2.1,u4.1,u4.2.1,())))
def H7:Lst (List YI×List YI×List YI×Int×Int×Unit) (List YI×Unit):=fun x23=>
 letI u1:=x23.2.2;letI u2:=u1.2.2;Tree.val <|
 .br (decide (u2.1<u1.2.1)) (
 .ob (idx u1.1 u2.1) fun e24=>
 .ob (idx x23.1 u2.1) fun e25=>
 .ob (Al2 e25 e24) fun r26=>
 .ob (idx x23.2.1 u2.1) fun e27=>
 let q28:=(x23.2.1.set (u2.1).toNat r26)
 .leaf (.inl (x23.1,q28,u1.1,u1.2.1,i64.wrap (u2.1+1),()))) (
 .leaf (.inr (x23.2.1,())))
def Aap (a0:List YI×Unit) (a1:YBs):Tree (List YI×Unit):=
 letI k1:=([]:List YI)++a0.1; .chk (decide (([]:List YI).length+a0.1.length<=4294967296)) <|
 .ob (Tl a0 (8,())) fun r1=>
 .br (!r1.1) (
 .leaf (k1,())) (
 .br ((a1.1.length:Int) != 64) (
 .leaf (k1,())) (
 .ob (Akc a1) fun r2=>
 .ob (idx a0.1 0) fun e3=>
 .ob (idx a0.1 1) fun e4=>
 .ob (idx a0.1 2) fun e5=>
 .ob (idx a0.1 3) fun e6=>
 .ob (idx a0.1 4) fun e7=>
 .ob (idx a0.1 5) fun e8=>
 .ob (idx a0.1 6) fun e9=>
 .ob (idx a0.1 7) fun e10=>
 .ob (Ax Iw (a0.1,k1,r2.1,e3.1,e4.1,e5.1,e6.1,e7.1,e8.1,e9.1,e10.1,0,())) fun o22=>letI u1:=o22.2.2;letI u2:=u1.2.2;letI u3:=u2.2.2.2;
 .ob (Ax H7 (o22.1,o22.2.1,[(u1.1,()),(u1.2.1,()),(u2.1,()),(u2.2.1,()),(u2.2.2.1,()),(u3.1,()),(u3.2.1,()),(u3.2.2.1,())],([(u1.1,()),(u1.2.1,()),(u2.1,()),(u2.2.1,()),(u2.2.2.1,()),(u3.1,()),(u3.2.1,()),(u3.2.2.1,())].length:Int),0,())) fun o29=>
 .leaf o29))
def Tm a0 a1:=(Aap a0 a1).val
def Gr:Lst (List YI×List YB×Unit) (List YI×List YB×Unit):=fun x3=>
 letI k1:=(x3.2.1.length:Int);letI k2:=decide ((64:Int)<=k1); Tree.val <|
 .br (decide (k1≥64)) (
 .chk k2 <|
 .ob (Tm (x3.1,()) ((x3.2.1.take (64:Int).toNat).drop (0:Int).toNat,())) fun r4=>
 .chk k2 <|
 .chk (decide (k1<=k1)) <|
 .leaf (.inl (r4.1,(x3.2.1.take (k1).toNat).drop (64:Int).toNat,()))) (
 .leaf (.inr x3))
def Aar (a0:List YI×Unit) (a1:YBs):Tree ((List YI×Unit)×YBs):=
 .ob (Ax Gr (a0.1,a1.1,())) fun o5=>
 .leaf ((o5.1,()),(o5.2.1,()))
def Sl a0 a1:=(Aar a0 a1).val
def An2 (a0:Sj) (a1:YBs):Tree (Sj):=
 letI k1:=decide (([]:List YI).length+a0.1.length<=4294967296); .ob (Ahb a0) fun r1=>
 .br (!r1.1) (
 .chk k1 <|
 .ob (Bg (a0.2.1,())) fun r2=>
 .leaf (([]:List YI)++a0.1,r2.1,a0.2.2.1,())) (
 .br (decide ((a1.1.length:Int)>i64.wrap (1048576-a0.2.2.1))) (
 .chk k1 <|
 .ob (Bg (a0.2.1,())) fun r3=>
 .leaf (([]:List YI)++a0.1,r3.1,a0.2.2.1,())) (
 .ob (Er ([(a0.2.1,()),a1],())) fun r4=>
 .ob (Sl (a0.1,()) r4) fun r5=>
 .chk (decide (([]:List YI).length+r5.1.1.length<=4294967296)) <|
 .ob (Bg r5.2) fun r6=>
 .leaf (([]:List YI)++r5.1.1,r6.1,i64.wrap (a0.2.2.1+(a1.1.length:Int)),())))
def Ao1 a0 a1:=(An2 a0 a1).val
def Te:Lst (Int×List YB×Unit) (Int×List YB×Unit):=fun x2=>
 letI k1:=i64.wrap (i64.wrap (x2.1+(x2.2.1.length:Int))+(8:Int)); Tree.val <|
 .chk (decide (0<=k1)) <|
 .br ((k1%64) != 0) (
 .chk (decide (x2.2.1.length+[((0:Int),())].length<=4294967296)) <|
 .leaf (.inl (x2.1,x2.2.1++[((0:Int),())],()))) (
 .leaf (.inr x2))
def Bdh (a0:YI):Tree (YBs):=
 .ob (Be a0 (0,()) (1048576,())) fun r1=>
 .br (!r1.1) (
 .leaf ([],())) (
 .ob (Ax Te (a0.1,[(128,())],())) fun o3=>
 .chk (decide (o3.2.1.length+[((0:Int),()),((0:Int),())].length<=4294967296)) <|
 .ob (Fd (o3.2.1++[((0:Int),()),((0:Int),())],()) (i64.wrap (8*o3.1),()) (6,())) fun r4=>
 .leaf r4)
def Bd3 a0:=(Bdh a0).val
def Jz:Lst (List YB×List YI×Int×Int×Unit) (YBs):=fun x1=>
 letI u1:=x1.2.2;Tree.val <|
 .br (decide (u1.2.1<u1.1)) (
 .ob (idx x1.2.1 u1.2.1) fun e2=>
 .ob (Fd (x1.1,()) e2 (4,())) fun r3=>
 .leaf (.inl (r3.1,x1.2.1,u1.1,i64.wrap (u1.2.1+1),()))) (
 .leaf (.inr (x1.1,())))
def Afw (a0:List YI×Unit):Tree (YBs):=
 .ob (Ax Jz ([],a0.1,(a0.1.length:Int),0,())) fun o4=>
 .leaf o4
def Agh a0:=(Afw a0).val
def An3 (a0:Sj):Tree (YBs):=
 .ob (Ahb a0) fun r1=>
 .br (!r1.1) (
 .leaf ([],())) (
 .ob (Bd3 (a0.2.2.1,())) fun r2=>
 .ob (Er ([(a0.2.1,()),r2],())) fun r3=>
 .ob (Sl (a0.1,()) r3) fun r4=>
 .ob (Agh r4.1) fun r5=>
 .leaf r5)
def Ao2 a0:=(An3 a0).val
def Bdk (a0:YBs):Tree (YBs):=
 .br (decide ((a0.1.length:Int)>1048576)) (
 .leaf ([],())) (
 .ob A5p fun r1=>
 .ob (Ao1 r1 a0) fun r2=>
 .ob (Ao2 r2) fun r3=>
 .leaf r3)
def Aq9 a0:=(Bdk a0).val
def Hm:Lst (YBs) (YBs):=fun x3=>
 Tree.val <|
 .br (decide ((x3.1.length:Int)<64)) (
 .chk (decide (x3.1.length+[((0:Int),())].length<=4294967296)) <|
 .leaf (.inl (x3.1++[((0:Int),())],()))) (
 .leaf (.inr x3))
def Ajb (a0:YBs):Tree (YBs):=
 .br (decide ((a0.1.length:Int)>1048576)) (
 .leaf ([],())) (
 .ob (Bg a0) fun r1=>
 .br (decide ((a0.1.length:Int)>64)) (
 .ob (Aq9 a0) fun r2=>
 .ob (Ax Hm r2) fun o4=>
 .leaf o4) (
 .ob (Ax Hm r1) fun o5=>
 .leaf o5))
def Akd a0:=(Ajb a0).val
def Oy:Lst (Int×List YB×List YB×Int×Int×Unit) (YBs):=fun x1=>
 letI u1:=x1.2.2;Tree.val <|
 .br (decide (u1.2.2.1<u1.2.1)) (
 .ob (idx u1.1 u1.2.2.1) fun e2=>
 .chk (decide (x1.2.1.length+[(u8.wrap ((BitVec.ofInt u8.bits e2.1 ^^^ BitVec.ofInt u8.bits x1.1).toNat:Nat),())].length<=4294967296)) <|
 .leaf (.inl (x1.1,x1.2.1++[(u8.wrap ((BitVec.ofInt u8.bits e2.1 ^^^ BitVec.ofInt u8.bits x1.1).toNat:Nat),())],u1.1,u1.2.1,i64.wrap (u1.2.2.1+1),()))) (
 .leaf (.inr (x1.2.1,())))
def Aue (a0:YBs) (a1:YB):Tree (YBs):=
 .ob (Ax Oy (a1.1,[],a0.1,(a0.1.length:Int),0,())) fun o3=>
 .leaf o3
def Ahc a0 a1:=(Aue a0 a1).val
def A69 (a0 a1:YBs):Tree (YBs):=
 .br (decide ((a0.1.length:Int)>1048576)) (
 .leaf ([],())) (
 .br (decide ((a1.1.length:Int)>1048512)) (
 .leaf ([],())) (
 .ob (Akd a0) fun r1=>
 .ob (Ahc r1 (92,())) fun r2=>
 .ob (Ahc r1 (54,())) fun r3=>
 .ob (Er ([r3,a1],())) fun r4=>
 .ob (Aq9 r4) fun r5=>
 .ob (Er ([r2,r5],())) fun r6=>
 .ob (Aq9 r6) fun r7=>
 .leaf r7))
def Xk a0 a1:=(A69 a0 a1).val
def Auf (a0:YBs) (a1:YI):Tree (YBs):=
 .ob (Be ((a0.1.length:Int),()) (1,()) (32,())) fun r1=>
 .br (!r1.1) (
 .leaf ([],())) (
 .ob (Be a1 (0,()) (10000,())) fun r2=>
 .br (!r2.1) (
 .leaf ([],())) (
 .ob (Fd ([(114,()),(111,()),(108,()),(108,())],()) a1 (4,())) fun r3=>
 .ob (Xk a0 r3) fun r4=>
 .chk (decide (12<=(r4.1.length:Int))) <|
 .ob (Bg ((r4.1.take (12:Int).toNat).drop (0:Int).toNat,())) fun r5=>
 .leaf r5))
def Avw a0 a1:=(Auf a0 a1).val
def A7b (a0:C7):Tree (C7×YBs):=
 .ob (Bg (a0.1,())) fun r1=>
 .ob (Ag9 a0) fun r2=>
 .br (!r2.1) (
 .leaf ((r1.1,a0.2.1,()),([],()))) (
 .br (a0.2.1==10000) (
 .leaf ((r1.1,a0.2.1,()),([],()))) (
 .ob (Avw (a0.1,()) (a0.2.1,())) fun r3=>
 .leaf ((r1.1,i64.wrap (a0.2.1+1),()),r3)))
def Avx a0:=(A7b a0).val
def An4 (a0:YBs) (a1:A6):Tree (YBs):=
 .ob (Gi a1) fun r1=>
 .br (!r1.1) (
 .ob (Bg a0) fun r2=>
 .leaf r2) (
 .ob (Fd a0 (a1.1,()) (4,())) fun r3=>
 .ob (Fd r3 (a1.2.1,()) (2,())) fun r4=>
 .leaf r4)
def A5q a0 a1:=(An4 a0 a1).val
def Ajc (a0:A6) (a1:YI) (a2 a3:YBs) (a4:YI):Tree (YBs):=
 .ob (Gi a0) fun r1=>
 .br (!r1.1) (
 .leaf ([],())) (
 .ob (Be a1 (1,()) (9,())) fun r2=>
 .br (!r2.1) (
 .leaf ([],())) (
 .ob (Ds a2) fun r3=>
 .br (!r3.1) (
 .leaf ([],())) (
 .ob (Ds a3) fun r4=>
 .br (!r4.1) (
 .leaf ([],())) (
 .ob (Be a4 (0,()) (1000000,())) fun r5=>
 .br (!r5.1) (
 .leaf ([],())) (
 .ob (A5q ([(99,())],()) a0) fun r6=>
 .ob (Fd ([],()) a4 (4,())) fun r7=>
 .ob (Er ([r6,([(u8.wrap a1.1,())],()),a2,a3,r7],())) fun r8=>
 .leaf r8)))))
def Tn a0 a1 a2 a3 a4:=(Ajc a0 a1 a2 a3 a4).val
def Bdl (a0 a1:YBs):Tree (YBs):=
 .ob (Xk a0 a1) fun r1=>
 .br ((r1.1.length:Int)==0) (
 .leaf ([],())) (
 .chk (decide (16<=(r1.1.length:Int))) <|
 .ob (Bg ((r1.1.take (16:Int).toNat).drop (0:Int).toNat,())) fun r2=>
 .leaf r2)
def Ahr a0 a1:=(Bdl a0 a1).val
def A7d (a0:YBs) (a1:A6) (a2:YI) (a3 a4:YBs) (a5:YI):Tree (YBs):=
 .ob (Tn a1 a2 a3 a4 a5) fun r1=>
 .ob (Al0 a0) fun r2=>
 .br (!r2.1) (
 .leaf ([],())) (
 .br ((r1.1.length:Int)==0) (
 .leaf ([],())) (
 .ob (Ahr a0 r1) fun r3=>
 .leaf r3))
def Avy a0 a1 a2 a3 a4 a5:=(A7d a0 a1 a2 a3 a4 a5).val
def A7f (a0 a1:YBs):Tree (Am):=
 .ob (Bg a0) fun r1=>
 .ob (Bg a1) fun r2=>
 .leaf (15,0,0,[],[],0,0,r2.1,r1.1,0,0,0,())
def Avz a0 a1:=(A7f a0 a1).val
def Aje (a0:YBs):Tree (Am):=
 .ob (Bg a0) fun r1=>
 .leaf (14,0,0,[],[],0,0,r1.1,[],0,0,0,())
def Lw a0:=(Aje a0).val
def Aat (a0:A0) (a1:YI) (a2:A6) (a3:As):Tree (A0×(List Au×Unit)×(List Am×Unit)):=
 letI u1:=a0.2.2.2;letI k1:=(a3.2.2.1,());.br (decide (a3.2.1>(a0.1.length:Int))) (
 .leaf (a0,([],()),([],()))) (
 .ob (Aha a0 a2 (45,())) fun r1=>
 .br (!r1.1) (
 .leaf (a0,([],()),([],()))) (
 .br (decide (u1.1≥10000)) (
 .leaf (a0,([],()),([],()))) (
 .ob (Avx (a0.2.2.1,u1.1,())) fun r2=>
 .ob (Avy (a0.2.1,()) a2 (a3.2.1,()) k1 r2.2 a1) fun r3=>
 .ob (Bg k1) fun r4=>
 .ob (Bg r2.2) fun r5=>
 .ob (Tn a2 (a3.2.1,()) k1 r2.2 a1) fun r6=>
 .ob (Avz (a0.2.1,()) r6) fun r7=>
 .ob (Lw r2.2) fun r8=>
 .leaf ((a0.1,a0.2.1,r2.1.1,r2.1.2.1,u1.2.1,u1.2.2.1,u1.2.2.2.1,()),([(a2.1,a2.2.1,2,0,r4.1,r5.1,a1.1,r3.1,[],0,0,[],[],())],()),([r8,r7],())))))
def To a0 a1 a2 a3:=(Aat a0 a1 a2 a3).val
def A0r (a0 a1:YI):Tree (Bool×Unit):=
 .ob (Be a0 (0,()) (1000000,())) fun r1=>
 .br r1.1 (
 .ob (Be a1 (0,()) (1000000,())) fun r2=>
 .br r2.1 (
 .ob (Be (i64.wrap (a0.1-a1.1),()) (0,()) (10,())) fun r3=>
 .leaf r3) (
 .leaf (false,()))) (
 .leaf (false,()))
def A1v a0 a1:=(A0r a0 a1).val
def Aau:Lst (List YB×List YB×Int×Int×Int×Unit) (YI):=fun x1=>
 letI u1:=x1.2.2.2;Tree.val <|
 .br (decide (u1.2.1<u1.1)) (
 .ob (idx x1.1 u1.2.1) fun e2=>
 .ob (idx x1.2.1 u1.2.1) fun e3=>
 .leaf (.inl (x1.1,x1.2.1,i64.wrap ((BitVec.ofInt i64.bits x1.2.2.1 ||| BitVec.ofInt i64.bits (i64.wrap (u8.wrap ((BitVec.ofInt u8.bits e2.1 ^^^ BitVec.ofInt u8.bits e3.1).toNat:Nat)))).toNat:Nat),u1.1,i64.wrap (u1.2.1+1),()))) (
 .leaf (.inr (x1.2.2.1,())))
def A7h (a0 a1:YBs):Tree (YI):=
 .br ((a0.1.length:Int) != (a1.1.length:Int)) (
 .leaf (-1,())) (
 .ob (Ax Aau (a0.1,a1.1,0,(a0.1.length:Int),0,())) fun o4=>
 .leaf o4)
def Xl a0 a1:=(A7h a0 a1).val
def An5 (a0 a1:YBs):Tree (Bool×Unit):=
 .br ((a0.1.length:Int)==16) (
 .ob (Xl a0 a1) fun r1=>
 .leaf (r1.1==0,())) (
 .leaf (false,()))
def Sa a0 a1:=(An5 a0 a1).val
def Als (a0:YBs) (a1:YI) (a2:A6) (a3:As):Tree (YI):=
 letI u1:=a3.2.2.2;.ob (Al0 a0) fun r1=>
 .br (!r1.1) (
 .leaf (1,())) (
 .ob (Be a1 (0,()) (1000000,())) fun r2=>
 .br (!r2.1) (
 .leaf (1,())) (
 .ob (Gi a2) fun r3=>
 .br (!r3.1) (
 .leaf (1,())) (
 .br (a3.1 != 3) (
 .leaf (1,())) (
 .ob (Dd a3) fun r4=>
 .br (!r4.1) (
 .leaf (1,())) (
 .ob (A1v a1 (u1.2.1,())) fun r5=>
 .br (!r5.1) (
 .leaf (9,())) (
 .ob (Avy a0 a2 (a3.2.1,()) (a3.2.2.1,()) (u1.1,()) (u1.2.1,())) fun r6=>
 .ob (Sa (u1.2.2.1,()) r6) fun r7=>
 .br (!r7.1) (
 .leaf (2,())) (
 .leaf (0,()))))))))
def Ae3 a0 a1 a2 a3:=(Als a0 a1 a2 a3).val
def Ad5 (a0 a1:YBs):Tree (YBs):=
 .ob (Xk a0 a1) fun r1=>
 .leaf r1
def Aeg a0 a1:=(Ad5 a0 a1).val
def Oz:Lst (List YB×List YB×Int×List YB×List YB×Int×Unit) (Int×List YB×Unit):=fun x2=>
 letI u1:=x2.2.2;Tree.val <|
 .br (decide ((x2.2.2.2.1.length:Int)<u1.1)) (
 .ob (Er ([(u1.2.2.1,()),(x2.2.1,()),([(u8.wrap u1.2.2.2.1,())],())],())) fun r3=>
 .ob (Xk (x2.1,()) r3) fun r4=>
 .chk (decide (x2.2.2.2.1.length+r4.1.length<=4294967296)) <|
 .leaf (.inl (x2.1,x2.2.1,u1.1,u1.2.1++r4.1,r4.1,i64.wrap (u1.2.2.2.1+1),()))) (
 .leaf (.inr (u1.1,u1.2.1,())))
def Auh (a0 a1:YBs) (a2:YI):Tree (YBs×(Bool×Unit)):=
 .ob (Be a2 (0,()) (8160,())) fun r1=>
 .br (!r1.1) (
 .leaf (([],()),(false,()))) (
 .br (decide ((a1.1.length:Int)>100)) (
 .leaf (([],()),(false,()))) (
 .br (decide ((a0.1.length:Int)>1048576)) (
 .leaf (([],()),(false,()))) (
 .ob (Ax Oz (a0.1,a1.1,a2.1,[],[],1,())) fun o5=>
 .chk (decide (0<=o5.1)) <|
 .chk (decide (o5.1<=(o5.2.1.length:Int))) <|
 .ob (Bg ((o5.2.1.take (o5.1).toNat).drop (0:Int).toNat,())) fun r6=>
 .leaf (r6,(true,())))))
def Av0 a0 a1 a2:=(Auh a0 a1 a2).val
def Aui (a0:YBs) (a1:ByteArray×Unit):Tree (YBs):=
 .chk (decide (a1.1.size<=4294967296)) <|
 .ob (Av0 a0 (L8 a1.1,()) (32,())) fun r1=>
 .leaf r1.1
def Nh a0 a1:=(Aui a0 a1).val
def Afz (a0:YBs):Tree (YBs):=
 .ob (Ze a0) fun r1=>
 .br (!r1.1) (
 .leaf ([],())) (
 .ob (Aeg ([(114,()),(111,()),(97,()),(109,())],()) a0) fun r2=>
 .ob (Nh r2 (Hg [102,105,110,105,115,104],())) fun r3=>
 .leaf r3)
def W4 a0:=(Afz a0).val
def Af1 (a0:YI) (a1 a2:YBs) (a3:YI) (a4:YBs):Tree (YBs):=
 .ob (Be a0 (1,()) (9,())) fun r1=>
 .br (!r1.1) (
 .leaf ([],())) (
 .ob (Ds a1) fun r2=>
 .br (!r2.1) (
 .leaf ([],())) (
 .ob (Ds a2) fun r3=>
 .br (!r3.1) (
 .leaf ([],())) (
 .ob (Be a3 (0,()) (1000000,())) fun r4=>
 .br (!r4.1) (
 .leaf ([],())) (
 .br ((a4.1.length:Int) != 16) (
 .leaf ([],())) (
 .ob (Fd ([],()) a3 (4,())) fun r5=>
 .ob (Er ([([(102,()),(u8.wrap a0.1,())],()),a1,a2,r5,a4],())) fun r6=>
 .leaf r6)))))
def W5 a0 a1 a2 a3 a4:=(Af1 a0 a1 a2 a3 a4).val
def A0t (a0:YBs) (a1:YI) (a2 a3:YBs) (a4:YI) (a5:YBs):Tree (YBs):=
 .ob (W4 a0) fun r1=>
 .ob (W5 a1 a2 a3 a4 a5) fun r2=>
 .br ((r1.1.length:Int)==0) (
 .leaf ([],())) (
 .br ((r2.1.length:Int)==0) (
 .leaf ([],())) (
 .ob (Ahr r1 r2) fun r3=>
 .leaf r3))
def A1w a0 a1 a2 a3 a4 a5:=(A0t a0 a1 a2 a3 a4 a5).val
def Ad7 (a0:YBs) (a1:As):Tree (Bool×Unit):=
 letI u1:=a1.2.2.2;.br (a1.1==3) (
 .ob (Dd a1) fun r1=>
 .br r1.1 (
 .ob (A1w a0 (a1.2.1,()) (a1.2.2.1,()) (u1.1,()) (u1.2.1,()) (u1.2.2.1,())) fun r2=>
 .ob (Sa (u1.2.2.2.1,()) r2) fun r3=>
 .leaf r3) (
 .leaf (false,()))) (
 .leaf (false,()))
def Wb a0 a1:=(Ad7 a0 a1).val
def Ajg (a0:A6):Tree (Bd):=
 .leaf (a0.1,a0.2.1,[],())
def A1x a0:=(Ajg a0).val
def An7 (a0 a1 a2:YBs):Tree (YBs):=
 .ob (Ze a0) fun r1=>
 .br (!r1.1) (
 .leaf ([],())) (
 .ob (Ds a1) fun r2=>
 .br (!r2.1) (
 .leaf ([],())) (
 .ob (Ds a2) fun r3=>
 .br (!r3.1) (
 .leaf ([],())) (
 .ob (Er ([a1,a2],())) fun r4=>
 .ob (Aeg r4 a0) fun r5=>
 .leaf r5)))
def Ao3 a0 a1 a2:=(An7 a0 a1 a2).val
def Ajh (a0:YBs):Tree (YBs):=
 .br ((a0.1.length:Int) != 32) (
 .leaf ([],())) (
 .ob (Nh a0 (Hg [101,112,111,99,104],())) fun r1=>
 .leaf r1)
def Ake a0:=(Ajh a0).val
def Ry:Lst (Int×List YB×Int×Unit) (YBs):=fun x3=>
 Tree.val <|
 .br (decide (x3.2.2.1<x3.1)) (
 .ob (Nh (x3.2.1,()) (Hg [114,101,107,101,121],())) fun r4=>
 .leaf (.inl (x3.1,r4.1,i64.wrap (x3.2.2.1+1),()))) (
 .leaf (.inr (x3.2.1,())))
def A0w (a0:YBs) (a1:YI):Tree (YBs):=
 .ob (Be a1 (0,()) (64,())) fun r1=>
 .br (!r1.1) (
 .leaf ([],())) (
 .ob (Bg a0) fun r2=>
 .ob (Ax Ry (a1.1,r2.1,0,())) fun o5=>
 .leaf o5)
def A1y a0 a1:=(A0w a0 a1).val
def Aji (a0 a1 a2:YBs) (a3:YI):Tree (YBs):=
 .ob (Ao3 a0 a1 a2) fun r1=>
 .ob (Ake r1) fun r2=>
 .br ((r2.1.length:Int)==0) (
 .leaf ([],())) (
 .ob (A1y r2 a3) fun r3=>
 .leaf r3)
def Aa7 a0 a1 a2 a3:=(Aji a0 a1 a2 a3).val
def Auj:Tree (Cz):=
 .leaf (-1,List.replicate (32:Int).toNat (0,()),())
def Ahd:=Auj.val
def Alu (a0:YI) (a1:YBs):Tree (YEp):=
 .ob (Be a0 (0,()) (4294967295,())) fun r1=>
 .br (!r1.1) (
 .leaf (0,[],0,0,[],())) (
 .br ((a1.1.length:Int) != 32) (
 .leaf (0,[],0,0,[],())) (
 .ob (Bg a1) fun r2=>
 .ob Ahd fun r3=>
 .leaf (a0.1,r2.1,0,r3.1,r3.2.1,())))
def Pv a0 a1:=(Alu a0 a1).val
def Ad8 (a0:YI) (a1 a2:YBs):Tree (Aq):=
 .ob (Qm a0) fun r1=>
 .br (!r1.1) (
 .leaf (0,[],0,[],0,0,[],0,[],0,0,[],false,0,[],())) (
 .ob (Ds a1) fun r2=>
 .br (!r2.1) (
 .leaf (0,[],0,[],0,0,[],0,[],0,0,[],false,0,[],())) (
 .br ((a2.1.length:Int) != 32) (
 .leaf (0,[],0,[],0,0,[],0,[],0,0,[],false,0,[],())) (
 .ob (Bg a1) fun r3=>
 .ob (Pv (0,()) a2) fun r4=>
 .leaf (a0.1,r3.1,r4.1,r4.2.1,r4.2.2.1,r4.2.2.2.1,r4.2.2.2.2.1,0,[],0,0,[],false,0,[],()))))
def Wc a0 a1 a2:=(Ad8 a0 a1 a2).val
def An8 (a0:YBs) (a1:YI) (a2:A6) (a3:As):Tree (Al):=
 letI u1:=a3.2.2;.ob (Ze a0) fun r1=>
 .br (!r1.1) (
 .leaf (0,[],[],0,[],0,[],0,0,[],0,[],0,0,[],false,0,[],0,0,[],0,0,false,())) (
 .ob (Be a1 (0,()) (1000000,())) fun r2=>
 .br (!r2.1) (
 .leaf (0,[],[],0,[],0,[],0,0,[],0,[],0,0,[],false,0,[],0,0,[],0,0,false,())) (
 .ob (Gi a2) fun r3=>
 .br (!r3.1) (
 .leaf (0,[],[],0,[],0,[],0,0,[],0,[],0,0,[],false,0,[],0,0,[],0,0,false,())) (
 .br (a3.1 != 3) (
 .leaf (0,[],[],0,[],0,[],0,0,[],0,[],0,0,[],false,0,[],0,0,[],0,0,false,())) (
 .ob (Dd a3) fun r4=>
 .br (!r4.1) (
 .leaf (0,[],[],0,[],0,[],0,0,[],0,[],0,0,[],false,0,[],0,0,[],0,0,false,())) (
 .ob (Bg (u1.1,())) fun r5=>
 .ob (Bg (u1.2.1,())) fun r6=>
 .ob (A1x a2) fun r7=>
 .ob (Aa7 a0 (u1.1,()) (u1.2.1,()) (0,())) fun r8=>
 .ob (Wc (1,()) (u1.2.1,()) r8) fun r9=>letI u2:=r9.2.2.2;letI u3:=u2.2.2.2;letI u4:=u3.2.2.2.2;
 .leaf (a3.2.1,r5.1,r6.1,r9.1,r9.2.1,r9.2.2.1,u2.1,u2.2.1,u2.2.2.1,u3.1,u3.2.1,u3.2.2.1,u3.2.2.2.1,u4.1,u4.2.1,u4.2.2.1,u4.2.2.2.1,u4.2.2.2.2.1,r7.1,r7.2.1,r7.2.2.1,u1.2.2.1,a1.1,false,()))))))
def Aeh a0 a1 a2 a3:=(An8 a0 a1 a2 a3).val
def Ad9 (a0:B8) (a1:Al):Tree (B8×YI):=
 .ob (R9 a0) fun r1=>
 .ob (Zd a0) fun r2=>
 .br (!r2.1) (
 .leaf (r1,(1,()))) (
 .ob (U3 a1) fun r3=>
 .br (!r3.1) (
 .leaf (r1,(1,()))) (
 .br a1.2.2.2.2.2.2.2.2.2.2.2.2.2.2.2.2.2.2.2.2.2.2.2.1 (
 .leaf (r1,(1,()))) (
 .ob (Nf a0 (a1.2.2.1,())) fun r4=>
 .br (decide (r4.1≥0)) (
 .leaf (r1,(3,()))) (
 .ob (Xj a0) fun r5=>
 .br (r5.1==a0.1) (
 .leaf (r1,(7,()))) (
 .br ((a0.2.1.length:Int)==12) (
 .leaf (r1,(7,()))) (
 .ob (Lv a1) fun r6=>
 .chk (decide (r1.2.1.length+[r6].length<=4294967296)) <|
 .leaf ((r1.1,r1.2.1++[r6],()),(0,()))))))))
def Wd a0 a1:=(Ad9 a0 a1).val
def A7j (a0 a1 a2:YBs):Tree (Am):=
 .ob (Bg a0) fun r1=>
 .ob (Bg a1) fun r2=>
 .ob (Bg a2) fun r3=>
 .leaf (16,0,0,[],r2.1,0,0,r3.1,r1.1,0,0,0,())
def Akf a0 a1 a2:=(A7j a0 a1 a2).val
def Af3 (a0:YI):Tree (YBs):=
 .ob (Be a0 (0,()) (4294967295,())) fun r1=>
 .br (!r1.1) (
 .leaf ([],())) (
 .ob (Fd ([],()) a0 (4,())) fun r2=>
 .leaf r2)
def W6 a0:=(Af3 a0).val
def Aul (a0:YI) (a1:YBs) (a2 a3:YI):Tree (YBs):=
 .ob (Qm a0) fun r1=>
 .br (!r1.1) (
 .leaf ([],())) (
 .ob (Ds a1) fun r2=>
 .br (!r2.1) (
 .leaf ([],())) (
 .ob (Be a2 (0,()) (4294967295,())) fun r3=>
 .br (!r3.1) (
 .leaf ([],())) (
 .ob (Be a3 (0,()) (281474976710655,())) fun r4=>
 .br (!r4.1) (
 .leaf ([],())) (
 .ob (Fd ([],()) a2 (4,())) fun r5=>
 .ob (Fd ([],()) a3 (6,())) fun r6=>
 .ob (Er ([([(u8.wrap a0.1,())],()),a1,r5,r6],())) fun r7=>
 .leaf r7))))
def Aa8 a0 a1 a2 a3:=(Aul a0 a1 a2 a3).val
def Aoa (a0 a1:YBs) (a2:YI):Tree (YBs):=
 .ob (Be a2 (0,()) (6,())) fun r1=>
 .br (!r1.1) (
 .leaf ([],())) (
 .br (decide ((a1.1.length:Int)>100)) (
 .leaf ([],())) (
 .ob (Er ([([(115,())],()),a1],())) fun r2=>
 .ob (Fd r2 a2 (4,())) fun r3=>
 .ob (Xk a0 r3) fun r4=>
 .leaf r4))
def Ao4 a0 a1 a2:=(Aoa a0 a1 a2).val
def O0:Lst (List YB×List YB×Int×List YB×Int×Unit) (Int×List YB×Unit):=fun x2=>
 letI u1:=x2.2.2;Tree.val <|
 .br (decide ((x2.2.2.2.1.length:Int)<u1.1)) (
 .ob (Ao4 (x2.1,()) (x2.2.1,()) (u1.2.2.1,())) fun r3=>
 .chk (decide (x2.2.2.2.1.length+r3.1.length<=4294967296)) <|
 .leaf (.inl (x2.1,x2.2.1,u1.1,u1.2.1++r3.1,i64.wrap (u1.2.2.1+1),()))) (
 .leaf (.inr (u1.1,u1.2.1,())))
def Aum (a0 a1:YBs) (a2:YI):Tree (YBs):=
 .ob (Be a2 (0,()) (200,())) fun r1=>
 .br (!r1.1) (
 .leaf ([],())) (
 .br (decide ((a1.1.length:Int)>100)) (
 .leaf ([],())) (
 .br (decide ((a0.1.length:Int)>1048576)) (
 .leaf ([],())) (
 .ob (Ax O0 (a0.1,a1.1,a2.1,[],0,())) fun o4=>
 .chk (decide (0<=o4.1)) <|
 .chk (decide (o4.1<=(o4.2.1.length:Int))) <|
 .ob (Bg ((o4.2.1.take (o4.1).toNat).drop (0:Int).toNat,())) fun r5=>
 .leaf r5)))
def Av1 a0 a1 a2:=(Aum a0 a1 a2).val
def Za:Lst (List YB×List YB×List YB×Int×Int×Unit) (YBs):=fun x2=>
 letI u1:=x2.2.2.2;Tree.val <|
 .br (decide (u1.2.1<u1.1)) (
 .ob (idx x2.2.2.1 u1.2.1) fun e3=>
 .ob (idx x2.1 u1.2.1) fun e4=>
 .chk (decide (x2.2.1.length+[(u8.wrap ((BitVec.ofInt u8.bits e3.1 ^^^ BitVec.ofInt u8.bits e4.1).toNat:Nat),())].length<=4294967296)) <|
 .leaf (.inl (x2.1,x2.2.1++[(u8.wrap ((BitVec.ofInt u8.bits e3.1 ^^^ BitVec.ofInt u8.bits e4.1).toNat:Nat),())],x2.2.2.1,u1.1,i64.wrap (u1.2.1+1),()))) (
 .leaf (.inr (x2.2.1,())))
def Bdn (a0 a1 a2:YBs):Tree (YBs):=
 .br (decide ((a2.1.length:Int)>200)) (
 .leaf ([],())) (
 .br (decide ((a1.1.length:Int)>100)) (
 .leaf ([],())) (
 .br (decide ((a0.1.length:Int)>1048576)) (
 .leaf ([],())) (
 .ob (Av1 a0 a1 ((a2.1.length:Int),())) fun r1=>
 .ob (Ax Za (a2.1,[],r1.1,(r1.1.length:Int),0,())) fun o5=>
 .leaf o5)))
def A3j a0 a1 a2:=(Bdn a0 a1 a2).val
def Ajj (a0:YI) (a1:As):Tree (YBs):=
 letI u1:=a1.2.2.2.2.2.2.2;.ob (Qm a0) fun r1=>
 .br (!r1.1) (
 .leaf ([],())) (
 .ob (Ng (a1.1,())) fun r2=>
 .br (!r2.1) (
 .leaf ([],())) (
 .ob (Dd a1) fun r3=>
 .br (!r3.1) (
 .leaf ([],())) (
 .ob (Aa8 a0 (a1.2.2.2.1,()) (u1.1,()) (u1.2.1,())) fun r4=>
 .ob (Er ([([(116,())],()),r4,([(u8.wrap a1.1,())],()),(u1.2.2.1,())],())) fun r5=>
 .leaf r5)))
def Lx a0 a1:=(Ajj a0 a1).val
def A7k (a0:YBs) (a1:YI) (a2:YBs) (a3 a4 a5:YI) (a6:YBs):Tree (As×(Bool×Unit)):=
 .ob (Bg a2) fun r1=>
 .ob (Bg a6) fun r2=>
 .br ((a0.1.length:Int) != 32) (
 .leaf ((0,0,[],[],0,[],[],0,0,[],[],()),(false,()))) (
 .ob (Qm a1) fun r3=>
 .br (!r3.1) (
 .leaf ((0,0,[],[],0,[],[],0,0,[],[],()),(false,()))) (
 .ob (Ng a5) fun r4=>
 .br (!r4.1) (
 .leaf ((0,0,[],[],0,[],[],0,0,[],[],()),(false,()))) (
 .ob (Dd (a5.1,0,[],r1.1,0,[],[],a3.1,a4.1,r2.1,List.replicate (16:Int).toNat (0,()),())) fun r5=>
 .br (!r5.1) (
 .leaf ((0,0,[],[],0,[],[],0,0,[],[],()),(false,()))) (
 .ob (Aa8 a1 a2 a3 a4) fun r6=>
 .ob (A3j a0 r6 a6) fun r7=>
 .ob (Lx a1 (a5.1,0,[],r1.1,0,[],[],a3.1,a4.1,r7.1,List.replicate (16:Int).toNat (0,()),())) fun r8=>
 .ob (Ahr a0 r8) fun r9=>
 .leaf ((a5.1,0,[],r1.1,0,[],[],a3.1,a4.1,r7.1,r9.1,()),(true,()))))))
def Akg a0 a1 a2 a3 a4 a5 a6:=(A7k a0 a1 a2 a3 a4 a5 a6).val
def Aun (a0:YEp) (a1:YI) (a2:YBs) (a3:YI) (a4:YBs):Tree (YEp×As×YI):=
 letI u1:=a0.2.2;letI k2:=Akg (a0.2.1,()) a1 a2 (a0.1,()) (u1.1,()) a3 a4;letI k3:=u1.1==(281474976710656:Int);.ob (U2 a0) fun r1=>letI u2:=r1.2.2;letI k1:=(r1.1,r1.2.1,i64.wrap (u2.1+(1:Int)),u2.2.1,u2.2.2.1,());
 .ob (Acs a0) fun r2=>
 .br (!r2.1) (
 .leaf (r1,(0,0,[],[],0,[],[],0,0,[],[],()),(1,()))) (
 .ob (Akg (a0.2.1,()) a1 a2 (a0.1,()) (0,()) a3 a4) fun r3=>
 .br (!r3.2.1) (
 .leaf (r1,(0,0,[],[],0,[],[],0,0,[],[],()),(1,()))) (
 .br (a3.1==4) (
 .br (decide (u1.1≥281474976709656)) (
 .leaf (r1,(0,0,[],[],0,[],[],0,0,[],[],()),(4,()))) (
 .br k3 (
 .leaf (r1,(0,0,[],[],0,[],[],0,0,[],[],()),(5,()))) (
 .ob k2 fun r4=>
 .leaf (k1,r4.1,(0,()))))) (
 .br k3 (
 .leaf (r1,(0,0,[],[],0,[],[],0,0,[],[],()),(5,()))) (
 .ob k2 fun r5=>
 .leaf (k1,r5.1,(0,()))))))
def Av2 a0 a1 a2 a3 a4:=(Aun a0 a1 a2 a3 a4).val
def Ajl (a0:Aq) (a1:YI) (a2:YBs):Tree (Aq×As×YI):=
 letI u1:=a0.2.2.2;.ob (H9 a0) fun r1=>letI u2:=r1.2.2.2.2.2.2.2;letI u3:=u2.2.2.2;
 .ob (Km a0) fun r2=>
 .br (!r2.1) (
 .leaf (r1,(0,0,[],[],0,[],[],0,0,[],[],()),(1,()))) (
 .ob (Av2 (a0.2.2.1,u1.1,u1.2.1,u1.2.2.1,u1.2.2.2.1,()) (a0.1,()) (a0.2.1,()) a1 a2) fun r3=>
 .leaf ((r1.1,r1.2.1,r3.1.1,r3.1.2.1,r3.1.2.2.1,r3.1.2.2.2.1,r3.1.2.2.2.2.1,u2.1,u2.2.1,u2.2.2.1,u3.1,u3.2.1,u3.2.2.1,u3.2.2.2.1,u3.2.2.2.2.1,()),r3.2.1,r3.2.2))
def Cj a0 a1 a2:=(Ajl a0 a1 a2).val
def Bdp (a0:Aq):Tree (Aq×As×YI):=
 .ob (Km a0) fun r1=>
 .br (!r1.1) (
 .ob (H9 a0) fun r2=>
 .leaf (r2,(0,0,[],[],0,[],[],0,0,[],[],()),(6,()))) (
 .br (a0.1 != 1) (
 .ob (H9 a0) fun r3=>
 .leaf (r3,(0,0,[],[],0,[],[],0,0,[],[],()),(6,()))) (
 .ob (W6 (a0.2.2.1,())) fun r4=>
 .ob (Cj a0 (8,()) r4) fun r5=>
 .leaf (r5.1,r5.2.1,r5.2.2)))
def Ahs a0:=(Bdp a0).val
def Auo (a0:Aq) (a1:As):Tree (Am):=
 .ob (Lx (a0.1,()) a1) fun r1=>
 .ob (Avz (a0.2.2.2.1,()) r1) fun r2=>
 .leaf r2
def Ia a0 a1:=(Auo a0 a1).val
def Aea (a0:Al):Tree (Al×(List Au×Unit)×(List Am×Unit)):=
 letI u1:=a0.2.2.2;letI u2:=u1.2.2;letI u3:=u2.2.2.2;letI u4:=u3.2.2.2;letI u5:=u4.2.2.2;letI u6:=u5.2.2.2;.ob (Lv a0) fun r1=>letI u7:=r1.2.2.2.2.2.2.2.2.2.2.2.2.2.2.2.2.2.2;
 .ob (U3 a0) fun r2=>
 .br (!r2.1) (
 .leaf (r1,([],()),([],()))) (
 .br u6.2.2.2.2.2.2.1 (
 .leaf (r1,([],()),([],()))) (
 .br (u2.1 != 0) (
 .leaf (r1,([],()),([],()))) (
 .ob (Ahs (u1.1,u1.2.1,u2.1,u2.2.1,u2.2.2.1,u3.1,u3.2.1,u3.2.2.1,u4.1,u4.2.1,u4.2.2.1,u5.1,u5.2.1,u5.2.2.1,u6.1,())) fun r3=>letI u8:=r3.1.2.2.2;letI u9:=u8.2.2.2;letI u10:=u9.2.2.2.2;
 .br (r3.2.2.1 != 0) (
 .leaf (r1,([],()),([],()))) (
 .ob (Ia r3.1 r3.2.1) fun r4=>
 .leaf ((r1.1,r1.2.1,r1.2.2.1,r3.1.1,r3.1.2.1,r3.1.2.2.1,u8.1,u8.2.1,u8.2.2.1,u9.1,u9.2.1,u9.2.2.1,u9.2.2.2.1,u10.1,u10.2.1,u10.2.2.1,u10.2.2.2.1,u10.2.2.2.2.1,u7.1,u7.2.1,u7.2.2.1,u7.2.2.2.1,u7.2.2.2.2.1,u7.2.2.2.2.2.1,()),([(u6.2.1,u6.2.2.1,r3.2.1.1,r3.2.1.2.1,r3.2.1.2.2.1,r3.2.1.2.2.2.1,r3.2.1.2.2.2.2.1,r3.2.1.2.2.2.2.2.1,r3.2.1.2.2.2.2.2.2.1,r3.2.1.2.2.2.2.2.2.2.1,r3.2.1.2.2.2.2.2.2.2.2.1,r3.2.1.2.2.2.2.2.2.2.2.2.1,r3.2.1.2.2.2.2.2.2.2.2.2.2.1,())],()),([r4],()))))))
def Ky a0:=(Aea a0).val
def Aod (a0:B8) (a1:YI) (a2:Al):Tree (B8×(Bool×Unit)):=
 .ob (R9 a0) fun r1=>
 .ob (Zd a0) fun r2=>
 .br (!r2.1) (
 .leaf (r1,(false,()))) (
 .br (decide (a1.1<0)) (
 .leaf (r1,(false,()))) (
 .br (decide (a1.1≥(a0.2.1.length:Int))) (
 .leaf (r1,(false,()))) (
 .ob (Lv a2) fun r3=>
 .ob (idx r1.2.1 a1.1) fun e4=>
 let q5:=(r1.2.1.set (a1.1).toNat r3)
 .ob (Zd (r1.1,q5,())) fun r6=>
 .br (!r6.1) (
 .ob (R9 a0) fun r7=>
 .leaf (r7,(false,()))) (
 .leaf ((r1.1,q5,()),(true,()))))))
def G5 a0 a1 a2:=(Aod a0 a1 a2).val
def Us (a0:A0) (a1:YI) (a2:A6) (a3:As):Tree (A0×(List Au×Unit)×(List Am×Unit)):=
 letI u1:=a0.2.2;letI u2:=u1.2.2;letI u3:=u2.2.2;letI u4:=a3.2.2;letI k4:=(u2.1,u2.2.1,());letI k5:=idx a0.1 (i64.wrap (a3.2.1-(1:Int)));.ob (Ae3 (a0.2.1,()) a1 a2 a3) fun r1=>
 .br (r1.1 != 0) (
 .leaf (a0,([],()),([],()))) (
 .br (decide (a3.2.1>(a0.1.length:Int))) (
 .leaf (a0,([],()),([],()))) (
 .ob k5 fun e2=>
 .ob (Wb e2 a3) fun r3=>
 .br (!r3.1) (
 .leaf (a0,([],()),([],()))) (
 .ob (Nf k4 (u4.2.1,())) fun r4=>
 .br (decide (r4.1<0)) (
 .ob k5 fun e5=>
 .ob (Aeh e5 a1 a2 a3) fun r6=>
 .ob (Wd k4 r6) fun r7=>letI k3:=(a0.1,a0.2.1,u1.1,u1.2.1,r7.1.1,r7.1.2.1,u3.1,());
 .br (r7.2.1 != 0) (
 .leaf (a0,([],()),([],()))) (
 .ob (Tn a2 (a3.2.1,()) (u4.1,()) (u4.2.1,()) (u4.2.2.1,())) fun r8=>
 .ob (Akf (a0.2.1,()) (u4.2.1,()) r8) fun r9=>
 .ob (W4 e5) fun r10=>
 .ob (W5 (a3.2.1,()) (u4.1,()) (u4.2.1,()) (u4.2.2.1,()) (u4.2.2.2.1,())) fun r11=>
 .ob (Akf r10 (u4.2.1,()) r11) fun r12=>
 .ob (Bg (u4.1,())) fun r13=>
 .ob (Bg (u4.2.1,())) fun r14=>
 .ob (Bg (r6.2.2.2.2.2.2.1,())) fun r15=>letI k1:=((4:Int),a3.2.1,(0:Int),r13.1,r14.1,(0:Int),(0:Int),([]:List YB),r15.1,a2.1,a2.2.1,a1.1,());letI k2:=([]:List Am)++[r9,r12,k1];
 .chk (decide (([]:List Am).length+[r9,r12,k1].length<=4294967296)) <|
 .ob (Nf r7.1 (u4.2.1,())) fun r16=>
 .ob (idx r7.1.2.1 r16.1) fun e17=>
 .br e17.2.2.2.2.2.2.2.2.2.2.2.2.2.2.2.2.2.2.2.2.2.2.2.1 (
 .leaf (k3,([],()),(k2,()))) (
 .br (e17.1 != a3.2.1) (
 .leaf (k3,([],()),(k2,()))) (
 .ob (Ca (e17.2.1,()) (u4.1,())) fun r18=>
 .br (!r18.1) (
 .leaf (k3,([],()),(k2,()))) (
 .ob (Ky e17) fun r19=>
 .ob (G5 r7.1 r16 r19.1) fun r20=>
 .chk (decide (k2.length+r19.2.2.1.length<=4294967296)) <|
 .leaf ((a0.1,a0.2.1,u1.1,u1.2.1,r20.1.1,r20.1.2.1,u3.1,()),r19.2.1,(k2++r19.2.2.1,()))))))) (
 .ob (Nf k4 (u4.2.1,())) fun r21=>
 .ob (idx u2.2.1 r21.1) fun e22=>
 .br e22.2.2.2.2.2.2.2.2.2.2.2.2.2.2.2.2.2.2.2.2.2.2.2.1 (
 .leaf (a0,([],()),([],()))) (
 .br (e22.1 != a3.2.1) (
 .leaf (a0,([],()),([],()))) (
 .ob (Ca (e22.2.1,()) (u4.1,())) fun r23=>
 .br (!r23.1) (
 .leaf (a0,([],()),([],()))) (
 .ob (Ky e22) fun r24=>
 .ob (G5 k4 r21 r24.1) fun r25=>
 .chk (decide (([]:List Am).length+r24.2.2.1.length<=4294967296)) <|
 .leaf ((a0.1,a0.2.1,u1.1,u1.2.1,r25.1.1,r25.1.2.1,u3.1,()),r24.2.1,(([]:List Am)++r24.2.2.1,())))))))))
def Pf a0 a1 a2 a3:=(Us a0 a1 a2 a3).val
def Aup (a0:Cz) (a1:YI):Tree (Bool×Unit):=
 .ob (Al1 a0) fun r1=>
 .br (!r1.1) (
 .leaf (false,())) (
 .ob (Be a1 (0,()) (281474976710655,())) fun r2=>
 .br (!r2.1) (
 .leaf (false,())) (
 .br (decide (a1.1>a0.1)) (
 .leaf (true,())) (
 .br (decide (a1.1≥i64.wrap (i64.wrap (a0.1-1024)+1))) (
 .ob (Aa6 a0 a1) fun r3=>
 .leaf (!r3.1,())) (
 .leaf (false,())))))
def Av3 a0 a1:=(Aup a0 a1).val
def O6:Lst (Int×Int×Int×List YI×Int×List YI×Int×List YI×Unit) (Int×Int×List YI×Int×List YI×Int×List YI×Unit):=fun x3=>
 letI u1:=x3.2.2;letI u2:=u1.2.2;letI u3:=u2.2.2;letI k1:=(x3.2.1%(1024:Int))/(32:Int);letI k2:=decide ((0:Int)<=x3.2.1);Tree.val <|
 .br (decide (x3.2.1<x3.1)) (
 .chk k2 <|
 .chk (decide (0<=(x3.2.1%1024))) <|
 .ob (idx u3.2.1 k1) fun e4=>
 .chk k2 <|
 .chk (decide (0<=(x3.2.1%32))) <|
 .ob (idx u3.2.1 k1) fun e5=>
 let q6:=(x3.2.2.2.2.2.2.2.1.set (k1).toNat (i64.wrap ((BitVec.ofInt i64.bits e4.1 &&& ~~~ BitVec.ofInt i64.bits (i64.wrap ((1:Int)*2^(min (x3.2.1%32).toNat i64.bits)))).toNat:Nat),()))
 .leaf (.inl (x3.1,i64.wrap (x3.2.1+1),u1.1,u1.2.1,u2.1,u2.2.1,u3.1,q6,()))) (
 .leaf (.inr (x3.1,u1.1,u1.2.1,u2.1,u2.2.1,u3.1,u3.2.1,())))
def Auq (a0:Cz) (a1:YI):Tree (Cz×(Bool×Unit)):=
 letI k2:=i64.wrap (i64.wrap (a1.1-(1024:Int))+(1:Int));letI k3:=i64.wrap (a0.1+(1:Int)); .ob (Aef a0) fun r1=>
 .ob (Av3 a0 a1) fun r2=>
 .br (!r2.1) (
 .leaf (r1,(false,()))) (
 .ob (Ax O6 (a1.1,if k3<k2 then k2 else k3,a0.1,a0.2.1,0,[],r1.1,r1.2.1,())) fun o7=>letI k1:=(o7.1%(1024:Int))/(32:Int);letI k4:=idx o7.2.2.2.2.2.2.1 k1;letI k5:=decide ((0:Int)<=o7.1);
 .chk k5 <|
 .chk (decide (0<=(o7.1%1024))) <|
 .ob k4 fun e8=>
 .chk k5 <|
 .chk (decide (0<=(o7.1%32))) <|
 .ob k4 fun e9=>
 let q10:=(o7.2.2.2.2.2.2.1.set (k1).toNat (i64.wrap ((BitVec.ofInt i64.bits e8.1 ||| BitVec.ofInt i64.bits (i64.wrap ((1:Int)*2^(min (o7.1%32).toNat i64.bits)))).toNat:Nat),()))
 .leaf ((if o7.2.1<o7.1 then o7.1 else o7.2.1,q10,()),(true,())))
def Av4 a0 a1:=(Auq a0 a1).val
def Aur (a0:YBs) (a1:YI) (a2:As):Tree (YBs×(Bool×Unit)):=
 letI u1:=a2.2.2.2.2.2.2.2;.ob (Lx a1 a2) fun r1=>
 .br ((a0.1.length:Int) != 32) (
 .leaf (([],()),(false,()))) (
 .br ((r1.1.length:Int)==0) (
 .leaf (([],()),(false,()))) (
 .ob (Ahr a0 r1) fun r2=>
 .ob (Sa (u1.2.2.2.1,()) r2) fun r3=>
 .br (!r3.1) (
 .leaf (([],()),(false,()))) (
 .ob (Aa8 a1 (a2.2.2.2.1,()) (u1.1,()) (u1.2.1,())) fun r4=>
 .ob (A3j a0 r4 (u1.2.2.1,())) fun r5=>
 .leaf (r5,(true,())))))
def Av5 a0 a1 a2:=(Aur a0 a1 a2).val
def Aus (a0:YEp) (a1:YI) (a2:As):Tree (YEp×YBs×YI):=
 letI u1:=a2.2.2.2.2.2.2.2;.ob (U2 a0) fun r1=>
 .ob (Acs a0) fun r2=>
 .br (!r2.1) (
 .leaf (r1,([],()),(1,()))) (
 .ob (Lx a1 a2) fun r3=>
 .br ((r3.1.length:Int)==0) (
 .leaf (r1,([],()),(1,()))) (
 .br (u1.1 != a0.1) (
 .leaf (r1,([],()),(1,()))) (
 .ob (Av4 (a0.2.2.2.1,a0.2.2.2.2.1,()) (u1.2.1,())) fun r4=>
 .br (!r4.2.1) (
 .leaf (r1,([],()),(3,()))) (
 .ob (Av5 (a0.2.1,()) a1 a2) fun r5=>
 .br (!r5.2.1) (
 .leaf (r1,([],()),(2,()))) (
 .leaf ((r1.1,r1.2.1,r1.2.2.1,r4.1.1,r4.1.2.1,()),r5.1,(0,())))))))
def I6 a0 a1 a2:=(Aus a0 a1 a2).val
def Acv (a0 r1:Aq) (r8:YEp×YBs×YI) (a1:YI):Tree (Aq×YBs×YI):=
 letI u1:=r1.2.2.2.2.2.2.2;letI u2:=u1.2.2;letI u3:=u2.2.2;letI u4:=r8.1.2.2;.br (a0.2.2.2.2.2.2.2.2.2.2.2.2.2.1==(-1:Int)) (
 .leaf ((r1.1,r1.2.1,r8.1.1,r8.1.2.1,u4.1,u4.2.1,u4.2.2.1,u1.1,u1.2.1,u2.1,u2.2.1,u3.1,u3.2.1,i64.wrap (a1.1+5),u3.2.2.2.1,()),r8.2.1,(0,()))) (
 .leaf ((r1.1,r1.2.1,r8.1.1,r8.1.2.1,u4.1,u4.2.1,u4.2.2.1,u1.1,u1.2.1,u2.1,u2.2.1,u3.1,u3.2.1,u3.2.2.1,u3.2.2.2.1,()),r8.2.1,(0,())))
def Pg (a0 r1:Aq) (r8:YEp×YBs×YI) (a1:YI):Tree (Aq×YBs×YI):=
 letI u1:=r1.2.2.2.2.2.2.2;letI u2:=u1.2.2.2;.br a0.2.2.2.2.2.2.2.2.2.2.2.2.1 (
 Acv a0 r1 r8 a1) (
 .leaf ((r1.1,r1.2.1,r8.1.1,r8.1.2.1,r8.1.2.2.1,r8.1.2.2.2.1,r8.1.2.2.2.2.1,u1.1,u1.2.1,u1.2.2.1,u2.1,u2.2.1,u2.2.2.1,u2.2.2.2.1,u2.2.2.2.2.1,()),r8.2.1,(0,())))
def Acw (a2:As) (a0 r1:Aq) (r8:YEp×YBs×YI) (a1:YI):Tree (Aq×YBs×YI):=
 letI u1:=r1.2.2;letI u2:=u1.2.2;letI u3:=u2.2.2.2.2.2.2.2.2;letI u4:=r8.1.2.2;.br (a2.2.2.2.2.2.2.2.1==a0.2.2.2.2.2.2.2.1) (
 .leaf ((r1.1,r1.2.1,u1.1,u1.2.1,u2.1,u2.2.1,u2.2.2.1,r8.1.1,r8.1.2.1,u4.1,u4.2.1,u4.2.2.1,u3.1,u3.2.1,u3.2.2.1,()),r8.2.1,(0,()))) (
 .leaf ((r1.1,r1.2.1,r8.1.1,r8.1.2.1,u4.1,u4.2.1,u4.2.2.1,u1.1,u1.2.1,u2.1,u2.2.1,u2.2.2.1,true,i64.wrap (a1.1+5),[],()),r8.2.1,(0,())))
def Ld (a2:As) (a0 r1:Aq) (r8:YEp×YBs×YI) (a1:YI):Tree (Aq×YBs×YI):=
 .br (a2.2.2.2.2.2.2.2.1==a0.2.2.1) (
 Pg a0 r1 r8 a1) (
 Acw a2 a0 r1 r8 a1)
def U4 (r8:YEp×YBs×YI) (r1:Aq) (a2:As) (a0:Aq) (a1:YI):Tree (Aq×YBs×YI):=
 .br (r8.2.2.1 != 0) (
 .leaf (r1,([],()),r8.2.2)) (
 Ld a2 a0 r1 r8 a1)
def Ara (r7:YEp) (a0:Aq) (a2:As) (r1:Aq) (a1:YI):Tree (Aq×YBs×YI):=
 .ob (I6 r7 (i64.wrap (1-a0.1),()) a2) fun r8=>
 U4 r8 r1 a2 a0 a1
def Acx (a0:Aq) (a2:As) (r1:Aq) (a1:YI):Tree (Aq×YBs×YI):=
 .ob (Pv (i64.wrap (a0.2.2.1+1),()) (a0.2.2.2.2.2.2.2.2.2.2.2.2.2.2.1,())) fun r7=>
 Ara r7 a0 a2 r1 a1
def U5 (a0:Aq) (a2:As) (r1:Aq) (a1:YI):Tree (Aq×YBs×YI):=
 letI u1:=a0.2.2.2.2.2.2.2;.ob (I6 (u1.1,u1.2.1,u1.2.2.1,u1.2.2.2.1,u1.2.2.2.2.1,()) (i64.wrap (1-a0.1),()) a2) fun r9=>
 U4 r9 r1 a2 a0 a1
def Arb (a2:As) (a0 r1:Aq) (a1:YI):Tree (Aq×YBs×YI):=
 .br (a2.2.2.2.2.2.2.2.1==i64.wrap (a0.2.2.1+1)) (
 Acx a0 a2 r1 a1) (
 U5 a0 a2 r1 a1)
def Sm (a0:Aq) (a2:As) (r1:Aq) (a1:YI):Tree (Aq×YBs×YI):=
 letI u1:=a0.2.2.2;.ob (I6 (a0.2.2.1,u1.1,u1.2.1,u1.2.2.1,u1.2.2.2.1,()) (i64.wrap (1-a0.1),()) a2) fun r12=>
 U4 r12 r1 a2 a0 a1
def Aa9 (a2:As) (a0 r1:Aq) (a1:YI):Tree (Aq×YBs×YI):=
 .br (a2.2.2.2.2.2.2.2.1==i64.wrap (a0.2.2.1+1)) (
 Acx a0 a2 r1 a1) (
 Sm a0 a2 r1 a1)
def J1 (a2:As) (a0 r1:Aq) (a1:YI):Tree (Aq×YBs×YI):=
 .br (a2.2.2.2.2.2.2.2.1==a0.2.2.2.2.2.2.2.1) (
 Arb a2 a0 r1 a1) (
 Aa9 a2 a0 r1 a1)
def Al3 (a1:YI) (a0 r1:Aq) (a2:As):Tree (Aq×YBs×YI):=
 .br (decide (a1.1>a0.2.2.2.2.2.2.2.2.2.2.2.2.2.1)) (
 .leaf (r1,([],()),(9,()))) (
 J1 a2 a0 r1 a1)
def Al4 (a0:Aq) (a1:YI) (r1:Aq) (a2:As):Tree (Aq×YBs×YI):=
 .br (a0.2.2.2.2.2.2.2.2.2.2.2.2.2.1 != (-1:Int)) (
 Al3 a1 a0 r1 a2) (
 J1 a2 a0 r1 a1)
def J2 (a2:As) (a0:Aq) (a1:YI) (r1:Aq):Tree (Aq×YBs×YI):=
 .br (a2.2.2.2.2.2.2.2.1==a0.2.2.2.2.2.2.2.1) (
 Al4 a0 a1 r1 a2) (
 J1 a2 a0 r1 a1)
def Ni (a2:As) (a0 r1:Aq) (a1:YI):Tree (Aq×YBs×YI):=
 .br (a2.2.2.2.2.2.2.2.1==a0.2.2.2.2.2.2.2.1) (
 U5 a0 a2 r1 a1) (
 Sm a0 a2 r1 a1)
def Al5 (a1:YI) (a0 r1:Aq) (a2:As):Tree (Aq×YBs×YI):=
 .br (decide (a1.1>a0.2.2.2.2.2.2.2.2.2.2.2.2.2.1)) (
 .leaf (r1,([],()),(9,()))) (
 Ni a2 a0 r1 a1)
def Al6 (a0:Aq) (a1:YI) (r1:Aq) (a2:As):Tree (Aq×YBs×YI):=
 .br (a0.2.2.2.2.2.2.2.2.2.2.2.2.2.1 != (-1:Int)) (
 Al5 a1 a0 r1 a2) (
 Ni a2 a0 r1 a1)
def So (a2:As) (a0:Aq) (a1:YI) (r1:Aq):Tree (Aq×YBs×YI):=
 .br (a2.2.2.2.2.2.2.2.1==a0.2.2.2.2.2.2.2.1) (
 Al6 a0 a1 r1 a2) (
 Ni a2 a0 r1 a1)
def Sp (a2:As) (a0 r1:Aq) (r76:YEp×YBs×YI) (a1:YI):Tree (Aq×YBs×YI):=
 letI u1:=r1.2.2.2;.br (a2.2.2.2.2.2.2.2.1==a0.2.2.1) (
 Pg a0 r1 r76 a1) (
 .leaf ((r1.1,r1.2.1,r76.1.1,r76.1.2.1,r76.1.2.2.1,r76.1.2.2.2.1,r76.1.2.2.2.2.1,r1.2.2.1,u1.1,u1.2.1,u1.2.2.1,u1.2.2.2.1,true,i64.wrap (a1.1+5),[],()),r76.2.1,(0,())))
def Aba (r76:YEp×YBs×YI) (r1:Aq) (a2:As) (a0:Aq) (a1:YI):Tree (Aq×YBs×YI):=
 .br (r76.2.2.1 != 0) (
 .leaf (r1,([],()),r76.2.2)) (
 Sp a2 a0 r1 r76 a1)
def Al7 (r75:YEp) (a0:Aq) (a2:As) (r1:Aq) (a1:YI):Tree (Aq×YBs×YI):=
 .ob (I6 r75 (i64.wrap (1-a0.1),()) a2) fun r76=>
 Aba r76 r1 a2 a0 a1
def Al8 (a0:Aq) (a2:As) (r1:Aq) (a1:YI):Tree (Aq×YBs×YI):=
 .ob (Pv (i64.wrap (a0.2.2.1+1),()) (a0.2.2.2.2.2.2.2.2.2.2.2.2.2.2.1,())) fun r75=>
 Al7 r75 a0 a2 r1 a1
def Sq (a0:Aq) (a2:As) (r1:Aq) (a1:YI):Tree (Aq×YBs×YI):=
 letI u1:=a0.2.2.2;.ob (I6 (a0.2.2.1,u1.1,u1.2.1,u1.2.2.1,u1.2.2.2.1,()) (i64.wrap (1-a0.1),()) a2) fun r77=>
 Aba r77 r1 a2 a0 a1
def Sr (a2:As) (a0 r1:Aq) (a1:YI):Tree (Aq×YBs×YI):=
 .br (a2.2.2.2.2.2.2.2.1==i64.wrap (a0.2.2.1+1)) (
 Al8 a0 a2 r1 a1) (
 Sq a0 a2 r1 a1)
def Ajm (a0:Aq) (a1:YI) (a2:As):Tree (Aq×YBs×YI):=
 letI u1:=a0.2.2;letI u2:=u1.2.2.2.2.2;letI u3:=a2.2.2.2;letI u4:=u3.2.2.2.2;letI k1:=Xl (u3.1,()) (a0.2.1,());letI k2:=decide ((a0.2.2.2.2.2.2.2.2.2.2.2.2.2.2.1.length:Int)>(0:Int));letI k3:=!(u4.1==u1.1);letI k4:=!(u4.1==i64.wrap (u1.1+(1:Int)));.ob (H9 a0) fun r1=>
 .ob (Km a0) fun r2=>
 .br (!r2.1) (
 .leaf (r1,([],()),(1,()))) (
 .ob (Be a1 (0,()) (1000000,())) fun r3=>
 .br (!r3.1) (
 .leaf (r1,([],()),(1,()))) (
 .ob (Ng (a2.1,())) fun r4=>
 .br (!r4.1) (
 .leaf (r1,([],()),(1,()))) (
 .ob (Dd a2) fun r5=>
 .br (!r5.1) (
 .leaf (r1,([],()),(1,()))) (
 .br u2.2.2.2.2.2.1 (
 .br k2 (
 .ob k1 fun r6=>
 .br (r6.1 != 0) (
 .leaf (r1,([],()),(8,()))) (
 .br k3 (
 .br (!(u4.1==u2.1)) (
 .br k4 (
 .leaf (r1,([],()),(8,()))) (
 J2 a2 a0 a1 r1)) (
 J2 a2 a0 a1 r1)) (
 J2 a2 a0 a1 r1))) (
 .ob k1 fun r61=>
 .br (r61.1 != 0) (
 .leaf (r1,([],()),(8,()))) (
 .br k3 (
 .br (!(u4.1==u2.1)) (
 .leaf (r1,([],()),(8,()))) (
 So a2 a0 a1 r1)) (
 So a2 a0 a1 r1)))) (
 .br k2 (
 .ob k1 fun r74=>
 .br (r74.1 != 0) (
 .leaf (r1,([],()),(8,()))) (
 .br k3 (
 .br k4 (
 .leaf (r1,([],()),(8,()))) (
 Sr a2 a0 r1 a1)) (
 Sr a2 a0 r1 a1))) (
 .ob k1 fun r81=>
 .br (r81.1 != 0) (
 .leaf (r1,([],()),(8,()))) (
 .br k3 (
 .leaf (r1,([],()),(8,()))) (
 Sq a0 a2 r1 a1))))))))
def Ph a0 a1 a2:=(Ajm a0 a1 a2).val
def Aut (a0:Aq) (a1:YI):Tree (YBs×(Bool×Unit)):=
 letI u1:=a0.2.2;letI u2:=u1.2.2.2.2.2;letI u3:=u2.2.2.2.2.2;letI k1:=decide ((a0.2.2.2.2.2.2.2.2.2.2.2.2.2.2.1.length:Int)>(0:Int));letI k2:=a1.1==(i64.wrap (u1.1+(1:Int)));.ob (Km a0) fun r1=>
 .br (!r1.1) (
 .leaf (([],()),(false,()))) (
 .br u3.1 (
 .br (a1.1==u2.1) (
 .ob (Bg (u2.2.1,())) fun r2=>
 .leaf (r2,(true,()))) (
 .br (a1.1==u1.1) (
 .ob (Bg (u1.2.1,())) fun r3=>
 .leaf (r3,(true,()))) (
 .br k1 (
 .br k2 (
 .ob (Bg (u3.2.2.1,())) fun r4=>
 .leaf (r4,(true,()))) (
 .leaf (([],()),(false,())))) (
 .leaf (([],()),(false,())))))) (
 .br (a1.1==u1.1) (
 .ob (Bg (u1.2.1,())) fun r5=>
 .leaf (r5,(true,()))) (
 .br k1 (
 .br k2 (
 .ob (Bg (u3.2.2.1,())) fun r6=>
 .leaf (r6,(true,()))) (
 .leaf (([],()),(false,())))) (
 .leaf (([],()),(false,()))))))
def Abb a0 a1:=(Aut a0 a1).val
def Tf:Lst (List Av×Int×Int×Int×Int×Unit) (YI⊕(Unit)):=fun x1=>
 letI u1:=x1.2.2;Tree.val <|
 .br (decide (u1.1<x1.2.1)) (
 .ob (idx x1.1 u1.1) fun e2=>
 .br (and (e2.1==u1.2.1) (and (e2.2.1==u1.2.2.1) true)) (
 .leaf (.inr (.inl (u1.1,())))) (
 .leaf (.inl (x1.1,x1.2.1,i64.wrap (u1.1+1),u1.2.1,u1.2.2.1,())))) (
 .leaf (.inr (.inr ())))
def Auv (a0:Bd) (a1:A6):Tree (YI):=
 .ob (Ax Tf (a0.2.2.1,(a0.2.2.1.length:Int),0,a1.1,a1.2.1,())) fun o3=>
 .sm o3 (fun o4=>
 .leaf o4) (fun o5=>
 .leaf (-1,()))
def Ahe a0 a1:=(Auv a0 a1).val
def Ag3 (a0:Bd) (a1:YI) (a2:A6) (a3:YBs):Tree (Bd×(Bool×Unit)):=
 .ob (Fc a0) fun r1=>letI k2:=(r1.2.2.1.length:Int);
 .ob (Ahe a0 a2) fun r2=>letI k1:=(r1.2.2.1.take (r2.1).toNat).drop (0:Int).toNat;letI k3:=i64.wrap (r2.1+(1:Int));letI k4:=(r1.2.2.1.take (k2).toNat).drop (k3).toNat;
 .ob (Wa a0) fun r3=>
 .br (!r3.1) (
 .leaf (r1,(false,()))) (
 .ob (Be a1 (0,()) (1000000,())) fun r4=>
 .br (!r4.1) (
 .leaf (r1,(false,()))) (
 .br (decide (r2.1<0)) (
 .leaf (r1,(false,()))) (
 .ob (idx a0.2.2.1 r2.1) fun e5=>
 .ob (Ca a3 (e5.2.2.1,())) fun r6=>
 .br (!r6.1) (
 .leaf (r1,(false,()))) (
 .ob (idx a0.2.2.1 r2.1) fun e7=>
 .br (decide (a1.1>e7.2.2.2.1)) (
 .leaf (r1,(false,()))) (
 .chk (decide (0<=r2.1)) <|
 .chk (decide (r2.1<=k2)) <|
 .chk (decide (0<=k3)) <|
 .chk (decide (k3<=k2)) <|
 .chk (decide (k2<=k2)) <|
 .chk (decide (k1.length+k4.length<=4294967296)) <|
 .chk (Nat.ble k1.length ((k3).toNat)) <|
 .chk (Nat.blt 0 r1.2.2.1.length) <|
 .leaf ((a2.1,a2.2.1,k1++k4,()),(true,())))))))
def Qn a0 a1 a2 a3:=(Ag3 a0 a1 a2 a3).val
def A7l (a0:Aq):Tree (Aq×(Bool×Unit)):=
 .ob (H9 a0) fun r1=>letI u1:=r1.2.2.2;
 .ob (Km a0) fun r2=>
 .br (!r2.1) (
 .leaf (r1,(false,()))) (
 .br (a0.1 != 1) (
 .leaf (r1,(false,()))) (
 .br (a0.2.2.1==4294967295) (
 .leaf (r1,(false,()))) (
 .ob (Nh (a0.2.2.2.1,()) (Hg [114,101,107,101,121],())) fun r3=>
 .ob (Pv (i64.wrap (a0.2.2.1+1),()) r3) fun r4=>
 .leaf ((r1.1,r1.2.1,r4.1,r4.2.1,r4.2.2.1,r4.2.2.2.1,r4.2.2.2.2.1,r1.2.2.1,u1.1,u1.2.1,u1.2.2.1,u1.2.2.2.1,true,-1,u1.2.2.2.2.2.2.2.2.2.2.2.1,()),(true,())))))
def A7t a0:=(A7l a0).val
def Af4 (a0:Aq) (a1:YI) (a2:YBs):Tree (Aq×YI):=
 .ob (H9 a0) fun r1=>
 .ob (Km a0) fun r2=>
 .br (!r2.1) (
 .leaf (r1,(6,()))) (
 .br (a0.1 != 1) (
 .leaf (r1,(6,()))) (
 .ob (Be a1 (0,()) (4294967294,())) fun r3=>
 .br (!r3.1) (
 .leaf (r1,(6,()))) (
 .ob (W6 (i64.wrap (a1.1+1),())) fun r4=>
 .ob (Ca a2 r4) fun r5=>
 .br (!r5.1) (
 .leaf (r1,(6,()))) (
 .br (a1.1==i64.wrap (a0.2.2.1-1)) (
 .leaf (r1,(0,()))) (
 .ob (A7t a0) fun r6=>
 .br (a1.1 != a0.2.2.1) (
 .leaf (r1,(6,()))) (
 .br (!r6.2.1) (
 .leaf (r1,(6,()))) (
 .leaf (r6.1,(0,())))))))))
def Rk a0 a1 a2:=(Af4 a0 a1 a2).val
def Wz (a0:Al) (a1:YI) (a2:YBs):Tree (Al×(List Au×Unit)×(List Am×Unit)):=
 letI u1:=a0.2.2;letI u2:=u1.2.2.2;letI u3:=u2.2.2.2;letI u4:=u3.2.2.2;letI u5:=u4.2.2.2;letI u6:=u5.2.2.2.2;letI u7:=u6.2.2;letI u8:=u7.2.2;.ob (Rk (u1.2.1,u1.2.2.1,u2.1,u2.2.1,u2.2.2.1,u3.1,u3.2.1,u3.2.2.1,u4.1,u4.2.1,u4.2.2.1,u5.1,u5.2.1,u5.2.2.1,u5.2.2.2.1,()) a1 a2) fun r1=>letI u9:=r1.1.2.2;letI u10:=u9.2.2;letI u11:=u10.2.2;letI u12:=u11.2.2;letI u13:=u12.2.2;letI u14:=u13.2.2;letI k2:=(a0.1,a0.2.1,u1.1,r1.1.1,r1.1.2.1,u9.1,u9.2.1,u10.1,u10.2.1,u11.1,u11.2.1,u12.1,u12.2.1,u13.1,u13.2.1,u14.1,u14.2.1,u14.2.2.1,u6.1,u6.2.1,u7.1,u7.2.1,u8.1,u8.2.1,());
 .br (r1.2.1 != 0) (
 .leaf (a0,([],()),([],()))) (
 .br (u9.1 != u2.1) (
 .ob (Bg (u1.1,())) fun r2=>
 .ob (Bg (u9.2.1,())) fun r3=>letI k1:=((10:Int),(0:Int),(1:Int),([]:List YB),r2.1,u9.1,(0:Int),([]:List YB),r3.1,(0:Int),(0:Int),(0:Int),());letI k3:=([]:List Am)++[k1];
 .chk (decide (([]:List Am).length+[k1].length<=4294967296)) <|
 .ob (Ahs r1.1) fun r4=>letI u15:=r4.1.2.2.2;letI u16:=u15.2.2.2;letI u17:=u16.2.2.2.2;
 .br (r4.2.2.1 != 0) (
 .leaf (k2,([],()),(k3,()))) (
 .ob (Ia r4.1 r4.2.1) fun r5=>
 .chk (decide (k3.length+[r5].length<=4294967296)) <|
 .leaf ((a0.1,a0.2.1,u1.1,r4.1.1,r4.1.2.1,r4.1.2.2.1,u15.1,u15.2.1,u15.2.2.1,u16.1,u16.2.1,u16.2.2.1,u16.2.2.2.1,u17.1,u17.2.1,u17.2.2.1,u17.2.2.2.1,u17.2.2.2.2.1,u6.1,u6.2.1,u7.1,u7.2.1,u8.1,u8.2.1,()),([(u6.1,u6.2.1,r4.2.1.1,r4.2.1.2.1,r4.2.1.2.2.1,r4.2.1.2.2.2.1,r4.2.1.2.2.2.2.1,r4.2.1.2.2.2.2.2.1,r4.2.1.2.2.2.2.2.2.1,r4.2.1.2.2.2.2.2.2.2.1,r4.2.1.2.2.2.2.2.2.2.2.1,r4.2.1.2.2.2.2.2.2.2.2.2.1,r4.2.1.2.2.2.2.2.2.2.2.2.2.1,())],()),(k3++[r5],())))) (
 .ob (Ahs r1.1) fun r6=>letI u18:=r6.1.2.2.2;letI u19:=u18.2.2.2;letI u20:=u19.2.2.2.2;
 .br (r6.2.2.1 != 0) (
 .leaf (k2,([],()),([],()))) (
 .ob (Ia r6.1 r6.2.1) fun r7=>
 .chk (decide (([]:List Am).length+[r7].length<=4294967296)) <|
 .leaf ((a0.1,a0.2.1,u1.1,r6.1.1,r6.1.2.1,r6.1.2.2.1,u18.1,u18.2.1,u18.2.2.1,u19.1,u19.2.1,u19.2.2.1,u19.2.2.2.1,u20.1,u20.2.1,u20.2.2.1,u20.2.2.2.1,u20.2.2.2.2.1,u6.1,u6.2.1,u7.1,u7.2.1,u8.1,u8.2.1,()),([(u6.1,u6.2.1,r6.2.1.1,r6.2.1.2.1,r6.2.1.2.2.1,r6.2.1.2.2.2.1,r6.2.1.2.2.2.2.1,r6.2.1.2.2.2.2.2.1,r6.2.1.2.2.2.2.2.2.1,r6.2.1.2.2.2.2.2.2.2.1,r6.2.1.2.2.2.2.2.2.2.2.1,r6.2.1.2.2.2.2.2.2.2.2.2.1,r6.2.1.2.2.2.2.2.2.2.2.2.2.1,())],()),(([]:List Am)++[r7],())))))
def W7 a0 a1 a2:=(Wz a0 a1 a2).val
def Fm:Lst (Int×List Av×Int×Int×Int×Int×List Av×Int×Int×List Av×Unit) (Int×Int×List Av×Int×Int×List Av×Unit):=fun x2=>
 letI u1:=x2.2.2.2;letI u2:=u1.2.2;letI u3:=u2.2.2;letI k1:=i64.wrap (u1.1+(1:Int));letI k2:=Nat.ble (Int.toNat u1.1+1) (Int.toNat k1);Tree.val <|
 .br (decide (u1.1<x2.2.2.1)) (
 .chk (Nat.beq (Int.toNat u1.1) (Int.toNat u1.1)) <|
 .ob (idx x2.2.1 u1.1) fun e3=>
 .br (decide (e3.2.2.2.1≥x2.1)) (
 .chk (decide (x2.2.2.2.2.2.2.2.2.2.1.length+[e3].length<=4294967296)) <|
 .chk k2 <|
 .leaf (.inl (x2.1,x2.2.1,x2.2.2.1,k1,u1.2.1,u2.1,u2.2.1,u3.1,u3.2.1,u3.2.2.1++[e3],()))) (
 .chk k2 <|
 .leaf (.inl (x2.1,x2.2.1,x2.2.2.1,k1,u1.2.1,u2.1,u2.2.1,u3.1,u3.2.1,u3.2.2.1,())))) (
 .leaf (.inr (u1.2.1,u2.1,u2.2.1,u3.1,u3.2.1,u3.2.2.1,())))
def Mt (a0:Bd) (a1:YI):Tree (Bd):=
 .ob (Fc a0) fun r1=>
 .ob (Ax Fm (a1.1,r1.2.2.1,(r1.2.2.1.length:Int),0,0,0,[],a0.1,a0.2.1,[],())) fun o4=>
 .leaf (o4.2.2.2.1,o4.2.2.2.2.1,o4.2.2.2.2.2.1,())
def Tp a0 a1:=(Mt a0 a1).val
def Ae0 (a0:Bd) (a1:YI) (a2:A6) (a3:YBs):Tree (Bd×(Bool×Unit)):=
 .ob (Wa a0) fun r1=>
 .br (!r1.1) (
 .ob (Fc a0) fun r2=>
 .leaf (r2,(false,()))) (
 .ob (Be a1 (0,()) (1000000,())) fun r3=>
 .br (!r3.1) (
 .ob (Fc a0) fun r4=>
 .leaf (r4,(false,()))) (
 .ob (Gi a2) fun r5=>
 .br (!r5.1) (
 .ob (Fc a0) fun r6=>
 .leaf (r6,(false,()))) (
 .ob (Ds a3) fun r7=>
 .br (!r7.1) (
 .ob (Fc a0) fun r8=>
 .leaf (r8,(false,()))) (
 .br (and (a2.1==a0.1) (and (a2.2.1==a0.2.1) true)) (
 .ob (Fc a0) fun r9=>
 .leaf (r9,(false,()))) (
 .ob (Tp a0 a1) fun r10=>
 .ob (Ahe r10 a2) fun r11=>
 .br (decide (r11.1≥0)) (
 .ob (Fc a0) fun r12=>
 .leaf (r12,(false,()))) (
 .br ((r10.2.2.1.length:Int)==3) (
 .ob (Fc a0) fun r13=>
 .leaf (r13,(false,()))) (
 .ob (Bg a3) fun r14=>letI k1:=(a2.1,a2.2.1,r14.1,i64.wrap (a1.1+(6:Int)),());
 .chk (decide (r10.2.2.1.length+[k1].length<=4294967296)) <|
 .leaf ((r10.1,r10.2.1,r10.2.2.1++[k1],()),(true,())))))))))
def Df a0 a1 a2 a3:=(Ae0 a0 a1 a2 a3).val
def Aay (a0:Al) (a1:YI) (a2:A6) (a3:As) (a4:YBs):Tree (Al×(List Au×Unit)×(List Am×Unit)×(Bool×Unit)):=
 letI u1:=a0.2.2;letI u2:=u1.2.2;letI u3:=u2.2.2;letI u4:=u3.2.2;letI u5:=u4.2.2;letI u6:=u5.2.2;letI u7:=u6.2.2;letI u8:=u7.2.2.2;letI u9:=a3.2.2.2.2.2.2.2;letI k10:=(u1.2.1,u2.1,u2.2.1,u3.1,u3.2.1,u4.1,u4.2.1,u5.1,u5.2.1,u6.1,u6.2.1,u7.1,u7.2.1,u7.2.2.1,u8.1,());.ob (Lv a0) fun r1=>letI u10:=r1.2.2;letI u11:=u10.2.2.2.2.2.2.2.2.2.2.2.2.2.2.2.2;letI u12:=u11.2.2;letI u13:=u12.2.2.2;letI k11:=Df (u11.1,u11.2.1,u12.1,()) a1 a2 a4;
 .ob (U3 a0) fun r2=>
 .br (!r2.1) (
 .leaf (r1,([],()),([],()),(false,()))) (
 .br u8.2.2.2.2.2.2.1 (
 .leaf (r1,([],()),([],()),(false,()))) (
 .ob (Gi a2) fun r3=>
 .br (!r3.1) (
 .leaf (r1,([],()),([],()),(false,()))) (
 .ob (Ph k10 a1 a3) fun r4=>letI u14:=r4.1.2.2;letI u15:=u14.2.2;letI u16:=u15.2.2;letI u17:=u16.2.2;letI u18:=u17.2.2;letI u19:=u18.2.2;letI u20:=u19.2.2;letI k1:=(r1.1,r1.2.1,u10.1,r4.1.1,r4.1.2.1,u14.1,u14.2.1,u15.1,u15.2.1,u16.1,u16.2.1,u17.1,u17.2.1,u18.1,u18.2.1,u19.1,u19.2.1,u20.1,u11.1,u11.2.1,u12.1,u12.2.1,a1.1,u13.1,());letI k12:=Cj r4.1 ((5:Int),()) a4;
 .br (r4.2.2.1 != 0) (
 .leaf (r1,([],()),([],()),(false,()))) (
 .ob (Abb k10 (u9.1,())) fun r5=>
 .ob (Lx (0,()) a3) fun r6=>
 .ob (Akf r5.1 (u1.1,()) r6) fun r7=>
 .br (a3.1==4) (
 .ob (Bg (u1.1,())) fun r8=>letI k3:=((6:Int),(0:Int),(0:Int),([]:List YB),r8.1,u9.1,u9.2.1,r4.2.1.1,([]:List YB),(0:Int),(0:Int),a1.1,());letI k15:=[r7]++[k3];
 .chk (decide ([r7].length+[k3].length<=4294967296)) <|
 .ob k11 fun r9=>
 .ob k12 fun r10=>letI u21:=r10.1.2.2.2;letI u22:=u21.2.2.2;letI u23:=u22.2.2.2.2;letI k4:=(a2.1,a2.2.1,r10.2.1.1,r10.2.1.2.1,r10.2.1.2.2.1,r10.2.1.2.2.2.1,r10.2.1.2.2.2.2.1,r10.2.1.2.2.2.2.2.1,r10.2.1.2.2.2.2.2.2.1,r10.2.1.2.2.2.2.2.2.2.1,r10.2.1.2.2.2.2.2.2.2.2.1,r10.2.1.2.2.2.2.2.2.2.2.2.1,r10.2.1.2.2.2.2.2.2.2.2.2.2.1,());
 .br (!r9.2.1) (
 .leaf (k1,([],()),(k15,()),(false,()))) (
 .br (r10.2.2.1 != 0) (
 .leaf (k1,([],()),(k15,()),(false,()))) (
 .chk (decide (([]:List Au).length+[k4].length<=4294967296)) <|
 .ob (Ia r10.1 r10.2.1) fun r11=>
 .chk (decide (k15.length+[r11].length<=4294967296)) <|
 .leaf ((r1.1,r1.2.1,u10.1,r10.1.1,r10.1.2.1,r10.1.2.2.1,u21.1,u21.2.1,u21.2.2.1,u22.1,u22.2.1,u22.2.2.1,u22.2.2.2.1,u23.1,u23.2.1,u23.2.2.1,u23.2.2.2.1,u23.2.2.2.2.1,r9.1.1,r9.1.2.1,r9.1.2.2.1,u12.2.1,a1.1,u13.1,()),(([]:List Au)++[k4],()),(k15++[r11],()),(true,()))))) (
 .br (a3.1==6) (
 .ob (Qn (u8.2.1,u8.2.2.1,u8.2.2.2.1,()) a1 a2 r4.2.1) fun r12=>letI k9:=(r1.1,r1.2.1,u10.1,r4.1.1,r4.1.2.1,u14.1,u14.2.1,u15.1,u15.2.1,u16.1,u16.2.1,u17.1,u17.2.1,u18.1,u18.2.1,u19.1,u19.2.1,u20.1,r12.1.1,r12.1.2.1,r12.1.2.2.1,u12.2.1,a1.1,u13.1,());
 .br r12.2.1 (
 .ob (Bg (u1.1,())) fun r13=>letI k2:=((9:Int),(0:Int),(0:Int),([]:List YB),r13.1,(0:Int),(0:Int),r4.2.1.1,([]:List YB),a2.1,a2.2.1,a1.1,());letI k16:=[r7]++[k2];
 .chk (decide ([r7].length+[k2].length<=4294967296)) <|
 .ob (Df r12.1 a1 a2 a4) fun r14=>
 .ob k12 fun r15=>letI u24:=r15.1.2.2.2;letI u25:=u24.2.2.2;letI u26:=u25.2.2.2.2;letI k5:=(a2.1,a2.2.1,r15.2.1.1,r15.2.1.2.1,r15.2.1.2.2.1,r15.2.1.2.2.2.1,r15.2.1.2.2.2.2.1,r15.2.1.2.2.2.2.2.1,r15.2.1.2.2.2.2.2.2.1,r15.2.1.2.2.2.2.2.2.2.1,r15.2.1.2.2.2.2.2.2.2.2.1,r15.2.1.2.2.2.2.2.2.2.2.2.1,r15.2.1.2.2.2.2.2.2.2.2.2.2.1,());
 .br (!r14.2.1) (
 .leaf (k9,([],()),(k16,()),(false,()))) (
 .br (r15.2.2.1 != 0) (
 .leaf (k9,([],()),(k16,()),(false,()))) (
 .chk (decide (([]:List Au).length+[k5].length<=4294967296)) <|
 .ob (Ia r15.1 r15.2.1) fun r16=>
 .chk (decide (k16.length+[r16].length<=4294967296)) <|
 .leaf ((r1.1,r1.2.1,u10.1,r15.1.1,r15.1.2.1,r15.1.2.2.1,u24.1,u24.2.1,u24.2.2.1,u25.1,u25.2.1,u25.2.2.1,u25.2.2.2.1,u26.1,u26.2.1,u26.2.2.1,u26.2.2.2.1,u26.2.2.2.2.1,r14.1.1,r14.1.2.1,r14.1.2.2.1,u12.2.1,a1.1,u13.1,()),(([]:List Au)++[k5],()),(k16++[r16],()),(true,()))))) (
 .ob k11 fun r17=>
 .ob k12 fun r18=>letI u27:=r18.1.2.2.2;letI u28:=u27.2.2.2;letI u29:=u28.2.2.2.2;letI k6:=(a2.1,a2.2.1,r18.2.1.1,r18.2.1.2.1,r18.2.1.2.2.1,r18.2.1.2.2.2.1,r18.2.1.2.2.2.2.1,r18.2.1.2.2.2.2.2.1,r18.2.1.2.2.2.2.2.2.1,r18.2.1.2.2.2.2.2.2.2.1,r18.2.1.2.2.2.2.2.2.2.2.1,r18.2.1.2.2.2.2.2.2.2.2.2.1,r18.2.1.2.2.2.2.2.2.2.2.2.2.1,());
 .br (!r17.2.1) (
 .leaf (k1,([],()),([r7],()),(false,()))) (
 .br (r18.2.2.1 != 0) (
 .leaf (k1,([],()),([r7],()),(false,()))) (
 .chk (decide (([]:List Au).length+[k6].length<=4294967296)) <|
 .ob (Ia r18.1 r18.2.1) fun r19=>
 .chk (decide ([r7].length+[r19].length<=4294967296)) <|
 .leaf ((r1.1,r1.2.1,u10.1,r18.1.1,r18.1.2.1,r18.1.2.2.1,u27.1,u27.2.1,u27.2.2.1,u28.1,u28.2.1,u28.2.2.1,u28.2.2.2.1,u29.1,u29.2.1,u29.2.2.1,u29.2.2.2.1,u29.2.2.2.2.1,r17.1.1,r17.1.2.1,r17.1.2.2.1,u12.2.1,a1.1,u13.1,()),(([]:List Au)++[k6],()),([r7]++[r19],()),(true,())))))) (
 .br (a3.1==7) (
 .ob (W7 k1 (u9.1,()) r4.2.1) fun r20=>letI u30:=r20.1.2.2.2;letI u31:=u30.2.2.2;letI u32:=u31.2.2.2;letI u33:=u32.2.2.2;letI u34:=u33.2.2.2;letI u35:=u34.2.2.2.2;letI k13:=([]:List Au)++r20.2.1.1;letI k14:=[r7]++r20.2.2.1;
 .chk (decide (([]:List Au).length+r20.2.1.1.length<=4294967296)) <|
 .chk (decide ([r7].length+r20.2.2.1.length<=4294967296)) <|
 .ob (Df (u34.2.2.2.1,u35.1,u35.2.1,()) a1 a2 a4) fun r21=>
 .ob (Cj (u30.1,u30.2.1,u30.2.2.1,u31.1,u31.2.1,u31.2.2.1,u32.1,u32.2.1,u32.2.2.1,u33.1,u33.2.1,u33.2.2.1,u34.1,u34.2.1,u34.2.2.1,()) (5,()) a4) fun r22=>letI u36:=r22.1.2.2.2;letI u37:=u36.2.2.2;letI u38:=u37.2.2.2.2;letI k7:=(a2.1,a2.2.1,r22.2.1.1,r22.2.1.2.1,r22.2.1.2.2.1,r22.2.1.2.2.2.1,r22.2.1.2.2.2.2.1,r22.2.1.2.2.2.2.2.1,r22.2.1.2.2.2.2.2.2.1,r22.2.1.2.2.2.2.2.2.2.1,r22.2.1.2.2.2.2.2.2.2.2.1,r22.2.1.2.2.2.2.2.2.2.2.2.1,r22.2.1.2.2.2.2.2.2.2.2.2.2.1,());
 .br (!r21.2.1) (
 .leaf (r20.1,(k13,()),(k14,()),(false,()))) (
 .br (r22.2.2.1 != 0) (
 .leaf (r20.1,(k13,()),(k14,()),(false,()))) (
 .chk (decide (k13.length+[k7].length<=4294967296)) <|
 .ob (Ia r22.1 r22.2.1) fun r23=>
 .chk (decide (k14.length+[r23].length<=4294967296)) <|
 .leaf ((r20.1.1,r20.1.2.1,r20.1.2.2.1,r22.1.1,r22.1.2.1,r22.1.2.2.1,u36.1,u36.2.1,u36.2.2.1,u37.1,u37.2.1,u37.2.2.1,u37.2.2.2.1,u38.1,u38.2.1,u38.2.2.1,u38.2.2.2.1,u38.2.2.2.2.1,r21.1.1,r21.1.2.1,r21.1.2.2.1,u35.2.2.1,u35.2.2.2.1,u35.2.2.2.2.1,()),(k13++[k7],()),(k14++[r23],()),(true,()))))) (
 .ob k11 fun r24=>
 .ob k12 fun r25=>letI u39:=r25.1.2.2.2;letI u40:=u39.2.2.2;letI u41:=u40.2.2.2.2;letI k8:=(a2.1,a2.2.1,r25.2.1.1,r25.2.1.2.1,r25.2.1.2.2.1,r25.2.1.2.2.2.1,r25.2.1.2.2.2.2.1,r25.2.1.2.2.2.2.2.1,r25.2.1.2.2.2.2.2.2.1,r25.2.1.2.2.2.2.2.2.2.1,r25.2.1.2.2.2.2.2.2.2.2.1,r25.2.1.2.2.2.2.2.2.2.2.2.1,r25.2.1.2.2.2.2.2.2.2.2.2.2.1,());
 .br (!r24.2.1) (
 .leaf (k1,([],()),([r7],()),(false,()))) (
 .br (r25.2.2.1 != 0) (
 .leaf (k1,([],()),([r7],()),(false,()))) (
 .chk (decide (([]:List Au).length+[k8].length<=4294967296)) <|
 .ob (Ia r25.1 r25.2.1) fun r26=>
 .chk (decide ([r7].length+[r26].length<=4294967296)) <|
 .leaf ((r1.1,r1.2.1,u10.1,r25.1.1,r25.1.2.1,r25.1.2.2.1,u39.1,u39.2.1,u39.2.2.1,u40.1,u40.2.1,u40.2.2.1,u40.2.2.2.1,u41.1,u41.2.1,u41.2.2.1,u41.2.2.2.1,u41.2.2.2.2.1,r24.1.1,r24.1.2.1,r24.1.2.2.1,u12.2.1,a1.1,u13.1,()),(([]:List Au)++[k8],()),([r7]++[r26],()),(true,())))))))))))
def Jg a0 a1 a2 a3 a4:=(Aay a0 a1 a2 a3 a4).val
def Ob (a0:A0) (a1:YI) (a2:A6) (a3:As):Tree (A0×(List Au×Unit)×(List Am×Unit)):=
 letI u1:=a0.2.2;letI u2:=u1.2.2.2;letI k3:=(u1.2.2.1,u2.1,());letI k4:=(a3.2.2.2.1,());.ob (Nf k3 k4) fun r1=>letI k5:=idx u2.1 r1.1;
 .br (decide (r1.1<0)) (
 .leaf (a0,([],()),([],()))) (
 .ob k5 fun e2=>
 .br e2.2.2.2.2.2.2.2.2.2.2.2.2.2.2.2.2.2.2.2.2.2.2.2.1 (
 .leaf (a0,([],()),([],()))) (
 .ob (Avx (u1.1,u1.2.1,())) fun r3=>
 .ob (Aha a0 a2 (51,())) fun r4=>
 .br (!r4.1) (
 .ob k5 fun e5=>
 .ob (Jg e5 a1 a2 a3 ([],())) fun r6=>
 .ob (G5 k3 r1 r6.1) fun r7=>
 .br r6.2.2.2.1 (
 .ob (Bg k4) fun r8=>
 .ob (Bg ([],())) fun r9=>letI k2:=((7:Int),(0:Int),(0:Int),([]:List YB),r8.1,(0:Int),(0:Int),r9.1,([]:List YB),a2.1,a2.2.1,a1.1,());
 .ob (Lw ([],())) fun r10=>
 .chk (decide ([r10].length+r6.2.2.1.1.length<=4294967296)) <|
 .chk (decide (([r10]++r6.2.2.1.1).length+[k2].length<=4294967296)) <|
 .leaf ((a0.1,a0.2.1,r3.1.1,r3.1.2.1,r7.1.1,r7.1.2.1,u2.2.1,()),r6.2.1,(([r10]++r6.2.2.1.1)++[k2],()))) (
 .leaf ((a0.1,a0.2.1,u1.1,u1.2.1,r7.1.1,r7.1.2.1,u2.2.1,()),r6.2.1,r6.2.2.1))) (
 .ob k5 fun e11=>
 .ob (Jg e11 a1 a2 a3 r3.2) fun r12=>
 .ob (G5 k3 r1 r12.1) fun r13=>
 .br r12.2.2.2.1 (
 .ob (Bg k4) fun r14=>
 .ob (Bg r3.2) fun r15=>letI k1:=((7:Int),(0:Int),(0:Int),([]:List YB),r14.1,(0:Int),(0:Int),r15.1,([]:List YB),a2.1,a2.2.1,a1.1,());
 .ob (Lw r3.2) fun r16=>
 .chk (decide ([r16].length+r12.2.2.1.1.length<=4294967296)) <|
 .chk (decide (([r16]++r12.2.2.1.1).length+[k1].length<=4294967296)) <|
 .leaf ((a0.1,a0.2.1,r3.1.1,r3.1.2.1,r13.1.1,r13.1.2.1,u2.2.1,()),r12.2.1,(([r16]++r12.2.2.1.1)++[k1],()))) (
 .leaf ((a0.1,a0.2.1,u1.1,u1.2.1,r13.1.1,r13.1.2.1,u2.2.1,()),r12.2.1,r12.2.2.1)))))
def Kc a0 a1 a2 a3:=(Ob a0 a1 a2 a3).val
def Auw (a0:As):Tree (YI):=
 .ob (Ea a0) fun r1=>
 .leaf ((r1.1.length:Int),())
def Ahf a0:=(Auw a0).val
def A02 (a0:List Ak×Unit) (a1:A6) (a2:YI):Tree ((List Ak×Unit)×(Bool×Unit)):=
 .ob (Nd a0) fun r1=>
 .ob (Pd a0 a1) fun r2=>
 .ob (Mk a0) fun r3=>
 .br (!r3.1) (
 .leaf (r1,(false,()))) (
 .br (decide (r2.1<0)) (
 .leaf (r1,(false,()))) (
 .ob (Kx a0 a1) fun r4=>
 .ob (Be a2 (0,()) r4) fun r5=>
 .br (!r5.1) (
 .leaf (r1,(false,()))) (
 .ob (idx r1.1 r2.1) fun e6=>
 .ob (idx r1.1 r2.1) fun e7=>
 let q8:=(r1.1.set (r2.1).toNat (e7.1,e7.2.1,e7.2.2.1,i64.wrap (e6.2.2.2.1+a2.1),()))
 .leaf ((q8,()),(true,())))))
def A1z a0 a1 a2:=(A02 a0 a1 a2).val
def Dm:Lst (List Am×List Au×List Au×Int×Int×List YBs×List YB×List YB×Int×Int×List Al×List Ak×List YBs×List YB×List YB×Int×Int×List Al×List Ak×Unit) (List Am×List Au×List YBs×List YB×List YB×Int×Int×List Al×List Ak×List YBs×List YB×List YB×Int×Int×List Al×List Ak×Unit):=fun x7=>
 letI u1:=x7.2.2;letI u2:=u1.2.2;letI u3:=u2.2.2;letI u4:=u3.2.2;letI u5:=u4.2.2;letI u6:=u5.2.2;letI u7:=u6.2.2;letI u8:=u7.2.2;letI k1:=Nat.ble (Int.toNat u2.1+1) (Int.toNat (i64.wrap (u2.1+(1:Int))));letI k2:=i64.wrap (u2.1+(1:Int));Tree.val <|
 .br (decide (u2.1<u1.2.1)) (
 .chk (Nat.beq (Int.toNat u2.1) (Int.toNat u2.1)) <|
 .ob (idx u1.1 u2.1) fun e8=>letI u9:=e8.2.2.2;letI u10:=u9.2.2.2;letI u11:=u10.2.2.2;letI k3:=decide (x7.2.1.length+[e8].length<=4294967296);
 .ob (Acu (u8.1,u8.2.1,()) (e8.1,e8.2.1,())) fun r9=>
 .br (!r9.1) (
 .ob (Ahf (e8.2.2.1,u9.1,u9.2.1,u9.2.2.1,u10.1,u10.2.1,u10.2.2.1,u11.1,u11.2.1,u11.2.2.1,u11.2.2.2.1,())) fun r10=>
 .ob (A1z (u8.2.2.1,()) (e8.1,e8.2.1,()) r10) fun r11=>
 .br (!r11.2.1) (
 .chk k1 <|
 .leaf (.inl (x7.1,x7.2.1,u1.1,u1.2.1,k2,u2.2.1,u3.1,u3.2.1,u4.1,u4.2.1,u5.1,u5.2.1,u6.1,u6.2.1,u7.1,u7.2.1,u8.1,u8.2.1,u8.2.2.1,()))) (
 .chk k3 <|
 .chk k1 <|
 .leaf (.inl (x7.1,x7.2.1++[e8],u1.1,u1.2.1,k2,u2.2.1,u3.1,u3.2.1,u4.1,u4.2.1,u5.1,u5.2.1,u6.1,u6.2.1,u7.1,u7.2.1,u8.1,u8.2.1,r11.1.1,())))) (
 .chk k3 <|
 .chk k1 <|
 .leaf (.inl (x7.1,x7.2.1++[e8],u1.1,u1.2.1,k2,u2.2.1,u3.1,u3.2.1,u4.1,u4.2.1,u5.1,u5.2.1,u6.1,u6.2.1,u7.1,u7.2.1,u8.1,u8.2.1,u8.2.2.1,())))) (
 .leaf (.inr (x7.1,x7.2.1,u2.2.1,u3.1,u3.2.1,u4.1,u4.2.1,u5.1,u5.2.1,u6.1,u6.2.1,u7.1,u7.2.1,u8.1,u8.2.1,u8.2.2.1,())))
def Ut (a0:A0) (a1:YI) (a2:A6) (a3:YBs):Tree (A0×(List Au×Unit)×(List Am×Unit)):=
 .ob (Acq a0) fun r1=>letI u1:=r1.2.2;letI u2:=u1.2.2;
 .ob (Akb a0) fun r2=>
 .br (!r2.1) (
 .leaf (r1,([],()),([],()))) (
 .ob (Be a1 (0,()) (1000000,())) fun r3=>
 .br (!r3.1) (
 .leaf (r1,([],()),([],()))) (
 .ob (Gi a2) fun r4=>
 .br (!r4.1) (
 .leaf (r1,([],()),([],()))) (
 .ob (A7s (a0.2.2.2.2.2.2.1,()) a2 ((a3.1.length:Int),())) fun r5=>letI k1:=Ax Dm (([]:List Am),([]:List Au),([]:List Au),(([]:List Au).length:Int),(0:Int),([]:List YBs),([]:List YB),([]:List YB),(0:Int),(0:Int),([]:List Al),([]:List Ak),r1.1,r1.2.1,u1.1,u1.2.1,u2.1,u2.2.1,r5.1,());letI k2:=(r1.1,r1.2.1,u1.1,u1.2.1,u2.1,u2.2.1,r5.1,());
 .ob (Pe a3) fun r6=>
 .br (!r6.2.1) (
 .ob k1 fun o12=>letI u3:=o12.2.2.2.2.2.2.2.2.2;letI u4:=u3.2.2.2;
 .leaf ((u3.1,u3.2.1,u3.2.2.1,u4.1,u4.2.1,u4.2.2.1,u4.2.2.2.1,()),(o12.2.1,()),(o12.1,()))) (
 .br (r6.1.1==1) (
 .ob (To k2 a1 a2 r6.1) fun r13=>letI u5:=r13.1.2.2.2;
 .ob (Ax Dm (r13.2.2.1,[],r13.2.1.1,(r13.2.1.1.length:Int),0,[],[],[],0,0,[],[],r13.1.1,r13.1.2.1,r13.1.2.2.1,u5.1,u5.2.1,u5.2.2.1,u5.2.2.2.1,())) fun o14=>letI u6:=o14.2.2.2.2.2.2.2.2.2;letI u7:=u6.2.2.2;
 .leaf ((u6.1,u6.2.1,u6.2.2.1,u7.1,u7.2.1,u7.2.2.1,u7.2.2.2.1,()),(o14.2.1,()),(o14.1,()))) (
 .br (r6.1.1==3) (
 .ob (Pf k2 a1 a2 r6.1) fun r15=>letI u8:=r15.1.2.2.2;
 .ob (Ax Dm (r15.2.2.1,[],r15.2.1.1,(r15.2.1.1.length:Int),0,[],[],[],0,0,[],[],r15.1.1,r15.1.2.1,r15.1.2.2.1,u8.1,u8.2.1,u8.2.2.1,u8.2.2.2.1,())) fun o16=>letI u9:=o16.2.2.2.2.2.2.2.2.2;letI u10:=u9.2.2.2;
 .leaf ((u9.1,u9.2.1,u9.2.2.1,u10.1,u10.2.1,u10.2.2.1,u10.2.2.2.1,()),(o16.2.1,()),(o16.1,()))) (
 .ob (Ng (r6.1.1,())) fun r17=>
 .br r17.1 (
 .ob (Kc k2 a1 a2 r6.1) fun r18=>letI u11:=r18.1.2.2.2;
 .ob (Ax Dm (r18.2.2.1,[],r18.2.1.1,(r18.2.1.1.length:Int),0,[],[],[],0,0,[],[],r18.1.1,r18.1.2.1,r18.1.2.2.1,u11.1,u11.2.1,u11.2.2.1,u11.2.2.2.1,())) fun o19=>letI u12:=o19.2.2.2.2.2.2.2.2.2;letI u13:=u12.2.2.2;
 .leaf ((u12.1,u12.2.1,u12.2.2.1,u13.1,u13.2.1,u13.2.2.1,u13.2.2.2.1,()),(o19.2.1,()),(o19.1,()))) (
 .ob k1 fun o20=>letI u14:=o20.2.2.2.2.2.2.2.2.2;letI u15:=u14.2.2.2;
 .leaf ((u14.1,u14.2.1,u14.2.2.1,u15.1,u15.2.1,u15.2.2.1,u15.2.2.2.1,()),(o20.2.1,()),(o20.1,())))))))))
def U6 a0 a1 a2 a3:=(Ut a0 a1 a2 a3).val
def Rf:Lst (List YB×List YB×Int×Unit) ((Bool×Unit)⊕(Unit)):=fun x1=>
 Tree.val <|
 .br (decide (x1.2.2.1<(x1.1.length:Int))) (
 .ob (idx x1.1 x1.2.2.1) fun e2=>
 .ob (idx x1.2.1 x1.2.2.1) fun e3=>
 .br (e2.1 != e3.1) (
 .leaf (.inr (.inl (false,())))) (
 .leaf (.inl (x1.1,x1.2.1,i64.wrap (x1.2.2.1+1),())))) (
 .leaf (.inr (.inr ())))
def Aoe (a0 a1:YBs):Tree (Bool×Unit):=
 .br ((a0.1.length:Int) != (a1.1.length:Int)) (
 .leaf (false,())) (
 .ob (Ax Rf (a0.1,a1.1,0,())) fun o4=>
 .sm o4 (fun o5=>
 .leaf o5) (fun o6=>
 .leaf (true,())))
def De a0 a1:=(Aoe a0 a1).val
def O7:Lst (List YBs×List YBs×Int×Unit) ((Bool×Unit)⊕(Unit)):=fun x1=>
 Tree.val <|
 .br (decide (x1.2.2.1<(x1.1.length:Int))) (
 .ob (idx x1.1 x1.2.2.1) fun e2=>
 .ob (idx x1.2.1 x1.2.2.1) fun e3=>
 .ob (De e2 e3) fun r4=>
 .br (!r4.1) (
 .leaf (.inr (.inl (false,())))) (
 .leaf (.inl (x1.1,x1.2.1,i64.wrap (x1.2.2.1+1),())))) (
 .leaf (.inr (.inr ())))
def Ajn (a0 a1:List YBs×Unit):Tree (Bool×Unit):=
 .br ((a0.1.length:Int) != (a1.1.length:Int)) (
 .leaf (false,())) (
 .ob (Ax O7 (a0.1,a1.1,0,())) fun o5=>
 .sm o5 (fun o6=>
 .leaf o6) (fun o7=>
 .leaf (true,())))
def Akh a0 a1:=(Ajn a0 a1).val
def A05 (a0 a1:YBs):Tree (Bool×Unit):=
 .ob (De a0 a1) fun r1=>
 .br (!r1.1) (
 .leaf (false,())) (
 .leaf (true,()))
def A10 a0 a1:=(A05 a0 a1).val
def Aux (a0 a1:C7):Tree (Bool×Unit):=
 .ob (De (a0.1,()) (a1.1,())) fun r1=>
 .br (!r1.1) (
 .leaf (false,())) (
 .br (a0.2.1 != a1.2.1) (
 .leaf (false,())) (
 .leaf (true,())))
def Av6 a0 a1:=(Aux a0 a1).val
def Th:Lst (List YI×List YI×Int×Unit) ((Bool×Unit)⊕(Unit)):=fun x1=>
 Tree.val <|
 .br (decide (x1.2.2.1<(x1.1.length:Int))) (
 .ob (idx x1.1 x1.2.2.1) fun e2=>
 .ob (idx x1.2.1 x1.2.2.1) fun e3=>
 .br (e2.1 != e3.1) (
 .leaf (.inr (.inl (false,())))) (
 .leaf (.inl (x1.1,x1.2.1,i64.wrap (x1.2.2.1+1),())))) (
 .leaf (.inr (.inr ())))
def Auy (a0 a1:List YI×Unit):Tree (Bool×Unit):=
 .br ((a0.1.length:Int) != (a1.1.length:Int)) (
 .leaf (false,())) (
 .ob (Ax Th (a0.1,a1.1,0,())) fun o4=>
 .sm o4 (fun o5=>
 .leaf o5) (fun o6=>
 .leaf (true,())))
def Av7 a0 a1:=(Auy a0 a1).val
def A06 (a0 a1:Cz):Tree (Bool×Unit):=
 .br (a0.1 != a1.1) (
 .leaf (false,())) (
 .ob (Av7 (a0.2.1,()) (a1.2.1,())) fun r1=>
 .br (!r1.1) (
 .leaf (false,())) (
 .leaf (true,())))
def A11 a0 a1:=(A06 a0 a1).val
def A7m (a0 a1:YEp):Tree (Bool×Unit):=
 .br (a0.1 != a1.1) (
 .leaf (false,())) (
 .ob (De (a0.2.1,()) (a1.2.1,())) fun r1=>
 .br (!r1.1) (
 .leaf (false,())) (
 .br (a0.2.2.1 != a1.2.2.1) (
 .leaf (false,())) (
 .ob (A11 (a0.2.2.2.1,a0.2.2.2.2.1,()) (a1.2.2.2.1,a1.2.2.2.2.1,())) fun r2=>
 .br (!r2.1) (
 .leaf (false,())) (
 .leaf (true,())))))
def Av8 a0 a1:=(A7m a0 a1).val
def Auz (a0 a1:Aq):Tree (Bool×Unit):=
 letI u1:=a0.2.2.2;letI u2:=u1.2.2.2;letI u3:=u2.2.2.2.2;letI u4:=a1.2.2.2;letI u5:=u4.2.2.2;letI u6:=u5.2.2.2.2;.br (a0.1 != a1.1) (
 .leaf (false,())) (
 .ob (De (a0.2.1,()) (a1.2.1,())) fun r1=>
 .br (!r1.1) (
 .leaf (false,())) (
 .ob (Av8 (a0.2.2.1,u1.1,u1.2.1,u1.2.2.1,u2.1,()) (a1.2.2.1,u4.1,u4.2.1,u4.2.2.1,u5.1,())) fun r2=>
 .br (!r2.1) (
 .leaf (false,())) (
 .ob (Av8 (u2.2.1,u2.2.2.1,u2.2.2.2.1,u3.1,u3.2.1,()) (u5.2.1,u5.2.2.1,u5.2.2.2.1,u6.1,u6.2.1,())) fun r3=>
 .br (!r3.1) (
 .leaf (false,())) (
 .br (!(u3.2.2.1==u6.2.2.1)) (
 .leaf (false,())) (
 .br (u3.2.2.2.1 != u6.2.2.2.1) (
 .leaf (false,())) (
 .ob (De (u3.2.2.2.2.1,()) (u6.2.2.2.2.1,())) fun r4=>
 .br (!r4.1) (
 .leaf (false,())) (
 .leaf (true,()))))))))
def Av9 a0 a1:=(Auz a0 a1).val
def Au0 (a0 a1:A6):Tree (Bool×Unit):=
 .br (a0.1 != a1.1) (
 .leaf (false,())) (
 .br (a0.2.1 != a1.2.1) (
 .leaf (false,())) (
 .leaf (true,())))
def Qo a0 a1:=(Au0 a0 a1).val
def Au1 (a0 a1:Av):Tree (Bool×Unit):=
 .ob (Qo (a0.1,a0.2.1,()) (a1.1,a1.2.1,())) fun r1=>
 .br (!r1.1) (
 .leaf (false,())) (
 .ob (De (a0.2.2.1,()) (a1.2.2.1,())) fun r2=>
 .br (!r2.1) (
 .leaf (false,())) (
 .br (a0.2.2.2.1 != a1.2.2.2.1) (
 .leaf (false,())) (
 .leaf (true,()))))
def Awa a0 a1:=(Au1 a0 a1).val
def Rg:Lst (List Av×List Av×Int×Unit) ((Bool×Unit)⊕(Unit)):=fun x1=>
 Tree.val <|
 .br (decide (x1.2.2.1<(x1.1.length:Int))) (
 .ob (idx x1.1 x1.2.2.1) fun e2=>
 .ob (idx x1.2.1 x1.2.2.1) fun e3=>
 .ob (Awa e2 e3) fun r4=>
 .br (!r4.1) (
 .leaf (.inr (.inl (false,())))) (
 .leaf (.inl (x1.1,x1.2.1,i64.wrap (x1.2.2.1+1),())))) (
 .leaf (.inr (.inr ())))
def Aof (a0 a1:List Av×Unit):Tree (Bool×Unit):=
 .br ((a0.1.length:Int) != (a1.1.length:Int)) (
 .leaf (false,())) (
 .ob (Ax Rg (a0.1,a1.1,0,())) fun o5=>
 .sm o5 (fun o6=>
 .leaf o6) (fun o7=>
 .leaf (true,())))
def Ao5 a0 a1:=(Aof a0 a1).val
def Aog (a0 a1:Bd):Tree (Bool×Unit):=
 .ob (Qo (a0.1,a0.2.1,()) (a1.1,a1.2.1,())) fun r1=>
 .br (!r1.1) (
 .leaf (false,())) (
 .ob (Ao5 (a0.2.2.1,()) (a1.2.2.1,())) fun r2=>
 .br (!r2.1) (
 .leaf (false,())) (
 .leaf (true,())))
def Ao6 a0 a1:=(Aog a0 a1).val
def Au2 (a0 a1:Al):Tree (Bool×Unit):=
 letI u1:=a0.2.2.2;letI u2:=u1.2.2.2;letI u3:=u2.2.2.2;letI u4:=u3.2.2.2;letI u5:=u4.2.2.2;letI u6:=u5.2.2.2.2;letI u7:=a1.2.2.2;letI u8:=u7.2.2.2;letI u9:=u8.2.2.2;letI u10:=u9.2.2.2;letI u11:=u10.2.2.2;letI u12:=u11.2.2.2.2;.br (a0.1 != a1.1) (
 .leaf (false,())) (
 .ob (De (a0.2.1,()) (a1.2.1,())) fun r1=>
 .br (!r1.1) (
 .leaf (false,())) (
 .ob (De (a0.2.2.1,()) (a1.2.2.1,())) fun r2=>
 .br (!r2.1) (
 .leaf (false,())) (
 .ob (Av9 (u1.1,u1.2.1,u1.2.2.1,u2.1,u2.2.1,u2.2.2.1,u3.1,u3.2.1,u3.2.2.1,u4.1,u4.2.1,u4.2.2.1,u5.1,u5.2.1,u5.2.2.1,()) (u7.1,u7.2.1,u7.2.2.1,u8.1,u8.2.1,u8.2.2.1,u9.1,u9.2.1,u9.2.2.1,u10.1,u10.2.1,u10.2.2.1,u11.1,u11.2.1,u11.2.2.1,())) fun r3=>
 .br (!r3.1) (
 .leaf (false,())) (
 .ob (Ao6 (u5.2.2.2.1,u6.1,u6.2.1,()) (u11.2.2.2.1,u12.1,u12.2.1,())) fun r4=>
 .br (!r4.1) (
 .leaf (false,())) (
 .br (u6.2.2.1 != u12.2.2.1) (
 .leaf (false,())) (
 .br (u6.2.2.2.1 != u12.2.2.2.1) (
 .leaf (false,())) (
 .br (!(u6.2.2.2.2.1==u12.2.2.2.2.1)) (
 .leaf (false,())) (
 .leaf (true,())))))))))
def Awb a0 a1:=(Au2 a0 a1).val
def Rh:Lst (List Al×List Al×Int×Unit) ((Bool×Unit)⊕(Unit)):=fun x1=>
 Tree.val <|
 .br (decide (x1.2.2.1<(x1.1.length:Int))) (
 .ob (idx x1.1 x1.2.2.1) fun e2=>
 .ob (idx x1.2.1 x1.2.2.1) fun e3=>
 .ob (Awb e2 e3) fun r4=>
 .br (!r4.1) (
 .leaf (.inr (.inl (false,())))) (
 .leaf (.inl (x1.1,x1.2.1,i64.wrap (x1.2.2.1+1),())))) (
 .leaf (.inr (.inr ())))
def Aoh (a0 a1:List Al×Unit):Tree (Bool×Unit):=
 .br ((a0.1.length:Int) != (a1.1.length:Int)) (
 .leaf (false,())) (
 .ob (Ax Rh (a0.1,a1.1,0,())) fun o5=>
 .sm o5 (fun o6=>
 .leaf o6) (fun o7=>
 .leaf (true,())))
def Ao7 a0 a1:=(Aoh a0 a1).val
def A07 (a0 a1:B8):Tree (Bool×Unit):=
 .br (a0.1 != a1.1) (
 .leaf (false,())) (
 .ob (Ao7 (a0.2.1,()) (a1.2.1,())) fun r1=>
 .br (!r1.1) (
 .leaf (false,())) (
 .leaf (true,())))
def A12 a0 a1:=(A07 a0 a1).val
def Ajo (a0 a1:Ak):Tree (Bool×Unit):=
 .ob (Qo (a0.1,a0.2.1,()) (a1.1,a1.2.1,())) fun r1=>
 .br (!r1.1) (
 .leaf (false,())) (
 .br (a0.2.2.1 != a1.2.2.1) (
 .leaf (false,())) (
 .br (a0.2.2.2.1 != a1.2.2.2.1) (
 .leaf (false,())) (
 .leaf (true,()))))
def Aki a0 a1:=(Ajo a0 a1).val
def Mv:Lst (List Ak×List Ak×Int×Unit) ((Bool×Unit)⊕(Unit)):=fun x1=>
 Tree.val <|
 .br (decide (x1.2.2.1<(x1.1.length:Int))) (
 .ob (idx x1.1 x1.2.2.1) fun e2=>
 .ob (idx x1.2.1 x1.2.2.1) fun e3=>
 .ob (Aki e2 e3) fun r4=>
 .br (!r4.1) (
 .leaf (.inr (.inl (false,())))) (
 .leaf (.inl (x1.1,x1.2.1,i64.wrap (x1.2.2.1+1),())))) (
 .leaf (.inr (.inr ())))
def Af5 (a0 a1:List Ak×Unit):Tree (Bool×Unit):=
 .br ((a0.1.length:Int) != (a1.1.length:Int)) (
 .leaf (false,())) (
 .ob (Ax Mv (a0.1,a1.1,0,())) fun o5=>
 .sm o5 (fun o6=>
 .leaf o6) (fun o7=>
 .leaf (true,())))
def Agi a0 a1:=(Af5 a0 a1).val
def Ajp (a0 a1:A0):Tree (Bool×Unit):=
 letI u1:=a0.2.2.2;letI u2:=a1.2.2.2;.ob (Akh (a0.1,()) (a1.1,())) fun r1=>
 .br (!r1.1) (
 .leaf (false,())) (
 .ob (A10 (a0.2.1,()) (a1.2.1,())) fun r2=>
 .br (!r2.1) (
 .leaf (false,())) (
 .ob (Av6 (a0.2.2.1,u1.1,()) (a1.2.2.1,u2.1,())) fun r3=>
 .br (!r3.1) (
 .leaf (false,())) (
 .ob (A12 (u1.2.1,u1.2.2.1,()) (u2.2.1,u2.2.2.1,())) fun r4=>
 .br (!r4.1) (
 .leaf (false,())) (
 .ob (Agi (u1.2.2.2.1,()) (u2.2.2.2.1,())) fun r5=>
 .br (!r5.1) (
 .leaf (false,())) (
 .leaf (true,()))))))
def Pi a0 a1:=(Ajp a0 a1).val
def Aoi (a0 a1:As):Tree (Bool×Unit):=
 letI u1:=a0.2.2.2;letI u2:=u1.2.2.2;letI u3:=a1.2.2.2;letI u4:=u3.2.2.2;.br (a0.1 != a1.1) (
 .leaf (false,())) (
 .br (a0.2.1 != a1.2.1) (
 .leaf (false,())) (
 .ob (De (a0.2.2.1,()) (a1.2.2.1,())) fun r1=>
 .br (!r1.1) (
 .leaf (false,())) (
 .ob (De (u1.1,()) (u3.1,())) fun r2=>
 .br (!r2.1) (
 .leaf (false,())) (
 .br (u1.2.1 != u3.2.1) (
 .leaf (false,())) (
 .ob (De (u1.2.2.1,()) (u3.2.2.1,())) fun r3=>
 .br (!r3.1) (
 .leaf (false,())) (
 .ob (De (u2.1,()) (u4.1,())) fun r4=>
 .br (!r4.1) (
 .leaf (false,())) (
 .br (u2.2.1 != u4.2.1) (
 .leaf (false,())) (
 .br (u2.2.2.1 != u4.2.2.1) (
 .leaf (false,())) (
 .ob (De (u2.2.2.2.1,()) (u4.2.2.2.1,())) fun r5=>
 .br (!r5.1) (
 .leaf (false,())) (
 .ob (De (u2.2.2.2.2.1,()) (u4.2.2.2.2.1,())) fun r6=>
 .br (!r6.1) (
 .leaf (false,())) (
 .leaf (true,()))))))))))))
def Ao8 a0 a1:=(Aoi a0 a1).val
def A1a (a0 a1:Au):Tree (Bool×Unit):=
 letI u1:=a0.2.2.2;letI u2:=u1.2.2.2;letI u3:=u2.2.2.2;letI u4:=a1.2.2.2;letI u5:=u4.2.2.2;letI u6:=u5.2.2.2;.ob (Qo (a0.1,a0.2.1,()) (a1.1,a1.2.1,())) fun r1=>
 .br (!r1.1) (
 .leaf (false,())) (
 .ob (Ao8 (a0.2.2.1,u1.1,u1.2.1,u1.2.2.1,u2.1,u2.2.1,u2.2.2.1,u3.1,u3.2.1,u3.2.2.1,u3.2.2.2.1,()) (a1.2.2.1,u4.1,u4.2.1,u4.2.2.1,u5.1,u5.2.1,u5.2.2.1,u6.1,u6.2.1,u6.2.2.1,u6.2.2.2.1,())) fun r2=>
 .br (!r2.1) (
 .leaf (false,())) (
 .leaf (true,())))
def A13 a0 a1:=(A1a a0 a1).val
def Ti:Lst (List Au×List Au×Int×Unit) ((Bool×Unit)⊕(Unit)):=fun x1=>
 Tree.val <|
 .br (decide (x1.2.2.1<(x1.1.length:Int))) (
 .ob (idx x1.1 x1.2.2.1) fun e2=>
 .ob (idx x1.2.1 x1.2.2.1) fun e3=>
 .ob (A13 e2 e3) fun r4=>
 .br (!r4.1) (
 .leaf (.inr (.inl (false,())))) (
 .leaf (.inl (x1.1,x1.2.1,i64.wrap (x1.2.2.1+1),())))) (
 .leaf (.inr (.inr ())))
def Au3 (a0 a1:List Au×Unit):Tree (Bool×Unit):=
 .br ((a0.1.length:Int) != (a1.1.length:Int)) (
 .leaf (false,())) (
 .ob (Ax Ti (a0.1,a1.1,0,())) fun o5=>
 .sm o5 (fun o6=>
 .leaf o6) (fun o7=>
 .leaf (true,())))
def Abc a0 a1:=(Au3 a0 a1).val
def Au4 (a0 a1:Am):Tree (Bool×Unit):=
 letI u1:=a0.2.2.2;letI u2:=u1.2.2.2.2;letI u3:=a1.2.2.2;letI u4:=u3.2.2.2.2;.br (a0.1 != a1.1) (
 .leaf (false,())) (
 .br (a0.2.1 != a1.2.1) (
 .leaf (false,())) (
 .br (a0.2.2.1 != a1.2.2.1) (
 .leaf (false,())) (
 .ob (De (u1.1,()) (u3.1,())) fun r1=>
 .br (!r1.1) (
 .leaf (false,())) (
 .ob (De (u1.2.1,()) (u3.2.1,())) fun r2=>
 .br (!r2.1) (
 .leaf (false,())) (
 .br (u1.2.2.1 != u3.2.2.1) (
 .leaf (false,())) (
 .br (u1.2.2.2.1 != u3.2.2.2.1) (
 .leaf (false,())) (
 .ob (De (u2.1,()) (u4.1,())) fun r3=>
 .br (!r3.1) (
 .leaf (false,())) (
 .ob (De (u2.2.1,()) (u4.2.1,())) fun r4=>
 .br (!r4.1) (
 .leaf (false,())) (
 .ob (Qo (u2.2.2.1,u2.2.2.2.1,()) (u4.2.2.1,u4.2.2.2.1,())) fun r5=>
 .br (!r5.1) (
 .leaf (false,())) (
 .br (u2.2.2.2.2.1 != u4.2.2.2.2.1) (
 .leaf (false,())) (
 .leaf (true,()))))))))))))
def Awc a0 a1:=(Au4 a0 a1).val
def Ri:Lst (List Am×List Am×Int×Unit) ((Bool×Unit)⊕(Unit)):=fun x1=>
 Tree.val <|
 .br (decide (x1.2.2.1<(x1.1.length:Int))) (
 .ob (idx x1.1 x1.2.2.1) fun e2=>
 .ob (idx x1.2.1 x1.2.2.1) fun e3=>
 .ob (Awc e2 e3) fun r4=>
 .br (!r4.1) (
 .leaf (.inr (.inl (false,())))) (
 .leaf (.inl (x1.1,x1.2.1,i64.wrap (x1.2.2.1+1),())))) (
 .leaf (.inr (.inr ())))
def Aoj (a0 a1:List Am×Unit):Tree (Bool×Unit):=
 .br ((a0.1.length:Int) != (a1.1.length:Int)) (
 .leaf (false,())) (
 .ob (Ax Ri (a0.1,a1.1,0,())) fun o5=>
 .sm o5 (fun o6=>
 .leaf o6) (fun o7=>
 .leaf (true,())))
def We a0 a1:=(Aoj a0 a1).val
def Mw:Lst (Ba9) (C7):=fun x1=>
 Tree.val <|
 .br (decide (x1.2.2.1<(x1.1.length:Int))) (
 .ob (idx x1.1 x1.2.2.1) fun e2=>
 let q3:=(x1.1.set (x1.2.2.1).toNat (u8.wrap x1.2.1,()))
 .leaf (.inl (q3,i64.wrap (x1.2.1+1),i64.wrap (x1.2.2.1+1),()))) (
 .leaf (.inr (x1.1,x1.2.1,())))
def Af6 (a0:YBs) (a1:YI):Tree (YI×YBs):=
 .ob (Ax Mw (a0.1,a1.1,0,())) fun o4=>
 .leaf ((o4.2.1,()),(o4.1,()))
def Cn a0 a1:=(Af6 a0 a1).val
def Lq:Lst (List YBs×Int×Int×Unit) (List YBs×Int×Unit):=fun x1=>
 Tree.val <|
 .br (decide (x1.2.2.1<(x1.1.length:Int))) (
 .ob (idx x1.1 x1.2.2.1) fun e2=>
 .ob (Cn e2 (x1.2.1,())) fun r3=>
 let q4:=(x1.1.set (x1.2.2.1).toNat r3.2)
 .leaf (.inl (q4,r3.1.1,i64.wrap (x1.2.2.1+1),()))) (
 .leaf (.inr (x1.1,x1.2.1,())))
def Ack (a0:List YBs×Unit) (a1:YI):Tree (YI×(List YBs×Unit)):=
 .ob (Ax Lq (a0.1,a1.1,0,())) fun o5=>
 .leaf ((o5.2.1,()),(o5.1,()))
def Acy a0 a1:=(Ack a0 a1).val
def Aok (a0:YBs) (a1:YI):Tree (YI×YBs):=
 .ob (Cn a0 a1) fun r1=>
 .leaf (r1.1,r1.2)
def Ao9 a0 a1:=(Aok a0 a1).val
def Ajq (a0:C7) (a1:YI):Tree (YI×C7):=
 .ob (Cn (a0.1,()) a1) fun r1=>
 .leaf (r1.1,(r1.2.1,a0.2.1,()))
def Akj a0 a1:=(Ajq a0 a1).val
def O8:Lst (List YI×Int×Int×Unit) (List YI×Int×Unit):=fun x1=>
 Tree.val <|
 .br (decide (x1.2.2.1<(x1.1.length:Int))) (
 .ob (idx x1.1 x1.2.2.1) fun e2=>
 let q3:=(x1.1.set (x1.2.2.1).toNat (x1.2.1,()))
 .leaf (.inl (q3,i64.wrap (x1.2.1+1),i64.wrap (x1.2.2.1+1),()))) (
 .leaf (.inr (x1.1,x1.2.1,())))
def Ajr (a0:List YI×Unit) (a1:YI):Tree (YI×(List YI×Unit)):=
 .ob (Ax O8 (a0.1,a1.1,0,())) fun o4=>
 .leaf ((o4.2.1,()),(o4.1,()))
def Abd a0 a1:=(Ajr a0 a1).val
def Mx:Lst (List Av×Int×Int×Unit) (List Av×Int×Unit):=fun x1=>
 letI u1:=x1.2.2;letI k1:=i64.wrap (x1.2.1+(1:Int));Tree.val <|
 .br (decide (u1.1<(x1.1.length:Int))) (
 .ob (idx x1.1 u1.1) fun e2=>
 let q3:=(x1.1.set (u1.1).toNat (x1.2.1,e2.2.1,e2.2.2.1,e2.2.2.2.1,()))
 .ob (idx q3 u1.1) fun e4=>
 let q5:=(q3.set (u1.1).toNat (e4.1,k1,e4.2.2.1,e4.2.2.2.1,()))
 .ob (idx q5 u1.1) fun e6=>
 .ob (Cn (e6.2.2.1,()) (i64.wrap (k1+1),())) fun r7=>
 let q8:=(q5.set (u1.1).toNat (e6.1,e6.2.1,r7.2.1,e6.2.2.2.1,()))
 .ob (idx q8 u1.1) fun e9=>
 let q10:=(q8.set (u1.1).toNat (e9.1,e9.2.1,e9.2.2.1,r7.1.1,()))
 .leaf (.inl (q10,i64.wrap (r7.1.1+1),i64.wrap (u1.1+1),()))) (
 .leaf (.inr (x1.1,x1.2.1,())))
def Af7 (a0:List Av×Unit) (a1:YI):Tree (YI×(List Av×Unit)):=
 .ob (Ax Mx (a0.1,a1.1,0,())) fun o11=>
 .leaf ((o11.2.1,()),(o11.1,()))
def Agj a0 a1:=(Af7 a0 a1).val
def My:Lst (List Al×Int×Int×Unit) (List Al×Int×Unit):=fun x1=>
 letI u1:=x1.2.2;Tree.val <|
 .br (decide (u1.1<(x1.1.length:Int))) (
 .ob (idx x1.1 u1.1) fun e2=>letI u2:=e2.2.2.2;letI u3:=u2.2.2.2;letI u4:=u3.2.2.2;letI u5:=u4.2.2.2;letI u6:=u5.2.2.2;letI u7:=u6.2.2.2.2;
 let q3:=(x1.1.set (u1.1).toNat (x1.2.1,e2.2.1,e2.2.2.1,u2.1,u2.2.1,u2.2.2.1,u3.1,u3.2.1,u3.2.2.1,u4.1,u4.2.1,u4.2.2.1,u5.1,u5.2.1,u5.2.2.1,u6.1,u6.2.1,u6.2.2.1,u6.2.2.2.1,u7.1,u7.2.1,u7.2.2.1,u7.2.2.2.1,u7.2.2.2.2.1,()))
 .ob (idx q3 u1.1) fun e4=>letI u8:=e4.2.2.2;letI u9:=u8.2.2.2;letI u10:=u9.2.2.2;letI u11:=u10.2.2.2;letI u12:=u11.2.2.2;letI u13:=u12.2.2.2.2;
 .ob (Cn (e4.2.1,()) (i64.wrap (x1.2.1+1),())) fun r5=>
 let q6:=(q3.set (u1.1).toNat (e4.1,r5.2.1,e4.2.2.1,u8.1,u8.2.1,u8.2.2.1,u9.1,u9.2.1,u9.2.2.1,u10.1,u10.2.1,u10.2.2.1,u11.1,u11.2.1,u11.2.2.1,u12.1,u12.2.1,u12.2.2.1,u12.2.2.2.1,u13.1,u13.2.1,u13.2.2.1,u13.2.2.2.1,u13.2.2.2.2.1,()))
 .ob (idx q6 u1.1) fun e7=>letI u14:=e7.2.2.2;letI u15:=u14.2.2.2;letI u16:=u15.2.2.2;letI u17:=u16.2.2.2;letI u18:=u17.2.2.2;letI u19:=u18.2.2.2.2;
 .ob (Cn (e7.2.2.1,()) r5.1) fun r8=>
 let q9:=(q6.set (u1.1).toNat (e7.1,e7.2.1,r8.2.1,u14.1,u14.2.1,u14.2.2.1,u15.1,u15.2.1,u15.2.2.1,u16.1,u16.2.1,u16.2.2.1,u17.1,u17.2.1,u17.2.2.1,u18.1,u18.2.1,u18.2.2.1,u18.2.2.2.1,u19.1,u19.2.1,u19.2.2.1,u19.2.2.2.1,u19.2.2.2.2.1,()))
 .ob (idx q9 u1.1) fun e10=>letI u20:=e10.2.2.2.2;letI u21:=u20.2.2.2;letI u22:=u21.2.2.2;letI u23:=u22.2.2.2;letI u24:=u23.2.2.2;letI u25:=u24.2.2.2;
 let q11:=(q9.set (u1.1).toNat (e10.1,e10.2.1,e10.2.2.1,r8.1.1,u20.1,u20.2.1,u20.2.2.1,u21.1,u21.2.1,u21.2.2.1,u22.1,u22.2.1,u22.2.2.1,u23.1,u23.2.1,u23.2.2.1,u24.1,u24.2.1,u24.2.2.1,u25.1,u25.2.1,u25.2.2.1,u25.2.2.2.1,u25.2.2.2.2.1,()))
 .ob (idx q11 u1.1) fun e12=>letI u26:=e12.2.2.2;letI u27:=u26.2.2.2;letI u28:=u27.2.2.2;letI u29:=u28.2.2.2;letI u30:=u29.2.2.2;letI u31:=u30.2.2.2.2;
 .ob (Cn (u26.2.1,()) (i64.wrap (r8.1.1+1),())) fun r13=>
 let q14:=(q11.set (u1.1).toNat (e12.1,e12.2.1,e12.2.2.1,u26.1,r13.2.1,u26.2.2.1,u27.1,u27.2.1,u27.2.2.1,u28.1,u28.2.1,u28.2.2.1,u29.1,u29.2.1,u29.2.2.1,u30.1,u30.2.1,u30.2.2.1,u30.2.2.2.1,u31.1,u31.2.1,u31.2.2.1,u31.2.2.2.1,u31.2.2.2.2.1,()))
 .ob (idx q14 u1.1) fun e15=>letI u32:=e15.2.2;letI u33:=u32.2.2.2.2;letI u34:=u33.2.2.2;letI u35:=u34.2.2.2;letI u36:=u35.2.2.2;letI u37:=u36.2.2.2.2;
 let q16:=(q14.set (u1.1).toNat (e15.1,e15.2.1,u32.1,u32.2.1,u32.2.2.1,r13.1.1,u33.1,u33.2.1,u33.2.2.1,u34.1,u34.2.1,u34.2.2.1,u35.1,u35.2.1,u35.2.2.1,u36.1,u36.2.1,u36.2.2.1,u36.2.2.2.1,u37.1,u37.2.1,u37.2.2.1,u37.2.2.2.1,u37.2.2.2.2.1,()))
 .ob (idx q16 u1.1) fun e17=>letI u38:=e17.2.2.2;letI u39:=u38.2.2.2;letI u40:=u39.2.2.2;letI u41:=u40.2.2.2;letI u42:=u41.2.2.2;letI u43:=u42.2.2.2.2;
 .ob (Cn (u39.1,()) (i64.wrap (r13.1.1+1),())) fun r18=>letI k2:=i64.wrap (r18.1.1+(1:Int));
 let q19:=(q16.set (u1.1).toNat (e17.1,e17.2.1,e17.2.2.1,u38.1,u38.2.1,u38.2.2.1,r18.2.1,u39.2.1,u39.2.2.1,u40.1,u40.2.1,u40.2.2.1,u41.1,u41.2.1,u41.2.2.1,u42.1,u42.2.1,u42.2.2.1,u42.2.2.2.1,u43.1,u43.2.1,u43.2.2.1,u43.2.2.2.1,u43.2.2.2.2.1,()))
 .ob (idx q19 u1.1) fun e20=>letI u44:=e20.2.2.2;letI u45:=u44.2.2.2.2.2;letI u46:=u45.2.2.2;letI u47:=u46.2.2.2;letI u48:=u47.2.2.2;letI u49:=u48.2.2.2;
 let q21:=(q19.set (u1.1).toNat (e20.1,e20.2.1,e20.2.2.1,u44.1,u44.2.1,u44.2.2.1,u44.2.2.2.1,r18.1.1,u45.1,u45.2.1,u45.2.2.1,u46.1,u46.2.1,u46.2.2.1,u47.1,u47.2.1,u47.2.2.1,u48.1,u48.2.1,u48.2.2.1,u49.1,u49.2.1,u49.2.2.1,u49.2.2.2.1,()))
 .ob (idx q21 u1.1) fun e22=>letI u50:=e22.2.2.2.2;letI u51:=u50.2.2.2.2.2;letI u52:=u51.2.2.2;letI u53:=u52.2.2.2;letI u54:=u53.2.2.2.2;
 let q23:=(q21.set (u1.1).toNat (e22.1,e22.2.1,e22.2.2.1,e22.2.2.2.1,u50.1,u50.2.1,u50.2.2.1,u50.2.2.2.1,k2,u51.1,u51.2.1,u51.2.2.1,u52.1,u52.2.1,u52.2.2.1,u53.1,u53.2.1,u53.2.2.1,u53.2.2.2.1,u54.1,u54.2.1,u54.2.2.1,u54.2.2.2.1,u54.2.2.2.2.1,()))
 .ob (idx q23 u1.1) fun e24=>letI u55:=e24.2.2.2;letI u56:=u55.2.2.2;letI u57:=u56.2.2.2;letI u58:=u57.2.2.2;letI u59:=u58.2.2.2;letI u60:=u59.2.2.2.2;
 .ob (Abd (u57.1,()) (i64.wrap (k2+1),())) fun r25=>
 let q26:=(q23.set (u1.1).toNat (e24.1,e24.2.1,e24.2.2.1,u55.1,u55.2.1,u55.2.2.1,u56.1,u56.2.1,u56.2.2.1,r25.2.1,u57.2.1,u57.2.2.1,u58.1,u58.2.1,u58.2.2.1,u59.1,u59.2.1,u59.2.2.1,u59.2.2.2.1,u60.1,u60.2.1,u60.2.2.1,u60.2.2.2.1,u60.2.2.2.2.1,()))
 .ob (idx q26 u1.1) fun e27=>letI u61:=e27.2.2.2;letI u62:=u61.2.2.2;letI u63:=u62.2.2.2.2.2;letI u64:=u63.2.2.2;letI u65:=u64.2.2.2;letI u66:=u65.2.2.2;
 let q28:=(q26.set (u1.1).toNat (e27.1,e27.2.1,e27.2.2.1,u61.1,u61.2.1,u61.2.2.1,u62.1,u62.2.1,u62.2.2.1,u62.2.2.2.1,r25.1.1,u63.1,u63.2.1,u63.2.2.1,u64.1,u64.2.1,u64.2.2.1,u65.1,u65.2.1,u65.2.2.1,u66.1,u66.2.1,u66.2.2.1,u66.2.2.2.1,()))
 .ob (idx q28 u1.1) fun e29=>letI u67:=e29.2.2.2;letI u68:=u67.2.2.2;letI u69:=u68.2.2.2;letI u70:=u69.2.2.2;letI u71:=u70.2.2.2;letI u72:=u71.2.2.2.2;
 .ob (Cn (u69.2.2.1,()) (i64.wrap (r25.1.1+1),())) fun r30=>letI k3:=i64.wrap (r30.1.1+(1:Int));
 let q31:=(q28.set (u1.1).toNat (e29.1,e29.2.1,e29.2.2.1,u67.1,u67.2.1,u67.2.2.1,u68.1,u68.2.1,u68.2.2.1,u69.1,u69.2.1,r30.2.1,u70.1,u70.2.1,u70.2.2.1,u71.1,u71.2.1,u71.2.2.1,u71.2.2.2.1,u72.1,u72.2.1,u72.2.2.1,u72.2.2.2.1,u72.2.2.2.2.1,()))
 .ob (idx q31 u1.1) fun e32=>letI u73:=e32.2.2.2;letI u74:=u73.2.2.2;letI u75:=u74.2.2.2;letI u76:=u75.2.2.2.2;letI u77:=u76.2.2.2;letI u78:=u77.2.2.2;
 let q33:=(q31.set (u1.1).toNat (e32.1,e32.2.1,e32.2.2.1,u73.1,u73.2.1,u73.2.2.1,u74.1,u74.2.1,u74.2.2.1,u75.1,u75.2.1,u75.2.2.1,r30.1.1,u76.1,u76.2.1,u76.2.2.1,u77.1,u77.2.1,u77.2.2.1,u78.1,u78.2.1,u78.2.2.1,u78.2.2.2.1,u78.2.2.2.2.1,()))
 .ob (idx q33 u1.1) fun e34=>letI u79:=e34.2.2.2;letI u80:=u79.2.2.2;letI u81:=u80.2.2.2;letI u82:=u81.2.2.2.2.2;letI u83:=u82.2.2.2;letI u84:=u83.2.2.2;
 let q35:=(q33.set (u1.1).toNat (e34.1,e34.2.1,e34.2.2.1,u79.1,u79.2.1,u79.2.2.1,u80.1,u80.2.1,u80.2.2.1,u81.1,u81.2.1,u81.2.2.1,u81.2.2.2.1,k3,u82.1,u82.2.1,u82.2.2.1,u83.1,u83.2.1,u83.2.2.1,u84.1,u84.2.1,u84.2.2.1,u84.2.2.2.1,()))
 .ob (idx q35 u1.1) fun e36=>letI u85:=e36.2.2.2;letI u86:=u85.2.2.2;letI u87:=u86.2.2.2;letI u88:=u87.2.2.2;letI u89:=u88.2.2.2;letI u90:=u89.2.2.2.2;
 .ob (Abd (u88.2.2.1,()) (i64.wrap (k3+1),())) fun r37=>letI k4:=i64.wrap (r37.1.1+(1:Int));
 let q38:=(q35.set (u1.1).toNat (e36.1,e36.2.1,e36.2.2.1,u85.1,u85.2.1,u85.2.2.1,u86.1,u86.2.1,u86.2.2.1,u87.1,u87.2.1,u87.2.2.1,u88.1,u88.2.1,r37.2.1,u89.1,u89.2.1,u89.2.2.1,u89.2.2.2.1,u90.1,u90.2.1,u90.2.2.1,u90.2.2.2.1,u90.2.2.2.2.1,()))
 .chk (decide (0<=r37.1.1)) <|
 .ob (idx q38 u1.1) fun e39=>letI u91:=e39.2.2.2;letI u92:=u91.2.2.2;letI u93:=u92.2.2.2;letI u94:=u93.2.2.2;letI u95:=u94.2.2.2.2;letI u96:=u95.2.2.2;
 let q40:=(q38.set (u1.1).toNat (e39.1,e39.2.1,e39.2.2.1,u91.1,u91.2.1,u91.2.2.1,u92.1,u92.2.1,u92.2.2.1,u93.1,u93.2.1,u93.2.2.1,u94.1,u94.2.1,u94.2.2.1,(r37.1.1%3)==0,u95.1,u95.2.1,u95.2.2.1,u96.1,u96.2.1,u96.2.2.1,u96.2.2.2.1,u96.2.2.2.2.1,()))
 .ob (idx q40 u1.1) fun e41=>letI u97:=e41.2.2.2;letI u98:=u97.2.2.2;letI u99:=u98.2.2.2;letI u100:=u99.2.2.2;letI u101:=u100.2.2.2.2.2;letI u102:=u101.2.2.2;
 let q42:=(q40.set (u1.1).toNat (e41.1,e41.2.1,e41.2.2.1,u97.1,u97.2.1,u97.2.2.1,u98.1,u98.2.1,u98.2.2.1,u99.1,u99.2.1,u99.2.2.1,u100.1,u100.2.1,u100.2.2.1,u100.2.2.2.1,k4,u101.1,u101.2.1,u101.2.2.1,u102.1,u102.2.1,u102.2.2.1,u102.2.2.2.1,()))
 .ob (idx q42 u1.1) fun e43=>letI u103:=e43.2.2.2;letI u104:=u103.2.2.2;letI u105:=u104.2.2.2;letI u106:=u105.2.2.2;letI u107:=u106.2.2.2;letI u108:=u107.2.2.2.2;
 .ob (Cn (u107.2.2.1,()) (i64.wrap (k4+1),())) fun r44=>letI k5:=i64.wrap (r44.1.1+(1:Int));
 let q45:=(q42.set (u1.1).toNat (e43.1,e43.2.1,e43.2.2.1,u103.1,u103.2.1,u103.2.2.1,u104.1,u104.2.1,u104.2.2.1,u105.1,u105.2.1,u105.2.2.1,u106.1,u106.2.1,u106.2.2.1,u107.1,u107.2.1,r44.2.1,u107.2.2.2.1,u108.1,u108.2.1,u108.2.2.1,u108.2.2.2.1,u108.2.2.2.2.1,()))
 .ob (idx q45 u1.1) fun e46=>letI u109:=e46.2.2.2;letI u110:=u109.2.2.2;letI u111:=u110.2.2.2;letI u112:=u111.2.2.2;letI u113:=u112.2.2.2;letI u114:=u113.2.2.2.2;
 let q47:=(q45.set (u1.1).toNat (e46.1,e46.2.1,e46.2.2.1,u109.1,u109.2.1,u109.2.2.1,u110.1,u110.2.1,u110.2.2.1,u111.1,u111.2.1,u111.2.2.1,u112.1,u112.2.1,u112.2.2.1,u113.1,u113.2.1,u113.2.2.1,r44.1.1,u114.1,u114.2.1,u114.2.2.1,u114.2.2.2.1,u114.2.2.2.2.1,()))
 .ob (idx q47 u1.1) fun e48=>letI u115:=e48.2.2.2;letI u116:=u115.2.2.2;letI u117:=u116.2.2.2;letI u118:=u117.2.2.2;letI u119:=u118.2.2.2;letI u120:=u119.2.2.2.2.2;
 let q49:=(q47.set (u1.1).toNat (e48.1,e48.2.1,e48.2.2.1,u115.1,u115.2.1,u115.2.2.1,u116.1,u116.2.1,u116.2.2.1,u117.1,u117.2.1,u117.2.2.1,u118.1,u118.2.1,u118.2.2.1,u119.1,u119.2.1,u119.2.2.1,u119.2.2.2.1,k5,u120.1,u120.2.1,u120.2.2.1,u120.2.2.2.1,()))
 .ob (idx q49 u1.1) fun e50=>letI u121:=e50.2.2.2;letI u122:=u121.2.2.2;letI u123:=u122.2.2.2;letI u124:=u123.2.2.2;letI u125:=u124.2.2.2;letI u126:=u125.2.2.2.2;
 .ob (Agj (u126.2.1,()) (i64.wrap (k5+1),())) fun r51=>letI k1:=i64.wrap (i64.wrap (r51.1.1+(1:Int))+(1:Int));
 let q52:=(q49.set (u1.1).toNat (e50.1,e50.2.1,e50.2.2.1,u121.1,u121.2.1,u121.2.2.1,u122.1,u122.2.1,u122.2.2.1,u123.1,u123.2.1,u123.2.2.1,u124.1,u124.2.1,u124.2.2.1,u125.1,u125.2.1,u125.2.2.1,u125.2.2.2.1,u126.1,r51.2.1,u126.2.2.1,u126.2.2.2.1,u126.2.2.2.2.1,()))
 .ob (idx q52 u1.1) fun e53=>letI u127:=e53.2.2.2;letI u128:=u127.2.2.2;letI u129:=u128.2.2.2;letI u130:=u129.2.2.2;letI u131:=u130.2.2.2;letI u132:=u131.2.2.2;
 let q54:=(q52.set (u1.1).toNat (e53.1,e53.2.1,e53.2.2.1,u127.1,u127.2.1,u127.2.2.1,u128.1,u128.2.1,u128.2.2.1,u129.1,u129.2.1,u129.2.2.1,u130.1,u130.2.1,u130.2.2.1,u131.1,u131.2.1,u131.2.2.1,u132.1,u132.2.1,u132.2.2.1,r51.1.1,u132.2.2.2.2.1,u132.2.2.2.2.2.1,()))
 .ob (idx q54 u1.1) fun e55=>letI u133:=e55.2.2.2;letI u134:=u133.2.2.2;letI u135:=u134.2.2.2;letI u136:=u135.2.2.2;letI u137:=u136.2.2.2;letI u138:=u137.2.2.2;
 let q56:=(q54.set (u1.1).toNat (e55.1,e55.2.1,e55.2.2.1,u133.1,u133.2.1,u133.2.2.1,u134.1,u134.2.1,u134.2.2.1,u135.1,u135.2.1,u135.2.2.1,u136.1,u136.2.1,u136.2.2.1,u137.1,u137.2.1,u137.2.2.1,u138.1,u138.2.1,u138.2.2.1,u138.2.2.2.1,i64.wrap (r51.1.1+1),u138.2.2.2.2.2.1,()))
 .chk (decide (0<=k1)) <|
 .ob (idx q56 u1.1) fun e57=>letI u139:=e57.2.2.2;letI u140:=u139.2.2.2;letI u141:=u140.2.2.2;letI u142:=u141.2.2.2;letI u143:=u142.2.2.2;letI u144:=u143.2.2.2;
 let q58:=(q56.set (u1.1).toNat (e57.1,e57.2.1,e57.2.2.1,u139.1,u139.2.1,u139.2.2.1,u140.1,u140.2.1,u140.2.2.1,u141.1,u141.2.1,u141.2.2.1,u142.1,u142.2.1,u142.2.2.1,u143.1,u143.2.1,u143.2.2.1,u144.1,u144.2.1,u144.2.2.1,u144.2.2.2.1,u144.2.2.2.2.1,(k1%3)==0,()))
 .leaf (.inl (q58,i64.wrap (k1+1),i64.wrap (u1.1+1),()))) (
 .leaf (.inr (x1.1,x1.2.1,())))
def Af8 (a0:List Al×Unit) (a1:YI):Tree (YI×(List Al×Unit)):=
 .ob (Ax My (a0.1,a1.1,0,())) fun o59=>
 .leaf ((o59.2.1,()),(o59.1,()))
def Agk a0 a1:=(Af8 a0 a1).val
def Aol (a0:B8) (a1:YI):Tree (YI×B8):=
 .ob (Agk (a0.2.1,()) a1) fun r1=>
 .leaf (r1.1,(a0.1,r1.2.1,()))
def Apa a0 a1:=(Aol a0 a1).val
def Ka:Lst (List Ak×Int×Int×Unit) (List Ak×Int×Unit):=fun x1=>
 letI u1:=x1.2.2;letI k1:=i64.wrap (i64.wrap (x1.2.1+(1:Int))+(1:Int));letI k2:=i64.wrap (k1+(1:Int));Tree.val <|
 .br (decide (u1.1<(x1.1.length:Int))) (
 .ob (idx x1.1 u1.1) fun e2=>
 let q3:=(x1.1.set (u1.1).toNat (x1.2.1,e2.2.1,e2.2.2.1,e2.2.2.2.1,()))
 .ob (idx q3 u1.1) fun e4=>
 let q5:=(q3.set (u1.1).toNat (e4.1,i64.wrap (x1.2.1+1),e4.2.2.1,e4.2.2.2.1,()))
 .ob (idx q5 u1.1) fun e6=>
 let q7:=(q5.set (u1.1).toNat (e6.1,e6.2.1,k1,e6.2.2.2.1,()))
 .ob (idx q7 u1.1) fun e8=>
 let q9:=(q7.set (u1.1).toNat (e8.1,e8.2.1,e8.2.2.1,k2,()))
 .leaf (.inl (q9,i64.wrap (k2+1),i64.wrap (u1.1+1),()))) (
 .leaf (.inr (x1.1,x1.2.1,())))
def Aaz (a0:List Ak×Unit) (a1:YI):Tree (YI×(List Ak×Unit)):=
 .ob (Ax Ka (a0.1,a1.1,0,())) fun o10=>
 .leaf ((o10.2.1,()),(o10.1,()))
def Abe a0 a1:=(Aaz a0 a1).val
def Acl (a0:A0) (a1:YI):Tree (YI×A0):=
 letI u1:=a0.2.2.2;.ob (Acy (a0.1,()) a1) fun r1=>
 .ob (Ao9 (a0.2.1,()) r1.1) fun r2=>
 .ob (Akj (a0.2.2.1,u1.1,()) r2.1) fun r3=>
 .ob (Apa (u1.2.1,u1.2.2.1,()) r3.1) fun r4=>
 .ob (Abe (u1.2.2.2.1,()) r4.1) fun r5=>
 .leaf (r5.1,(r1.2.1,r2.2.1,r3.2.1,u1.1,u1.2.1,r4.2.2.1,r5.2.1,()))
def U7 a0 a1:=(Acl a0 a1).val
def O9:Lst (List Au×Int×Int×Unit) (List Au×Int×Unit):=fun x1=>
 letI u1:=x1.2.2;letI k1:=i64.wrap (i64.wrap (x1.2.1+(1:Int))+(1:Int));letI k3:=i64.wrap (k1+(1:Int));Tree.val <|
 .br (decide (u1.1<(x1.1.length:Int))) (
 .ob (idx x1.1 u1.1) fun e2=>letI u2:=e2.2.2.2;letI u3:=u2.2.2.2;letI u4:=u3.2.2.2;
 let q3:=(x1.1.set (u1.1).toNat (x1.2.1,e2.2.1,e2.2.2.1,u2.1,u2.2.1,u2.2.2.1,u3.1,u3.2.1,u3.2.2.1,u4.1,u4.2.1,u4.2.2.1,u4.2.2.2.1,()))
 .ob (idx q3 u1.1) fun e4=>letI u5:=e4.2.2.2;letI u6:=u5.2.2.2;letI u7:=u6.2.2.2;
 let q5:=(q3.set (u1.1).toNat (e4.1,i64.wrap (x1.2.1+1),e4.2.2.1,u5.1,u5.2.1,u5.2.2.1,u6.1,u6.2.1,u6.2.2.1,u7.1,u7.2.1,u7.2.2.1,u7.2.2.2.1,()))
 .ob (idx q5 u1.1) fun e6=>letI u8:=e6.2.2.2;letI u9:=u8.2.2.2;letI u10:=u9.2.2.2;
 let q7:=(q5.set (u1.1).toNat (e6.1,e6.2.1,k1,u8.1,u8.2.1,u8.2.2.1,u9.1,u9.2.1,u9.2.2.1,u10.1,u10.2.1,u10.2.2.1,u10.2.2.2.1,()))
 .ob (idx q7 u1.1) fun e8=>letI u11:=e8.2.2.2.2;letI u12:=u11.2.2.2.2;
 let q9:=(q7.set (u1.1).toNat (e8.1,e8.2.1,e8.2.2.1,k3,u11.1,u11.2.1,u11.2.2.1,u11.2.2.2.1,u12.1,u12.2.1,u12.2.2.1,u12.2.2.2.1,u12.2.2.2.2.1,()))
 .ob (idx q9 u1.1) fun e10=>letI u13:=e10.2.2.2;letI u14:=u13.2.2.2;letI u15:=u14.2.2.2;
 .ob (Cn (u13.2.1,()) (i64.wrap (k3+1),())) fun r11=>
 let q12:=(q9.set (u1.1).toNat (e10.1,e10.2.1,e10.2.2.1,u13.1,r11.2.1,u13.2.2.1,u14.1,u14.2.1,u14.2.2.1,u15.1,u15.2.1,u15.2.2.1,u15.2.2.2.1,()))
 .ob (idx q12 u1.1) fun e13=>letI u16:=e13.2.2.2;letI u17:=u16.2.2.2;letI u18:=u17.2.2.2;
 .ob (Cn (u16.2.2.1,()) r11.1) fun r14=>
 let q15:=(q12.set (u1.1).toNat (e13.1,e13.2.1,e13.2.2.1,u16.1,u16.2.1,r14.2.1,u17.1,u17.2.1,u17.2.2.1,u18.1,u18.2.1,u18.2.2.1,u18.2.2.2.1,()))
 .ob (idx q15 u1.1) fun e16=>letI u19:=e16.2.2.2;letI u20:=u19.2.2.2.2;
 let q17:=(q15.set (u1.1).toNat (e16.1,e16.2.1,e16.2.2.1,u19.1,u19.2.1,u19.2.2.1,r14.1.1,u20.1,u20.2.1,u20.2.2.1,u20.2.2.2.1,u20.2.2.2.2.1,u20.2.2.2.2.2.1,()))
 .ob (idx q17 u1.1) fun e18=>letI u21:=e18.2.2.2;letI u22:=u21.2.2.2;letI u23:=u22.2.2.2;
 .ob (Cn (u22.2.1,()) (i64.wrap (r14.1.1+1),())) fun r19=>
 let q20:=(q17.set (u1.1).toNat (e18.1,e18.2.1,e18.2.2.1,u21.1,u21.2.1,u21.2.2.1,u22.1,r19.2.1,u22.2.2.1,u23.1,u23.2.1,u23.2.2.1,u23.2.2.2.1,()))
 .ob (idx q20 u1.1) fun e21=>letI u24:=e21.2.2.2;letI u25:=u24.2.2.2;letI u26:=u25.2.2.2;
 .ob (Cn (u25.2.2.1,()) r19.1) fun r22=>letI k2:=i64.wrap (r22.1.1+(1:Int));
 let q23:=(q20.set (u1.1).toNat (e21.1,e21.2.1,e21.2.2.1,u24.1,u24.2.1,u24.2.2.1,u25.1,u25.2.1,r22.2.1,u26.1,u26.2.1,u26.2.2.1,u26.2.2.2.1,()))
 .ob (idx q23 u1.1) fun e24=>letI u27:=e24.2.2.2;letI u28:=u27.2.2.2;letI u29:=u28.2.2.2.2;
 let q25:=(q23.set (u1.1).toNat (e24.1,e24.2.1,e24.2.2.1,u27.1,u27.2.1,u27.2.2.1,u28.1,u28.2.1,u28.2.2.1,r22.1.1,u29.1,u29.2.1,u29.2.2.1,()))
 .ob (idx q25 u1.1) fun e26=>letI u30:=e26.2.2.2;letI u31:=u30.2.2.2.2;
 let q27:=(q25.set (u1.1).toNat (e26.1,e26.2.1,e26.2.2.1,u30.1,u30.2.1,u30.2.2.1,u30.2.2.2.1,u31.1,u31.2.1,u31.2.2.1,k2,u31.2.2.2.2.1,u31.2.2.2.2.2.1,()))
 .ob (idx q27 u1.1) fun e28=>letI u32:=e28.2.2.2;letI u33:=u32.2.2.2;letI u34:=u33.2.2.2;
 .ob (Cn (u34.2.2.1,()) (i64.wrap (k2+1),())) fun r29=>
 let q30:=(q27.set (u1.1).toNat (e28.1,e28.2.1,e28.2.2.1,u32.1,u32.2.1,u32.2.2.1,u33.1,u33.2.1,u33.2.2.1,u34.1,u34.2.1,r29.2.1,u34.2.2.2.1,()))
 .ob (idx q30 u1.1) fun e31=>letI u35:=e31.2.2.2;letI u36:=u35.2.2.2;letI u37:=u36.2.2.2;
 .ob (Cn (u37.2.2.2.1,()) r29.1) fun r32=>
 let q33:=(q30.set (u1.1).toNat (e31.1,e31.2.1,e31.2.2.1,u35.1,u35.2.1,u35.2.2.1,u36.1,u36.2.1,u36.2.2.1,u37.1,u37.2.1,u37.2.2.1,r32.2.1,()))
 .leaf (.inl (q33,r32.1.1,i64.wrap (u1.1+1),()))) (
 .leaf (.inr (x1.1,x1.2.1,())))
def Ajs (a0:List Au×Unit) (a1:YI):Tree (YI×(List Au×Unit)):=
 .ob (Ax O9 (a0.1,a1.1,0,())) fun o34=>
 .leaf ((o34.2.1,()),(o34.1,()))
def Akk a0 a1:=(Ajs a0 a1).val
def Mz:Lst (List Am×Int×Int×Unit) (List Am×Int×Unit):=fun x1=>
 letI u1:=x1.2.2;letI k2:=i64.wrap (x1.2.1+(1:Int));letI k4:=i64.wrap (k2+(1:Int));Tree.val <|
 .br (decide (u1.1<(x1.1.length:Int))) (
 .ob (idx x1.1 u1.1) fun e2=>letI u2:=e2.2.2.2;letI u3:=u2.2.2.2.2;
 let q3:=(x1.1.set (u1.1).toNat (x1.2.1,e2.2.1,e2.2.2.1,u2.1,u2.2.1,u2.2.2.1,u2.2.2.2.1,u3.1,u3.2.1,u3.2.2.1,u3.2.2.2.1,u3.2.2.2.2.1,()))
 .ob (idx q3 u1.1) fun e4=>letI u4:=e4.2.2.2;letI u5:=u4.2.2.2.2;
 let q5:=(q3.set (u1.1).toNat (e4.1,k2,e4.2.2.1,u4.1,u4.2.1,u4.2.2.1,u4.2.2.2.1,u5.1,u5.2.1,u5.2.2.1,u5.2.2.2.1,u5.2.2.2.2.1,()))
 .ob (idx q5 u1.1) fun e6=>letI u6:=e6.2.2.2;letI u7:=u6.2.2.2.2;
 let q7:=(q5.set (u1.1).toNat (e6.1,e6.2.1,k4,u6.1,u6.2.1,u6.2.2.1,u6.2.2.2.1,u7.1,u7.2.1,u7.2.2.1,u7.2.2.2.1,u7.2.2.2.2.1,()))
 .ob (idx q7 u1.1) fun e8=>letI u8:=e8.2.2.2;letI u9:=u8.2.2.2.2;
 .ob (Cn (u8.1,()) (i64.wrap (k4+1),())) fun r9=>
 let q10:=(q7.set (u1.1).toNat (e8.1,e8.2.1,e8.2.2.1,r9.2.1,u8.2.1,u8.2.2.1,u8.2.2.2.1,u9.1,u9.2.1,u9.2.2.1,u9.2.2.2.1,u9.2.2.2.2.1,()))
 .ob (idx q10 u1.1) fun e11=>letI u10:=e11.2.2.2;letI u11:=u10.2.2.2.2;
 .ob (Cn (u10.2.1,()) r9.1) fun r12=>letI k3:=i64.wrap (r12.1.1+(1:Int));
 let q13:=(q10.set (u1.1).toNat (e11.1,e11.2.1,e11.2.2.1,u10.1,r12.2.1,u10.2.2.1,u10.2.2.2.1,u11.1,u11.2.1,u11.2.2.1,u11.2.2.2.1,u11.2.2.2.2.1,()))
 .ob (idx q13 u1.1) fun e14=>letI u12:=e14.2.2.2;letI u13:=u12.2.2.2.2;
 let q15:=(q13.set (u1.1).toNat (e14.1,e14.2.1,e14.2.2.1,u12.1,u12.2.1,r12.1.1,u12.2.2.2.1,u13.1,u13.2.1,u13.2.2.1,u13.2.2.2.1,u13.2.2.2.2.1,()))
 .ob (idx q15 u1.1) fun e16=>letI u14:=e16.2.2.2;letI u15:=u14.2.2.2.2;
 let q17:=(q15.set (u1.1).toNat (e16.1,e16.2.1,e16.2.2.1,u14.1,u14.2.1,u14.2.2.1,k3,u15.1,u15.2.1,u15.2.2.1,u15.2.2.2.1,u15.2.2.2.2.1,()))
 .ob (idx q17 u1.1) fun e18=>letI u16:=e18.2.2.2;letI u17:=u16.2.2.2.2;
 .ob (Cn (u17.1,()) (i64.wrap (k3+1),())) fun r19=>
 let q20:=(q17.set (u1.1).toNat (e18.1,e18.2.1,e18.2.2.1,u16.1,u16.2.1,u16.2.2.1,u16.2.2.2.1,r19.2.1,u17.2.1,u17.2.2.1,u17.2.2.2.1,u17.2.2.2.2.1,()))
 .ob (idx q20 u1.1) fun e21=>letI u18:=e21.2.2.2;letI u19:=u18.2.2.2.2;
 .ob (Cn (u19.2.1,()) r19.1) fun r22=>letI k1:=i64.wrap (r22.1.1+(1:Int));letI k5:=i64.wrap (k1+(1:Int));
 let q23:=(q20.set (u1.1).toNat (e21.1,e21.2.1,e21.2.2.1,u18.1,u18.2.1,u18.2.2.1,u18.2.2.2.1,u19.1,r22.2.1,u19.2.2.1,u19.2.2.2.1,u19.2.2.2.2.1,()))
 .ob (idx q23 u1.1) fun e24=>letI u20:=e24.2.2.2;letI u21:=u20.2.2.2;
 let q25:=(q23.set (u1.1).toNat (e24.1,e24.2.1,e24.2.2.1,u20.1,u20.2.1,u20.2.2.1,u21.1,u21.2.1,u21.2.2.1,r22.1.1,u21.2.2.2.2.1,u21.2.2.2.2.2.1,()))
 .ob (idx q25 u1.1) fun e26=>letI u22:=e26.2.2.2;letI u23:=u22.2.2.2;
 let q27:=(q25.set (u1.1).toNat (e26.1,e26.2.1,e26.2.2.1,u22.1,u22.2.1,u22.2.2.1,u23.1,u23.2.1,u23.2.2.1,u23.2.2.2.1,k1,u23.2.2.2.2.2.1,()))
 .ob (idx q27 u1.1) fun e28=>letI u24:=e28.2.2.2;letI u25:=u24.2.2.2;
 let q29:=(q27.set (u1.1).toNat (e28.1,e28.2.1,e28.2.2.1,u24.1,u24.2.1,u24.2.2.1,u25.1,u25.2.1,u25.2.2.1,u25.2.2.2.1,u25.2.2.2.2.1,k5,()))
 .leaf (.inl (q29,i64.wrap (k5+1),i64.wrap (u1.1+1),()))) (
 .leaf (.inr (x1.1,x1.2.1,())))
def Af9 (a0:List Am×Unit) (a1:YI):Tree (YI×(List Am×Unit)):=
 .ob (Ax Mz (a0.1,a1.1,0,())) fun o30=>
 .leaf ((o30.2.1,()),(o30.1,()))
def Agl a0 a1:=(Af9 a0 a1).val
def M0:Lst (Ba9) (YI⊕YI):=fun x1=>
 Tree.val <|
 .br (decide (x1.2.2.1<(x1.1.length:Int))) (
 .ob (idx x1.1 x1.2.2.1) fun e2=>
 .br (e2.1 != u8.wrap x1.2.1) (
 .leaf (.inr (.inl (-1,())))) (
 .leaf (.inl (x1.1,i64.wrap (x1.2.1+1),i64.wrap (x1.2.2.1+1),())))) (
 .leaf (.inr (.inr (x1.2.1,()))))
def Aga (a0:YBs) (a1:YI):Tree (YI):=
 .ob (Ax M0 (a0.1,a1.1,0,())) fun o3=>
 .sm o3 (fun o4=>
 .leaf o4) (fun o5=>
 .leaf o5)
def Ct a0 a1:=(Aga a0 a1).val
def Lr:Lst (List YBs×Int×Int×Unit) (YI⊕YI):=fun x1=>
 Tree.val <|
 .br (decide (x1.2.2.1<(x1.1.length:Int))) (
 .ob (idx x1.1 x1.2.2.1) fun e2=>
 .ob (Ct e2 (x1.2.1,())) fun r3=>
 .br (decide (r3.1<0)) (
 .leaf (.inr (.inl (-1,())))) (
 .leaf (.inl (x1.1,r3.1,i64.wrap (x1.2.2.1+1),())))) (
 .leaf (.inr (.inr (x1.2.1,()))))
def Acm (a0:List YBs×Unit) (a1:YI):Tree (YI):=
 .ob (Ax Lr (a0.1,a1.1,0,())) fun o4=>
 .sm o4 (fun o5=>
 .leaf o5) (fun o6=>
 .leaf o6)
def Acz a0 a1:=(Acm a0 a1).val
def Aom (a0:YBs) (a1:YI):Tree (YI):=
 .ob (Ct a0 a1) fun r1=>
 .br (decide (r1.1<0)) (
 .leaf (-1,())) (
 .leaf r1)
def Aei a0 a1:=(Aom a0 a1).val
def Ajt (a0:C7) (a1:YI):Tree (YI):=
 .ob (Ct (a0.1,()) a1) fun r1=>
 .br (decide (r1.1<0)) (
 .leaf (-1,())) (
 .leaf r1)
def Abf a0 a1:=(Ajt a0 a1).val
def Pa:Lst (List YI×Int×Int×Unit) (YI⊕YI):=fun x1=>
 Tree.val <|
 .br (decide (x1.2.2.1<(x1.1.length:Int))) (
 .ob (idx x1.1 x1.2.2.1) fun e2=>
 .br (e2.1 != x1.2.1) (
 .leaf (.inr (.inl (-1,())))) (
 .leaf (.inl (x1.1,i64.wrap (x1.2.1+1),i64.wrap (x1.2.2.1+1),())))) (
 .leaf (.inr (.inr (x1.2.1,()))))
def Aju (a0:List YI×Unit) (a1:YI):Tree (YI):=
 .ob (Ax Pa (a0.1,a1.1,0,())) fun o3=>
 .sm o3 (fun o4=>
 .leaf o4) (fun o5=>
 .leaf o5)
def Abg a0 a1:=(Aju a0 a1).val
def M4:Lst (List Av×Int×Int×Unit) (YI⊕YI):=fun x1=>
 letI u1:=x1.2.2;letI k1:=idx x1.1 u1.1;letI k2:=i64.wrap (x1.2.1+(1:Int));Tree.val <|
 .br (decide (u1.1<(x1.1.length:Int))) (
 .ob k1 fun e2=>
 .br (e2.1 != x1.2.1) (
 .leaf (.inr (.inl (-1,())))) (
 .ob k1 fun e3=>
 .br (e3.2.1 != k2) (
 .leaf (.inr (.inl (-1,())))) (
 .ob k1 fun e4=>
 .ob (Ct (e4.2.2.1,()) (i64.wrap (k2+1),())) fun r5=>
 .br (decide (r5.1<0)) (
 .leaf (.inr (.inl (-1,())))) (
 .ob k1 fun e6=>
 .br (e6.2.2.2.1 != r5.1) (
 .leaf (.inr (.inl (-1,())))) (
 .leaf (.inl (x1.1,i64.wrap (r5.1+1),i64.wrap (u1.1+1),()))))))) (
 .leaf (.inr (.inr (x1.2.1,()))))
def Agb (a0:List Av×Unit) (a1:YI):Tree (YI):=
 .ob (Ax M4 (a0.1,a1.1,0,())) fun o7=>
 .sm o7 (fun o8=>
 .leaf o8) (fun o9=>
 .leaf o9)
def Agm a0 a1:=(Agb a0 a1).val
def M5:Lst (List Al×Int×Int×Unit) (YI⊕YI):=fun x1=>
 letI u1:=x1.2.2;letI k1:=idx x1.1 u1.1;Tree.val <|
 .br (decide (u1.1<(x1.1.length:Int))) (
 .ob k1 fun e2=>
 .br (e2.1 != x1.2.1) (
 .leaf (.inr (.inl (-1,())))) (
 .ob k1 fun e3=>
 .ob (Ct (e3.2.1,()) (i64.wrap (x1.2.1+1),())) fun r4=>
 .br (decide (r4.1<0)) (
 .leaf (.inr (.inl (-1,())))) (
 .ob k1 fun e5=>
 .ob (Ct (e5.2.2.1,()) r4) fun r6=>
 .br (decide (r6.1<0)) (
 .leaf (.inr (.inl (-1,())))) (
 .ob k1 fun e7=>
 .br (e7.2.2.2.1 != r6.1) (
 .leaf (.inr (.inl (-1,())))) (
 .ob k1 fun e8=>
 .ob (Ct (e8.2.2.2.2.1,()) (i64.wrap (r6.1+1),())) fun r9=>
 .br (decide (r9.1<0)) (
 .leaf (.inr (.inl (-1,())))) (
 .ob k1 fun e10=>
 .br (e10.2.2.2.2.2.1 != r9.1) (
 .leaf (.inr (.inl (-1,())))) (
 .ob k1 fun e11=>
 .ob (Ct (e11.2.2.2.2.2.2.1,()) (i64.wrap (r9.1+1),())) fun r12=>letI k3:=i64.wrap (r12.1+(1:Int));
 .br (decide (r12.1<0)) (
 .leaf (.inr (.inl (-1,())))) (
 .ob k1 fun e13=>
 .br (e13.2.2.2.2.2.2.2.1 != r12.1) (
 .leaf (.inr (.inl (-1,())))) (
 .ob k1 fun e14=>
 .br (e14.2.2.2.2.2.2.2.2.1 != k3) (
 .leaf (.inr (.inl (-1,())))) (
 .ob k1 fun e15=>
 .ob (Abg (e15.2.2.2.2.2.2.2.2.2.1,()) (i64.wrap (k3+1),())) fun r16=>
 .br (decide (r16.1<0)) (
 .leaf (.inr (.inl (-1,())))) (
 .ob k1 fun e17=>
 .br (e17.2.2.2.2.2.2.2.2.2.2.1 != r16.1) (
 .leaf (.inr (.inl (-1,())))) (
 .ob k1 fun e18=>
 .ob (Ct (e18.2.2.2.2.2.2.2.2.2.2.2.1,()) (i64.wrap (r16.1+1),())) fun r19=>letI k4:=i64.wrap (r19.1+(1:Int));
 .br (decide (r19.1<0)) (
 .leaf (.inr (.inl (-1,())))) (
 .ob k1 fun e20=>
 .br (e20.2.2.2.2.2.2.2.2.2.2.2.2.1 != r19.1) (
 .leaf (.inr (.inl (-1,())))) (
 .ob k1 fun e21=>
 .br (e21.2.2.2.2.2.2.2.2.2.2.2.2.2.1 != k4) (
 .leaf (.inr (.inl (-1,())))) (
 .ob k1 fun e22=>
 .ob (Abg (e22.2.2.2.2.2.2.2.2.2.2.2.2.2.2.1,()) (i64.wrap (k4+1),())) fun r23=>letI k5:=i64.wrap (r23.1+(1:Int));
 .br (decide (r23.1<0)) (
 .leaf (.inr (.inl (-1,())))) (
 .ob k1 fun e24=>
 .chk (decide (0<=r23.1)) <|
 .br (!(e24.2.2.2.2.2.2.2.2.2.2.2.2.2.2.2.1==((r23.1%3)==0))) (
 .leaf (.inr (.inl (-1,())))) (
 .ob k1 fun e25=>
 .br (e25.2.2.2.2.2.2.2.2.2.2.2.2.2.2.2.2.1 != k5) (
 .leaf (.inr (.inl (-1,())))) (
 .ob k1 fun e26=>
 .ob (Ct (e26.2.2.2.2.2.2.2.2.2.2.2.2.2.2.2.2.2.1,()) (i64.wrap (k5+1),())) fun r27=>letI k6:=i64.wrap (r27.1+(1:Int));
 .br (decide (r27.1<0)) (
 .leaf (.inr (.inl (-1,())))) (
 .ob k1 fun e28=>
 .br (e28.2.2.2.2.2.2.2.2.2.2.2.2.2.2.2.2.2.2.1 != r27.1) (
 .leaf (.inr (.inl (-1,())))) (
 .ob k1 fun e29=>
 .br (e29.2.2.2.2.2.2.2.2.2.2.2.2.2.2.2.2.2.2.2.1 != k6) (
 .leaf (.inr (.inl (-1,())))) (
 .ob k1 fun e30=>
 .ob (Agm (e30.2.2.2.2.2.2.2.2.2.2.2.2.2.2.2.2.2.2.2.2.1,()) (i64.wrap (k6+1),())) fun r31=>letI k2:=i64.wrap (i64.wrap (r31.1+(1:Int))+(1:Int));
 .br (decide (r31.1<0)) (
 .leaf (.inr (.inl (-1,())))) (
 .ob k1 fun e32=>
 .br (e32.2.2.2.2.2.2.2.2.2.2.2.2.2.2.2.2.2.2.2.2.2.1 != r31.1) (
 .leaf (.inr (.inl (-1,())))) (
 .ob k1 fun e33=>
 .br (e33.2.2.2.2.2.2.2.2.2.2.2.2.2.2.2.2.2.2.2.2.2.2.1 != i64.wrap (r31.1+1)) (
 .leaf (.inr (.inl (-1,())))) (
 .ob k1 fun e34=>
 .chk (decide (0<=k2)) <|
 .br (!(e34.2.2.2.2.2.2.2.2.2.2.2.2.2.2.2.2.2.2.2.2.2.2.2.1==((k2%3)==0))) (
 .leaf (.inr (.inl (-1,())))) (
 .leaf (.inl (x1.1,i64.wrap (k2+1),i64.wrap (u1.1+1),()))))))))))))))))))))))))))) (
 .leaf (.inr (.inr (x1.2.1,()))))
def Agc (a0:List Al×Unit) (a1:YI):Tree (YI):=
 .ob (Ax M5 (a0.1,a1.1,0,())) fun o35=>
 .sm o35 (fun o36=>
 .leaf o36) (fun o37=>
 .leaf o37)
def Agn a0 a1:=(Agc a0 a1).val
def Aon (a0:B8) (a1:YI):Tree (YI):=
 .ob (Agn (a0.2.1,()) a1) fun r1=>
 .br (decide (r1.1<0)) (
 .leaf (-1,())) (
 .leaf r1)
def Aej a0 a1:=(Aon a0 a1).val
def Kb:Lst (List Ak×Int×Int×Unit) (YI⊕YI):=fun x1=>
 letI u1:=x1.2.2;letI k1:=i64.wrap (i64.wrap (x1.2.1+(1:Int))+(1:Int));letI k2:=idx x1.1 u1.1;letI k3:=i64.wrap (k1+(1:Int));Tree.val <|
 .br (decide (u1.1<(x1.1.length:Int))) (
 .ob k2 fun e2=>
 .br (e2.1 != x1.2.1) (
 .leaf (.inr (.inl (-1,())))) (
 .ob k2 fun e3=>
 .br (e3.2.1 != i64.wrap (x1.2.1+1)) (
 .leaf (.inr (.inl (-1,())))) (
 .ob k2 fun e4=>
 .br (e4.2.2.1 != k1) (
 .leaf (.inr (.inl (-1,())))) (
 .ob k2 fun e5=>
 .br (e5.2.2.2.1 != k3) (
 .leaf (.inr (.inl (-1,())))) (
 .leaf (.inl (x1.1,i64.wrap (k3+1),i64.wrap (u1.1+1),()))))))) (
 .leaf (.inr (.inr (x1.2.1,()))))
def Aa0 (a0:List Ak×Unit) (a1:YI):Tree (YI):=
 .ob (Ax Kb (a0.1,a1.1,0,())) fun o6=>
 .sm o6 (fun o7=>
 .leaf o7) (fun o8=>
 .leaf o8)
def Abh a0 a1:=(Aa0 a0 a1).val
def Acn (a0:A0) (a1:YI):Tree (YI):=
 letI u1:=a0.2.2.2;.ob (Acz (a0.1,()) a1) fun r1=>
 .br (decide (r1.1<0)) (
 .leaf (-1,())) (
 .ob (Aei (a0.2.1,()) r1) fun r2=>
 .br (decide (r2.1<0)) (
 .leaf (-1,())) (
 .ob (Abf (a0.2.2.1,u1.1,()) r2) fun r3=>
 .br (decide (r3.1<0)) (
 .leaf (-1,())) (
 .ob (Aej (u1.2.1,u1.2.2.1,()) r3) fun r4=>
 .br (decide (r4.1<0)) (
 .leaf (-1,())) (
 .ob (Abh (u1.2.2.2.1,()) r4) fun r5=>
 .br (decide (r5.1<0)) (
 .leaf (-1,())) (
 .leaf r5)))))
def U8 a0 a1:=(Acn a0 a1).val
def Pb:Lst (List Au×Int×Int×Unit) (YI⊕YI):=fun x1=>
 letI u1:=x1.2.2;letI k1:=idx x1.1 u1.1;letI k2:=i64.wrap (i64.wrap (x1.2.1+(1:Int))+(1:Int));letI k4:=i64.wrap (k2+(1:Int));Tree.val <|
 .br (decide (u1.1<(x1.1.length:Int))) (
 .ob k1 fun e2=>
 .br (e2.1 != x1.2.1) (
 .leaf (.inr (.inl (-1,())))) (
 .ob k1 fun e3=>
 .br (e3.2.1 != i64.wrap (x1.2.1+1)) (
 .leaf (.inr (.inl (-1,())))) (
 .ob k1 fun e4=>
 .br (e4.2.2.1 != k2) (
 .leaf (.inr (.inl (-1,())))) (
 .ob k1 fun e5=>
 .br (e5.2.2.2.1 != k4) (
 .leaf (.inr (.inl (-1,())))) (
 .ob k1 fun e6=>
 .ob (Ct (e6.2.2.2.2.1,()) (i64.wrap (k4+1),())) fun r7=>
 .br (decide (r7.1<0)) (
 .leaf (.inr (.inl (-1,())))) (
 .ob k1 fun e8=>
 .ob (Ct (e8.2.2.2.2.2.1,()) r7) fun r9=>
 .br (decide (r9.1<0)) (
 .leaf (.inr (.inl (-1,())))) (
 .ob k1 fun e10=>
 .br (e10.2.2.2.2.2.2.1 != r9.1) (
 .leaf (.inr (.inl (-1,())))) (
 .ob k1 fun e11=>
 .ob (Ct (e11.2.2.2.2.2.2.2.1,()) (i64.wrap (r9.1+1),())) fun r12=>
 .br (decide (r12.1<0)) (
 .leaf (.inr (.inl (-1,())))) (
 .ob k1 fun e13=>
 .ob (Ct (e13.2.2.2.2.2.2.2.2.1,()) r12) fun r14=>letI k3:=i64.wrap (r14.1+(1:Int));
 .br (decide (r14.1<0)) (
 .leaf (.inr (.inl (-1,())))) (
 .ob k1 fun e15=>
 .br (e15.2.2.2.2.2.2.2.2.2.1 != r14.1) (
 .leaf (.inr (.inl (-1,())))) (
 .ob k1 fun e16=>
 .br (e16.2.2.2.2.2.2.2.2.2.2.1 != k3) (
 .leaf (.inr (.inl (-1,())))) (
 .ob k1 fun e17=>
 .ob (Ct (e17.2.2.2.2.2.2.2.2.2.2.2.1,()) (i64.wrap (k3+1),())) fun r18=>
 .br (decide (r18.1<0)) (
 .leaf (.inr (.inl (-1,())))) (
 .ob k1 fun e19=>
 .ob (Ct (e19.2.2.2.2.2.2.2.2.2.2.2.2.1,()) r18) fun r20=>
 .br (decide (r20.1<0)) (
 .leaf (.inr (.inl (-1,())))) (
 .leaf (.inl (x1.1,r20.1,i64.wrap (u1.1+1),())))))))))))))))) (
 .leaf (.inr (.inr (x1.2.1,()))))
def Ajv (a0:List Au×Unit) (a1:YI):Tree (YI):=
 .ob (Ax Pb (a0.1,a1.1,0,())) fun o21=>
 .sm o21 (fun o22=>
 .leaf o22) (fun o23=>
 .leaf o23)
def Abi a0 a1:=(Ajv a0 a1).val
def M6:Lst (List Am×Int×Int×Unit) (YI⊕YI):=fun x1=>
 letI u1:=x1.2.2;letI k1:=idx x1.1 u1.1;letI k2:=i64.wrap (x1.2.1+(1:Int));letI k5:=i64.wrap (k2+(1:Int));Tree.val <|
 .br (decide (u1.1<(x1.1.length:Int))) (
 .ob k1 fun e2=>
 .br (e2.1 != x1.2.1) (
 .leaf (.inr (.inl (-1,())))) (
 .ob k1 fun e3=>
 .br (e3.2.1 != k2) (
 .leaf (.inr (.inl (-1,())))) (
 .ob k1 fun e4=>
 .br (e4.2.2.1 != k5) (
 .leaf (.inr (.inl (-1,())))) (
 .ob k1 fun e5=>
 .ob (Ct (e5.2.2.2.1,()) (i64.wrap (k5+1),())) fun r6=>
 .br (decide (r6.1<0)) (
 .leaf (.inr (.inl (-1,())))) (
 .ob k1 fun e7=>
 .ob (Ct (e7.2.2.2.2.1,()) r6) fun r8=>letI k4:=i64.wrap (r8.1+(1:Int));
 .br (decide (r8.1<0)) (
 .leaf (.inr (.inl (-1,())))) (
 .ob k1 fun e9=>
 .br (e9.2.2.2.2.2.1 != r8.1) (
 .leaf (.inr (.inl (-1,())))) (
 .ob k1 fun e10=>
 .br (e10.2.2.2.2.2.2.1 != k4) (
 .leaf (.inr (.inl (-1,())))) (
 .ob k1 fun e11=>
 .ob (Ct (e11.2.2.2.2.2.2.2.1,()) (i64.wrap (k4+1),())) fun r12=>
 .br (decide (r12.1<0)) (
 .leaf (.inr (.inl (-1,())))) (
 .ob k1 fun e13=>
 .ob (Ct (e13.2.2.2.2.2.2.2.2.1,()) r12) fun r14=>letI k3:=i64.wrap (r14.1+(1:Int));letI k6:=i64.wrap (k3+(1:Int));
 .br (decide (r14.1<0)) (
 .leaf (.inr (.inl (-1,())))) (
 .ob k1 fun e15=>
 .br (e15.2.2.2.2.2.2.2.2.2.1 != r14.1) (
 .leaf (.inr (.inl (-1,())))) (
 .ob k1 fun e16=>
 .br (e16.2.2.2.2.2.2.2.2.2.2.1 != k3) (
 .leaf (.inr (.inl (-1,())))) (
 .ob k1 fun e17=>
 .br (e17.2.2.2.2.2.2.2.2.2.2.2.1 != k6) (
 .leaf (.inr (.inl (-1,())))) (
 .leaf (.inl (x1.1,i64.wrap (k6+1),i64.wrap (u1.1+1),()))))))))))))))) (
 .leaf (.inr (.inr (x1.2.1,()))))
def Agd (a0:List Am×Unit) (a1:YI):Tree (YI):=
 .ob (Ax M6 (a0.1,a1.1,0,())) fun o18=>
 .sm o18 (fun o19=>
 .leaf o19) (fun o20=>
 .leaf o20)
def W8 a0 a1:=(Agd a0 a1).val
def Ho (a0:A0) (a1:YI) (a2:A6) (a3:YBs):Tree (Bool×Unit):=
 .br (decide ((a3.1.length:Int)>1048576)) (
 .leaf (true,())) (
 .ob (Ajx a0 (1048576,())) fun r1=>
 .br (decide (r1.1<0)) (
 .leaf (true,())) (
 .ob (Pc a0) fun r2=>
 .ob (M7 a2) fun r3=>
 .ob (Ev a3) fun r4=>
 .ob (Acp r2 a1 r3 r4) fun r5=>
 .ob (Pc a0) fun r6=>
 .ob (Ev a3) fun r7=>
 .ob (M7 a2) fun r8=>
 .ob (U6 r6 a1 r8 r7) fun r9=>letI u1:=r9.1.2.2.2;
 .ob (Pi r9.1 r5.1) fun r10=>
 .br (!r10.1) (
 .leaf (false,())) (
 .ob (Abc r9.2.1 r5.2.1) fun r11=>
 .br (!r11.1) (
 .leaf (false,())) (
 .ob (We r9.2.2 r5.2.2) fun r12=>
 .br (!r12.1) (
 .leaf (false,())) (
 .ob (Pc a0) fun r13=>
 .ob (Pi r6 r13) fun r14=>
 .br (!r14.1) (
 .leaf (false,())) (
 .ob (Ev a3) fun r15=>
 .ob (De r7 r15) fun r16=>
 .br (!r16.1) (
 .leaf (false,())) (
 .ob (U7 r6 (1,())) fun r17=>
 .ob (Cn r7 r17.1) fun r18=>
 .br (decide (r18.1.1<0)) (
 .leaf (false,())) (
 .ob (Pi r9.1 r5.1) fun r19=>
 .br (!r19.1) (
 .leaf (false,())) (
 .ob (Abc r9.2.1 r5.2.1) fun r20=>
 .br (!r20.1) (
 .leaf (false,())) (
 .ob (We r9.2.2 r5.2.2) fun r21=>
 .br (!r21.1) (
 .leaf (false,())) (
 .ob (U7 r9.1 (1,())) fun r22=>letI u2:=r22.2.2;letI u3:=u2.2.2.2.2;letI k1:=U8 (r22.2.1,u2.1,u2.2.1,u1.1,u1.2.1,u3.1,u3.2.1,()) ((1:Int),());
 .ob (Akk r9.2.1 r22.1) fun r23=>
 .ob (Agl r9.2.2 r23.1) fun r24=>
 .ob k1 fun r25=>
 .br (decide (r25.1<0)) (
 .leaf (false,())) (
 .ob (Abi r23.2 r25) fun r26=>
 .br (decide (r26.1<0)) (
 .leaf (false,())) (
 .ob (W8 r24.2 r26) fun r27=>
 .br (decide (r27.1<0)) (
 .leaf (false,())) (
 .br (r27.1 != r24.1.1) (
 .leaf (false,())) (
 .ob (Pc a0) fun r28=>
 .ob (M7 a2) fun r29=>
 .ob (Ev a3) fun r30=>
 .ob (U6 r28 a1 r29 r30) fun r31=>
 .ob (Pi r31.1 r5.1) fun r32=>
 .br (!r32.1) (
 .leaf (false,())) (
 .ob (Abc r31.2.1 r5.2.1) fun r33=>
 .br (!r33.1) (
 .leaf (false,())) (
 .ob (We r31.2.2 r5.2.2) fun r34=>
 .br (!r34.1) (
 .leaf (false,())) (
 .ob k1 fun r35=>
 .br (decide (r35.1<0)) (
 .leaf (false,())) (
 .ob (Abi r23.2 r35) fun r36=>
 .br (decide (r36.1<0)) (
 .leaf (false,())) (
 .ob (W8 r24.2 r36) fun r37=>
 .br (decide (r37.1<0)) (
 .leaf (false,())) (
 .br (r37.1 != r24.1.1) (
 .leaf (false,())) (
 .leaf (true,())))))))))))))))))))))))
def Zf a0 a1 a2 a3:=(Ho a0 a1 a2 a3).val
end
end Go.Proofs.YthccfdmiejmbaaaGreat

/-
  What the functions of the seat answer, as plain terms (printed by a program, proved in the texts P); nothing is assumed.
-/
import Derived.Test.YtnbbbaplphcebaaGreatW0
namespace Go.Proofs.YtnbbbaplphcebaaGreat
open Go.RowKit IntKind
set_option linter.unusedVariables false
set_option maxRecDepth 100000
set_option maxHeartbeats 4000000
noncomputable section
def Ny (x2:(List YB)×(List YB)×Int×(List YB)×(List YB)×Int×Unit):Option (((List YB)×(List YB)×Int×(List YB)×(List YB)×Int×Unit)⊕((Int×(List YB)×Unit))):=
 letI u1:=x2.2.2;Tree.val <|
 .br (decide ((x2.2.2.2.1.length:Int)<u1.1)) (
 .ob (Er ([(u1.2.2.1,()),(x2.2.1,()),([((u8.wrap (u1.2.2.2.1)),())],())],())) fun r3=>
 .ob (Vp (x2.1,()) r3) fun r4=>
 .chk (decide (x2.2.2.2.1.length+r4.1.length<=4294967296)) <|
 .leaf (.inl (x2.1,x2.2.1,u1.1,(u1.2.1++r4.1),r4.1,(i64.wrap (u1.2.2.2.1+(1:Int))),()))) (
 .leaf (.inr (u1.1,u1.2.1,())))
def Ao5 (a0:YBs) (a1:YBs) (a2:YI):Tree (YBs×(Bool×Unit)):=
 .ob (Bh a2 ((0:Int),()) ((8160:Int),())) fun r1=>
 .br (!r1.1) (
 .leaf ((([]:List YB),()),(false,()))) (
 .br (decide ((a1.1.length:Int)>(100:Int))) (
 .leaf ((([]:List YB),()),(false,()))) (
 .br (decide ((a0.1.length:Int)>(1048576:Int))) (
 .leaf ((([]:List YB),()),(false,()))) (
 .ob (Ax Ny (a0.1,a1.1,a2.1,([]:List YB),([]:List YB),(1:Int),())) fun o5=>
 .chk (decide ((0:Int)<=o5.1)) <|
 .chk (decide (o5.1<=(o5.2.1.length:Int))) <|
 .ob (Bk (((o5.2.1.take (o5.1).toNat).drop ((0:Int)).toNat),())) fun r6=>
 .leaf (r6,(true,())))))
def Ap0 (a0:YBs) (a1:YBs) (a2:YI):Option (YBs×(Bool×Unit)):=(Ao5 a0 a1 a2).val
def Ao6 (a0:YBs) (a1:ByteArray×Unit):Tree (YBs):=
 .chk (decide (a1.1.size<=4294967296)) <|
 .ob (Ap0 a0 ((Kd a1.1),()) ((32:Int),())) fun r1=>
 .leaf r1.1
def Mp (a0:YBs) (a1:ByteArray×Unit):Option (YBs):=(Ao6 a0 a1).val
def Ac1 (a0:YBs):Tree (YBs):=
 .ob (V7 a0) fun r1=>
 .br (!r1.1) (
 .leaf (([]:List YB),())) (
 .ob (Abp ([((114:Int),()),((111:Int),()),((97:Int),()),((109:Int),())],()) a0) fun r2=>
 .ob (Mp r2 ((Dd [102,105,110,105,115,104]),())) fun r3=>
 .leaf r3)
def Vb (a0:YBs):Option (YBs):=(Ac1 a0).val
def Ac3 (a0:YI) (a1:YBs) (a2:YBs) (a3:YI) (a4:YBs):Tree (YBs):=
 .ob (Bh a0 ((1:Int),()) ((9:Int),())) fun r1=>
 .br (!r1.1) (
 .leaf (([]:List YB),())) (
 .ob (Dw a1) fun r2=>
 .br (!r2.1) (
 .leaf (([]:List YB),())) (
 .ob (Dw a2) fun r3=>
 .br (!r3.1) (
 .leaf (([]:List YB),())) (
 .ob (Bh a3 ((0:Int),()) ((1000000:Int),())) fun r4=>
 .br (!r4.1) (
 .leaf (([]:List YB),())) (
 .br ((a4.1.length:Int) != (16:Int)) (
 .leaf (([]:List YB),())) (
 .ob (Fc (([]:List YB),()) a3 ((4:Int),())) fun r5=>
 .ob (Er ([([((102:Int),()),((u8.wrap (a0.1)),())],()),a1,a2,r5,a4],())) fun r6=>
 .leaf r6)))))
def Vc (a0:YI) (a1:YBs) (a2:YBs) (a3:YI) (a4:YBs):Option (YBs):=(Ac3 a0 a1 a2 a3 a4).val
def Aub (a0:YBs) (a1:YI) (a2:YBs) (a3:YBs) (a4:YI) (a5:YBs):Tree (YBs):=
 .ob (Vb a0) fun r1=>
 .ob (Vc a1 a2 a3 a4 a5) fun r2=>
 .br ((r1.1.length:Int)==(0:Int)) (
 .leaf (([]:List YB),())) (
 .br ((r2.1.length:Int)==(0:Int)) (
 .leaf (([]:List YB),())) (
 .ob (Aek r1 r2) fun r3=>
 .leaf r3))
def Aie (a0:YBs) (a1:YI) (a2:YBs) (a3:YBs) (a4:YI) (a5:YBs):Option (YBs):=(Aub a0 a1 a2 a3 a4 a5).val
def Aj6 (a0:YBs) (a1:Aq):Tree ((Bool×Unit)):=
 letI u1:=a1.2.2.2;.br (a1.1==(3:Int)) (
 .ob (Dh a1) fun r1=>
 .br r1.1 (
 .ob (Aie a0 (a1.2.1,()) (a1.2.2.1,()) (u1.1,()) (u1.2.1,()) (u1.2.2.1,())) fun r2=>
 .ob (Qo (u1.2.2.2.1,()) r2) fun r3=>
 .leaf r3) (
 .leaf (false,()))) (
 .leaf (false,()))
def Akn (a0:YBs) (a1:Aq):Option ((Bool×Unit)):=(Aj6 a0 a1).val
def Af4 (a0:A7):Tree (Bm):=
 .leaf (a0.1,a0.2.1,([]:List A8),())
def Auy (a0:A7):Option (Bm):=(Af4 a0).val
def Aj7 (a0:YBs) (a1:YBs) (a2:YBs):Tree (YBs):=
 .ob (V7 a0) fun r1=>
 .br (!r1.1) (
 .leaf (([]:List YB),())) (
 .ob (Dw a1) fun r2=>
 .br (!r2.1) (
 .leaf (([]:List YB),())) (
 .ob (Dw a2) fun r3=>
 .br (!r3.1) (
 .leaf (([]:List YB),())) (
 .ob (Er ([a1,a2],())) fun r4=>
 .ob (Abp r4 a0) fun r5=>
 .leaf r5)))
def Ako (a0:YBs) (a1:YBs) (a2:YBs):Option (YBs):=(Aj7 a0 a1 a2).val
def Af5 (a0:YBs):Tree (YBs):=
 .br ((a0.1.length:Int) != (32:Int)) (
 .leaf (([]:List YB),())) (
 .ob (Mp a0 ((Dd [101,112,111,99,104]),())) fun r1=>
 .leaf r1)
def Agt (a0:YBs):Option (YBs):=(Af5 a0).val
def Qi (x3:Int×(List YB)×Int×Unit):Option ((Int×(List YB)×Int×Unit)⊕(YBs)):=
 Tree.val <|
 .br (decide (x3.2.2.1<x3.1)) (
 .ob (Mp (x3.2.1,()) ((Dd [114,101,107,101,121]),())) fun r4=>
 .leaf (.inl (x3.1,r4.1,(i64.wrap (x3.2.2.1+(1:Int))),()))) (
 .leaf (.inr (x3.2.1,())))
def Aue (a0:YBs) (a1:YI):Tree (YBs):=
 .ob (Bh a1 ((0:Int),()) ((64:Int),())) fun r1=>
 .br (!r1.1) (
 .leaf (([]:List YB),())) (
 .ob (Bk a0) fun r2=>
 .ob (Ax Qi (a1.1,r2.1,(0:Int),())) fun o5=>
 .leaf o5)
def Auz (a0:YBs) (a1:YI):Option (YBs):=(Aue a0 a1).val
def Af6 (a0:YBs) (a1:YBs) (a2:YBs) (a3:YI):Tree (YBs):=
 .ob (Ako a0 a1 a2) fun r1=>
 .ob (Agt r1) fun r2=>
 .br ((r2.1.length:Int)==(0:Int)) (
 .leaf (([]:List YB),())) (
 .ob (Auz r2 a3) fun r3=>
 .leaf r3)
def Xl (a0:YBs) (a1:YBs) (a2:YBs) (a3:YI):Option (YBs):=(Af6 a0 a1 a2 a3).val
def Ao7:Tree (Db):=
 .leaf ((-1:Int),(List.replicate ((32:Int)).toNat ((0:Int),())),())
def Ad5:Option (Db):=(Ao7).val
def Ah7 (a0:YI) (a1:YBs):Tree (YEp):=
 .ob (Bh a0 ((0:Int),()) ((4294967295:Int),())) fun r1=>
 .br (!r1.1) (
 .leaf ((0:Int),([]:List YB),(0:Int),(0:Int),([]:List YI),())) (
 .br ((a1.1.length:Int) != (32:Int)) (
 .leaf ((0:Int),([]:List YB),(0:Int),(0:Int),([]:List YI),())) (
 .ob (Bk a1) fun r2=>
 .ob Ad5 fun r3=>
 .leaf (a0.1,r2.1,(0:Int),r3.1,r3.2.1,())))
def Ol (a0:YI) (a1:YBs):Option (YEp):=(Ah7 a0 a1).val
def Abk (a0:YI) (a1:YBs) (a2:YBs):Tree (Ap):=
 .ob (O9 a0) fun r1=>
 .br (!r1.1) (
 .leaf ((0:Int),([]:List YB),(0:Int),([]:List YB),(0:Int),(0:Int),([]:List YI),(0:Int),([]:List YB),(0:Int),(0:Int),([]:List YI),false,(0:Int),([]:List YB),())) (
 .ob (Dw a1) fun r2=>
 .br (!r2.1) (
 .leaf ((0:Int),([]:List YB),(0:Int),([]:List YB),(0:Int),(0:Int),([]:List YI),(0:Int),([]:List YB),(0:Int),(0:Int),([]:List YI),false,(0:Int),([]:List YB),())) (
 .br ((a2.1.length:Int) != (32:Int)) (
 .leaf ((0:Int),([]:List YB),(0:Int),([]:List YB),(0:Int),(0:Int),([]:List YI),(0:Int),([]:List YB),(0:Int),(0:Int),([]:List YI),false,(0:Int),([]:List YB),())) (
 .ob (Bk a1) fun r3=>
 .ob (Ol ((0:Int),()) a2) fun r4=>
 .leaf (a0.1,r3.1,r4.1,r4.2.1,r4.2.2.1,r4.2.2.2.1,r4.2.2.2.2.1,(0:Int),([]:List YB),(0:Int),(0:Int),([]:List YI),false,(0:Int),([]:List YB),()))))
def Ut (a0:YI) (a1:YBs) (a2:YBs):Option (Ap):=(Abk a0 a1 a2).val
def Aj8 (a0:YBs) (a1:YI) (a2:A7) (a3:Aq):Tree (Ak):=
 letI u1:=a3.2.2;.ob (V7 a0) fun r1=>
 .br (!r1.1) (
 .leaf ((0:Int),([]:List YB),([]:List YB),(0:Int),([]:List YB),(0:Int),([]:List YB),(0:Int),(0:Int),([]:List YI),(0:Int),([]:List YB),(0:Int),(0:Int),([]:List YI),false,(0:Int),([]:List YB),(0:Int),(0:Int),([]:List A8),(0:Int),(0:Int),false,())) (
 .ob (Bh a1 ((0:Int),()) ((1000000:Int),())) fun r2=>
 .br (!r2.1) (
 .leaf ((0:Int),([]:List YB),([]:List YB),(0:Int),([]:List YB),(0:Int),([]:List YB),(0:Int),(0:Int),([]:List YI),(0:Int),([]:List YB),(0:Int),(0:Int),([]:List YI),false,(0:Int),([]:List YB),(0:Int),(0:Int),([]:List A8),(0:Int),(0:Int),false,())) (
 .ob (Gr a2) fun r3=>
 .br (!r3.1) (
 .leaf ((0:Int),([]:List YB),([]:List YB),(0:Int),([]:List YB),(0:Int),([]:List YB),(0:Int),(0:Int),([]:List YI),(0:Int),([]:List YB),(0:Int),(0:Int),([]:List YI),false,(0:Int),([]:List YB),(0:Int),(0:Int),([]:List A8),(0:Int),(0:Int),false,())) (
 .br (a3.1 != (3:Int)) (
 .leaf ((0:Int),([]:List YB),([]:List YB),(0:Int),([]:List YB),(0:Int),([]:List YB),(0:Int),(0:Int),([]:List YI),(0:Int),([]:List YB),(0:Int),(0:Int),([]:List YI),false,(0:Int),([]:List YB),(0:Int),(0:Int),([]:List A8),(0:Int),(0:Int),false,())) (
 .ob (Dh a3) fun r4=>
 .br (!r4.1) (
 .leaf ((0:Int),([]:List YB),([]:List YB),(0:Int),([]:List YB),(0:Int),([]:List YB),(0:Int),(0:Int),([]:List YI),(0:Int),([]:List YB),(0:Int),(0:Int),([]:List YI),false,(0:Int),([]:List YB),(0:Int),(0:Int),([]:List A8),(0:Int),(0:Int),false,())) (
 .ob (Bk (u1.1,())) fun r5=>
 .ob (Bk (u1.2.1,())) fun r6=>
 .ob (Auy a2) fun r7=>
 .ob (Xl a0 (u1.1,()) (u1.2.1,()) ((0:Int),())) fun r8=>
 .ob (Ut ((1:Int),()) (u1.2.1,()) r8) fun r9=>letI u2:=r9.2.2.2;letI u3:=u2.2.2.2;letI u4:=u3.2.2.2.2;
 .leaf (a3.2.1,r5.1,r6.1,r9.1,r9.2.1,r9.2.2.1,u2.1,u2.2.1,u2.2.2.1,u3.1,u3.2.1,u3.2.2.1,u3.2.2.2.1,u4.1,u4.2.1,u4.2.2.1,u4.2.2.2.1,u4.2.2.2.2.1,r7.1,r7.2.1,r7.2.2.1,u1.2.2.1,a1.1,false,()))))))
def Abq (a0:YBs) (a1:YI) (a2:A7) (a3:Aq):Option (Ak):=(Aj8 a0 a1 a2 a3).val
def Abl (a0:Ch) (a1:Ak):Tree (Ch×YI):=
 .ob (Qn a0) fun r1=>
 .ob (V6 a0) fun r2=>
 .br (!r2.1) (
 .leaf (r1,((1:Int),()))) (
 .ob (Pa a1) fun r3=>
 .br (!r3.1) (
 .leaf (r1,((1:Int),()))) (
 .br a1.2.2.2.2.2.2.2.2.2.2.2.2.2.2.2.2.2.2.2.2.2.2.2.1 (
 .leaf (r1,((1:Int),()))) (
 .ob (Mn a0 (a1.2.2.1,())) fun r4=>
 .br (decide (r4.1≥(0:Int))) (
 .leaf (r1,((3:Int),()))) (
 .ob (G4 a0) fun r5=>
 .br (r5.1==a0.1) (
 .leaf (r1,((7:Int),()))) (
 .br ((a0.2.1.length:Int)==(12:Int)) (
 .leaf (r1,((7:Int),()))) (
 .ob (Ja a1) fun r6=>
 .chk (decide (r1.2.1.length+[r6].length<=4294967296)) <|
 .leaf ((r1.1,(r1.2.1++[r6]),()),((0:Int),()))))))))
def Uu (a0:Ch) (a1:Ak):Option (Ch×YI):=(Abl a0 a1).val
def A0g (a0:YBs) (a1:YBs) (a2:YBs):Tree (Ay):=
 .ob (Bk a0) fun r1=>
 .ob (Bk a1) fun r2=>
 .ob (Bk a2) fun r3=>
 .leaf ((16:Int),(0:Int),(0:Int),([]:List YB),r2.1,(0:Int),(0:Int),r3.1,r1.1,(0:Int),(0:Int),(0:Int),())
def Agu (a0:YBs) (a1:YBs) (a2:YBs):Option (Ay):=(A0g a0 a1 a2).val
def Ac5 (a0:YI):Tree (YBs):=
 .ob (Bh a0 ((0:Int),()) ((4294967295:Int),())) fun r1=>
 .br (!r1.1) (
 .leaf (([]:List YB),())) (
 .ob (Fc (([]:List YB),()) a0 ((4:Int),())) fun r2=>
 .leaf r2)
def Vd (a0:YI):Option (YBs):=(Ac5 a0).val
def Ao9 (a0:YI) (a1:YBs) (a2:YI) (a3:YI):Tree (YBs):=
 .ob (O9 a0) fun r1=>
 .br (!r1.1) (
 .leaf (([]:List YB),())) (
 .ob (Dw a1) fun r2=>
 .br (!r2.1) (
 .leaf (([]:List YB),())) (
 .ob (Bh a2 ((0:Int),()) ((4294967295:Int),())) fun r3=>
 .br (!r3.1) (
 .leaf (([]:List YB),())) (
 .ob (Bh a3 ((0:Int),()) ((281474976710655:Int),())) fun r4=>
 .br (!r4.1) (
 .leaf (([]:List YB),())) (
 .ob (Fc (([]:List YB),()) a2 ((4:Int),())) fun r5=>
 .ob (Fc (([]:List YB),()) a3 ((6:Int),())) fun r6=>
 .ob (Er ([([((u8.wrap (a0.1)),())],()),a1,r5,r6],())) fun r7=>
 .leaf r7))))
def Xm (a0:YI) (a1:YBs) (a2:YI) (a3:YI):Option (YBs):=(Ao9 a0 a1 a2 a3).val
def Aka (a0:YBs) (a1:YBs) (a2:YI):Tree (YBs):=
 .ob (Bh a2 ((0:Int),()) ((6:Int),())) fun r1=>
 .br (!r1.1) (
 .leaf (([]:List YB),())) (
 .br (decide ((a1.1.length:Int)>(100:Int))) (
 .leaf (([]:List YB),())) (
 .ob (Er ([([((115:Int),())],()),a1],())) fun r2=>
 .ob (Fc r2 a2 ((4:Int),())) fun r3=>
 .ob (Vp a0 r3) fun r4=>
 .leaf r4))
def Akp (a0:YBs) (a1:YBs) (a2:YI):Option (YBs):=(Aka a0 a1 a2).val
def Nz (x2:(List YB)×(List YB)×Int×(List YB)×Int×Unit):Option (((List YB)×(List YB)×Int×(List YB)×Int×Unit)⊕((Int×(List YB)×Unit))):=
 letI u1:=x2.2.2;Tree.val <|
 .br (decide ((x2.2.2.2.1.length:Int)<u1.1)) (
 .ob (Akp (x2.1,()) (x2.2.1,()) (u1.2.2.1,())) fun r3=>
 .chk (decide (x2.2.2.2.1.length+r3.1.length<=4294967296)) <|
 .leaf (.inl (x2.1,x2.2.1,u1.1,(u1.2.1++r3.1),(i64.wrap (u1.2.2.1+(1:Int))),()))) (
 .leaf (.inr (u1.1,u1.2.1,())))
def Apa (a0:YBs) (a1:YBs) (a2:YI):Tree (YBs):=
 .ob (Bh a2 ((0:Int),()) ((200:Int),())) fun r1=>
 .br (!r1.1) (
 .leaf (([]:List YB),())) (
 .br (decide ((a1.1.length:Int)>(100:Int))) (
 .leaf (([]:List YB),())) (
 .br (decide ((a0.1.length:Int)>(1048576:Int))) (
 .leaf (([]:List YB),())) (
 .ob (Ax Nz (a0.1,a1.1,a2.1,([]:List YB),(0:Int),())) fun o4=>
 .chk (decide ((0:Int)<=o4.1)) <|
 .chk (decide (o4.1<=(o4.2.1.length:Int))) <|
 .ob (Bk (((o4.2.1.take (o4.1).toNat).drop ((0:Int)).toNat),())) fun r5=>
 .leaf r5)))
def Ap1 (a0:YBs) (a1:YBs) (a2:YI):Option (YBs):=(Apa a0 a1 a2).val
def V5 (x2:(List YB)×(List YB)×(List YB)×Int×Int×Unit):Option (((List YB)×(List YB)×(List YB)×Int×Int×Unit)⊕(YBs)):=
 letI u1:=x2.2.2.2;Tree.val <|
 .br (decide (u1.2.1<u1.1)) (
 .ob (idx x2.2.2.1 u1.2.1) fun e3=>
 .ob (idx x2.1 u1.2.1) fun e4=>
 .chk (decide (x2.2.1.length+[((u8.wrap ((BitVec.ofInt (u8.bits) (e3.1) ^^^ BitVec.ofInt (u8.bits) (e4.1)).toNat:Nat)),())].length<=4294967296)) <|
 .leaf (.inl (x2.1,(x2.2.1++[((u8.wrap ((BitVec.ofInt (u8.bits) (e3.1) ^^^ BitVec.ofInt (u8.bits) (e4.1)).toNat:Nat)),())]),x2.2.2.1,u1.1,(i64.wrap (u1.2.1+(1:Int))),()))) (
 .leaf (.inr (x2.2.1,())))
def A5u (a0:YBs) (a1:YBs) (a2:YBs):Tree (YBs):=
 .br (decide ((a2.1.length:Int)>(200:Int))) (
 .leaf (([]:List YB),())) (
 .br (decide ((a1.1.length:Int)>(100:Int))) (
 .leaf (([]:List YB),())) (
 .br (decide ((a0.1.length:Int)>(1048576:Int))) (
 .leaf (([]:List YB),())) (
 .ob (Ap1 a0 a1 ((a2.1.length:Int),())) fun r1=>
 .ob (Ax V5 (a2.1,([]:List YB),r1.1,(r1.1.length:Int),(0:Int),())) fun o5=>
 .leaf o5)))
def Awk (a0:YBs) (a1:YBs) (a2:YBs):Option (YBs):=(A5u a0 a1 a2).val
def Af7 (a0:YI) (a1:Aq):Tree (YBs):=
 letI u1:=a1.2.2.2.2.2.2.2;.ob (O9 a0) fun r1=>
 .br (!r1.1) (
 .leaf (([]:List YB),())) (
 .ob (Mo (a1.1,())) fun r2=>
 .br (!r2.1) (
 .leaf (([]:List YB),())) (
 .ob (Dh a1) fun r3=>
 .br (!r3.1) (
 .leaf (([]:List YB),())) (
 .ob (Xm a0 (a1.2.2.2.1,()) (u1.1,()) (u1.2.1,())) fun r4=>
 .ob (Er ([([((116:Int),())],()),r4,([((u8.wrap (a1.1)),())],()),(u1.2.2.1,())],())) fun r5=>
 .leaf r5)))
def Lj (a0:YI) (a1:Aq):Option (YBs):=(Af7 a0 a1).val
def A0h (a0:YBs) (a1:YI) (a2:YBs) (a3:YI) (a4:YI) (a5:YI) (a6:YBs):Tree (Aq×(Bool×Unit)):=
 .ob (Bk a2) fun r1=>
 .ob (Bk a6) fun r2=>
 .br ((a0.1.length:Int) != (32:Int)) (
 .leaf (((0:Int),(0:Int),([]:List YB),([]:List YB),(0:Int),([]:List YB),([]:List YB),(0:Int),(0:Int),([]:List YB),([]:List YB),()),(false,()))) (
 .ob (O9 a1) fun r3=>
 .br (!r3.1) (
 .leaf (((0:Int),(0:Int),([]:List YB),([]:List YB),(0:Int),([]:List YB),([]:List YB),(0:Int),(0:Int),([]:List YB),([]:List YB),()),(false,()))) (
 .ob (Mo a5) fun r4=>
 .br (!r4.1) (
 .leaf (((0:Int),(0:Int),([]:List YB),([]:List YB),(0:Int),([]:List YB),([]:List YB),(0:Int),(0:Int),([]:List YB),([]:List YB),()),(false,()))) (
 .ob (Dh (a5.1,(0:Int),([]:List YB),r1.1,(0:Int),([]:List YB),([]:List YB),a3.1,a4.1,r2.1,(List.replicate ((16:Int)).toNat ((0:Int),())),())) fun r5=>
 .br (!r5.1) (
 .leaf (((0:Int),(0:Int),([]:List YB),([]:List YB),(0:Int),([]:List YB),([]:List YB),(0:Int),(0:Int),([]:List YB),([]:List YB),()),(false,()))) (
 .ob (Xm a1 a2 a3 a4) fun r6=>
 .ob (Awk a0 r6 a6) fun r7=>
 .ob (Lj a1 (a5.1,(0:Int),([]:List YB),r1.1,(0:Int),([]:List YB),([]:List YB),a3.1,a4.1,r7.1,(List.replicate ((16:Int)).toNat ((0:Int),())),())) fun r8=>
 .ob (Aek a0 r8) fun r9=>
 .leaf ((a5.1,(0:Int),([]:List YB),r1.1,(0:Int),([]:List YB),([]:List YB),a3.1,a4.1,r7.1,r9.1,()),(true,()))))))
def Agv (a0:YBs) (a1:YI) (a2:YBs) (a3:YI) (a4:YI) (a5:YI) (a6:YBs):Option (Aq×(Bool×Unit)):=(A0h a0 a1 a2 a3 a4 a5 a6).val
def Apb (a0:YEp) (a1:YI) (a2:YBs) (a3:YI) (a4:YBs):Tree (YEp×Aq×YI):=
 letI u1:=a0.2.2;.ob (Tg a0) fun r1=>letI u2:=r1.2.2;
 .ob (Z1 a0) fun r2=>
 .br (!r2.1) (
 .leaf (r1,((0:Int),(0:Int),([]:List YB),([]:List YB),(0:Int),([]:List YB),([]:List YB),(0:Int),(0:Int),([]:List YB),([]:List YB),()),((1:Int),()))) (
 .ob (Agv (a0.2.1,()) a1 a2 (a0.1,()) ((0:Int),()) a3 a4) fun r3=>
 .br (!r3.2.1) (
 .leaf (r1,((0:Int),(0:Int),([]:List YB),([]:List YB),(0:Int),([]:List YB),([]:List YB),(0:Int),(0:Int),([]:List YB),([]:List YB),()),((1:Int),()))) (
 .br (a3.1==(4:Int)) (
 .br (decide (u1.1≥(281474976709656:Int))) (
 .leaf (r1,((0:Int),(0:Int),([]:List YB),([]:List YB),(0:Int),([]:List YB),([]:List YB),(0:Int),(0:Int),([]:List YB),([]:List YB),()),((4:Int),()))) (
 .br (u1.1==(281474976710656:Int)) (
 .leaf (r1,((0:Int),(0:Int),([]:List YB),([]:List YB),(0:Int),([]:List YB),([]:List YB),(0:Int),(0:Int),([]:List YB),([]:List YB),()),((5:Int),()))) (
 .ob (Agv (a0.2.1,()) a1 a2 (a0.1,()) (u1.1,()) a3 a4) fun r4=>
 .leaf ((r1.1,r1.2.1,(i64.wrap (u2.1+(1:Int))),u2.2.1,u2.2.2.1,()),r4.1,((0:Int),()))))) (
 .br (u1.1==(281474976710656:Int)) (
 .leaf (r1,((0:Int),(0:Int),([]:List YB),([]:List YB),(0:Int),([]:List YB),([]:List YB),(0:Int),(0:Int),([]:List YB),([]:List YB),()),((5:Int),()))) (
 .ob (Agv (a0.2.1,()) a1 a2 (a0.1,()) (u1.1,()) a3 a4) fun r5=>
 .leaf ((r1.1,r1.2.1,(i64.wrap (u2.1+(1:Int))),u2.2.1,u2.2.2.1,()),r5.1,((0:Int),()))))))
def Ap2 (a0:YEp) (a1:YI) (a2:YBs) (a3:YI) (a4:YBs):Option (YEp×Aq×YI):=(Apb a0 a1 a2 a3 a4).val
def Af9 (a0:Ap) (a1:YI) (a2:YBs):Tree (Ap×Aq×YI):=
 letI u1:=a0.2.2.2;.ob (H5 a0) fun r1=>letI u2:=r1.2.2.2.2.2.2.2;letI u3:=u2.2.2.2;
 .ob (Kf a0) fun r2=>
 .br (!r2.1) (
 .leaf (r1,((0:Int),(0:Int),([]:List YB),([]:List YB),(0:Int),([]:List YB),([]:List YB),(0:Int),(0:Int),([]:List YB),([]:List YB),()),((1:Int),()))) (
 .ob (Ap2 (a0.2.2.1,u1.1,u1.2.1,u1.2.2.1,u1.2.2.2.1,()) (a0.1,()) (a0.2.1,()) a1 a2) fun r3=>
 .leaf ((r1.1,r1.2.1,r3.1.1,r3.1.2.1,r3.1.2.2.1,r3.1.2.2.2.1,r3.1.2.2.2.2.1,u2.1,u2.2.1,u2.2.2.1,u3.1,u3.2.1,u3.2.2.1,u3.2.2.2.1,u3.2.2.2.2.1,()),r3.2.1,r3.2.2))
def Co (a0:Ap) (a1:YI) (a2:YBs):Option (Ap×Aq×YI):=(Af9 a0 a1 a2).val
def A5w (a0:Ap):Tree (Ap×Aq×YI):=
 .ob (Kf a0) fun r1=>
 .br (!r1.1) (
 .ob (H5 a0) fun r2=>
 .leaf (r2,((0:Int),(0:Int),([]:List YB),([]:List YB),(0:Int),([]:List YB),([]:List YB),(0:Int),(0:Int),([]:List YB),([]:List YB),()),((6:Int),()))) (
 .br (a0.1 != (1:Int)) (
 .ob (H5 a0) fun r3=>
 .leaf (r3,((0:Int),(0:Int),([]:List YB),([]:List YB),(0:Int),([]:List YB),([]:List YB),(0:Int),(0:Int),([]:List YB),([]:List YB),()),((6:Int),()))) (
 .ob (Vd (a0.2.2.1,())) fun r4=>
 .ob (Co a0 ((8:Int),()) r4) fun r5=>
 .leaf (r5.1,r5.2.1,r5.2.2)))
def Ael (a0:Ap):Option (Ap×Aq×YI):=(A5w a0).val
def Apc (a0:Ap) (a1:Aq):Tree (Ay):=
 .ob (Lj (a0.1,()) a1) fun r1=>
 .ob (Apz (a0.2.2.2.1,()) r1) fun r2=>
 .leaf r2
def H6 (a0:Ap) (a1:Aq):Option (Ay):=(Apc a0 a1).val
def Abm (a0:Ak):Tree (Ak×((List Bc)×Unit)×((List Ay)×Unit)):=
 letI u1:=a0.2.2.2;letI u2:=u1.2.2;letI u3:=u2.2.2.2;letI u4:=u3.2.2.2;letI u5:=u4.2.2.2;letI u6:=u5.2.2.2;.ob (Ja a0) fun r1=>letI u7:=r1.2.2.2.2.2.2.2.2.2.2.2.2.2.2.2.2.2.2;
 .ob (Pa a0) fun r2=>
 .br (!r2.1) (
 .leaf (r1,(([]:List Bc),()),(([]:List Ay),()))) (
 .br u6.2.2.2.2.2.2.1 (
 .leaf (r1,(([]:List Bc),()),(([]:List Ay),()))) (
 .br (u2.1 != (0:Int)) (
 .leaf (r1,(([]:List Bc),()),(([]:List Ay),()))) (
 .ob (Ael (u1.1,u1.2.1,u2.1,u2.2.1,u2.2.2.1,u3.1,u3.2.1,u3.2.2.1,u4.1,u4.2.1,u4.2.2.1,u5.1,u5.2.1,u5.2.2.1,u6.1,())) fun r3=>letI u8:=r3.1.2.2.2;letI u9:=u8.2.2.2;letI u10:=u9.2.2.2.2;
 .br (r3.2.2.1 != (0:Int)) (
 .leaf (r1,(([]:List Bc),()),(([]:List Ay),()))) (
 .ob (H6 r3.1 r3.2.1) fun r4=>
 .leaf ((r1.1,r1.2.1,r1.2.2.1,r3.1.1,r3.1.2.1,r3.1.2.2.1,u8.1,u8.2.1,u8.2.2.1,u9.1,u9.2.1,u9.2.2.1,u9.2.2.2.1,u10.1,u10.2.1,u10.2.2.1,u10.2.2.2.1,u10.2.2.2.2.1,u7.1,u7.2.1,u7.2.2.1,u7.2.2.2.1,u7.2.2.2.2.1,u7.2.2.2.2.2.1,()),([(u6.2.1,u6.2.2.1,r3.2.1.1,r3.2.1.2.1,r3.2.1.2.2.1,r3.2.1.2.2.2.1,r3.2.1.2.2.2.2.1,r3.2.1.2.2.2.2.2.1,r3.2.1.2.2.2.2.2.2.1,r3.2.1.2.2.2.2.2.2.2.1,r3.2.1.2.2.2.2.2.2.2.2.1,r3.2.1.2.2.2.2.2.2.2.2.2.1,r3.2.1.2.2.2.2.2.2.2.2.2.2.1,())],()),([r4],()))))))
def Nd (a0:Ak):Option (Ak×((List Bc)×Unit)×((List Ay)×Unit)):=(Abm a0).val
def Akd (a0:Ch) (a1:YI) (a2:Ak):Tree (Ch×(Bool×Unit)):=
 .ob (Qn a0) fun r1=>
 .ob (V6 a0) fun r2=>
 .br (!r2.1) (
 .leaf (r1,(false,()))) (
 .br (decide (a1.1<(0:Int))) (
 .leaf (r1,(false,()))) (
 .br (decide (a1.1≥(a0.2.1.length:Int))) (
 .leaf (r1,(false,()))) (
 .ob (Ja a2) fun r3=>
 .ob (idx r1.2.1 a1.1) fun e4=>
 let q5:=(r1.2.1.set (a1.1).toNat r3)
 .ob (V6 (r1.1,q5,())) fun r6=>
 .br (!r6.1) (
 .ob (Qn a0) fun r7=>
 .leaf (r7,(false,()))) (
 .leaf ((r1.1,q5,()),(true,()))))))
def I1 (a0:Ch) (a1:YI) (a2:Ak):Option (Ch×(Bool×Unit)):=(Akd a0 a1 a2).val
def Zv (a0:Bs) (a1:YI) (a2:A7) (a3:Aq):Tree (Bs×((List Bc)×Unit)×((List Ay)×Unit)):=
 letI u1:=a0.2.2;letI u2:=u1.2.2;letI u3:=u2.2.2;letI u4:=a3.2.2;.ob (Aux (a0.2.1,()) a1 a2 a3) fun r1=>
 .br (r1.1 != (0:Int)) (
 .leaf (a0,(([]:List Bc),()),(([]:List Ay),()))) (
 .br (decide (a3.2.1>(a0.1.length:Int))) (
 .leaf (a0,(([]:List Bc),()),(([]:List Ay),()))) (
 .ob (idx a0.1 (i64.wrap (a3.2.1-(1:Int)))) fun e2=>
 .ob (Akn e2 a3) fun r3=>
 .br (!r3.1) (
 .leaf (a0,(([]:List Bc),()),(([]:List Ay),()))) (
 .ob (Mn (u2.1,u2.2.1,()) (u4.2.1,())) fun r4=>
 .br (decide (r4.1<(0:Int))) (
 .ob (idx a0.1 (i64.wrap (a3.2.1-(1:Int)))) fun e5=>
 .ob (Abq e5 a1 a2 a3) fun r6=>
 .ob (Uu (u2.1,u2.2.1,()) r6) fun r7=>
 .br (r7.2.1 != (0:Int)) (
 .leaf (a0,(([]:List Bc),()),(([]:List Ay),()))) (
 .ob (Ru a2 (a3.2.1,()) (u4.1,()) (u4.2.1,()) (u4.2.2.1,())) fun r8=>
 .ob (Agu (a0.2.1,()) (u4.2.1,()) r8) fun r9=>
 .ob (Vb e5) fun r10=>
 .ob (Vc (a3.2.1,()) (u4.1,()) (u4.2.1,()) (u4.2.2.1,()) (u4.2.2.2.1,())) fun r11=>
 .ob (Agu r10 (u4.2.1,()) r11) fun r12=>
 .ob (Bk (u4.1,())) fun r13=>
 .ob (Bk (u4.2.1,())) fun r14=>
 .ob (Bk (r6.2.2.2.2.2.2.1,())) fun r15=>
 .chk (decide (([]:List Ay).length+[r9,r12,((4:Int),a3.2.1,(0:Int),r13.1,r14.1,(0:Int),(0:Int),([]:List YB),r15.1,a2.1,a2.2.1,a1.1,())].length<=4294967296)) <|
 .ob (Mn r7.1 (u4.2.1,())) fun r16=>
 .ob (idx r7.1.2.1 r16.1) fun e17=>
 .br e17.2.2.2.2.2.2.2.2.2.2.2.2.2.2.2.2.2.2.2.2.2.2.2.1 (
 .leaf ((a0.1,a0.2.1,u1.1,u1.2.1,r7.1.1,r7.1.2.1,u3.1,()),(([]:List Bc),()),((([]:List Ay)++[r9,r12,((4:Int),a3.2.1,(0:Int),r13.1,r14.1,(0:Int),(0:Int),([]:List YB),r15.1,a2.1,a2.2.1,a1.1,())]),()))) (
 .br (e17.1 != a3.2.1) (
 .leaf ((a0.1,a0.2.1,u1.1,u1.2.1,r7.1.1,r7.1.2.1,u3.1,()),(([]:List Bc),()),((([]:List Ay)++[r9,r12,((4:Int),a3.2.1,(0:Int),r13.1,r14.1,(0:Int),(0:Int),([]:List YB),r15.1,a2.1,a2.2.1,a1.1,())]),()))) (
 .ob (Cf (e17.2.1,()) (u4.1,())) fun r18=>
 .br (!r18.1) (
 .leaf ((a0.1,a0.2.1,u1.1,u1.2.1,r7.1.1,r7.1.2.1,u3.1,()),(([]:List Bc),()),((([]:List Ay)++[r9,r12,((4:Int),a3.2.1,(0:Int),r13.1,r14.1,(0:Int),(0:Int),([]:List YB),r15.1,a2.1,a2.2.1,a1.1,())]),()))) (
 .ob (Nd e17) fun r19=>
 .ob (I1 r7.1 r16 r19.1) fun r20=>
 .chk (decide ((([]:List Ay)++[r9,r12,((4:Int),a3.2.1,(0:Int),r13.1,r14.1,(0:Int),(0:Int),([]:List YB),r15.1,a2.1,a2.2.1,a1.1,())]).length+r19.2.2.1.length<=4294967296)) <|
 .leaf ((a0.1,a0.2.1,u1.1,u1.2.1,r20.1.1,r20.1.2.1,u3.1,()),r19.2.1,(((([]:List Ay)++[r9,r12,((4:Int),a3.2.1,(0:Int),r13.1,r14.1,(0:Int),(0:Int),([]:List YB),r15.1,a2.1,a2.2.1,a1.1,())])++r19.2.2.1),()))))))) (
 .ob (Mn (u2.1,u2.2.1,()) (u4.2.1,())) fun r21=>
 .ob (idx u2.2.1 r21.1) fun e22=>
 .br e22.2.2.2.2.2.2.2.2.2.2.2.2.2.2.2.2.2.2.2.2.2.2.2.1 (
 .leaf (a0,(([]:List Bc),()),(([]:List Ay),()))) (
 .br (e22.1 != a3.2.1) (
 .leaf (a0,(([]:List Bc),()),(([]:List Ay),()))) (
 .ob (Cf (e22.2.1,()) (u4.1,())) fun r23=>
 .br (!r23.1) (
 .leaf (a0,(([]:List Bc),()),(([]:List Ay),()))) (
 .ob (Nd e22) fun r24=>
 .ob (I1 (u2.1,u2.2.1,()) r21 r24.1) fun r25=>
 .chk (decide (([]:List Ay).length+r24.2.2.1.length<=4294967296)) <|
 .leaf ((a0.1,a0.2.1,u1.1,u1.2.1,r25.1.1,r25.1.2.1,u3.1,()),r24.2.1,((([]:List Ay)++r24.2.2.1),())))))))))
def Z3 (a0:Bs) (a1:YI) (a2:A7) (a3:Aq):Option (Bs×((List Bc)×Unit)×((List Ay)×Unit)):=(Zv a0 a1 a2 a3).val
def Apd (a0:Db) (a1:YI):Tree ((Bool×Unit)):=
 .ob (Aic a0) fun r1=>
 .br (!r1.1) (
 .leaf (false,())) (
 .ob (Bh a1 ((0:Int),()) ((281474976710655:Int),())) fun r2=>
 .br (!r2.1) (
 .leaf (false,())) (
 .br (decide (a1.1>a0.1)) (
 .leaf (true,())) (
 .br (decide (a1.1≥(i64.wrap ((i64.wrap (a0.1-(1024:Int)))+(1:Int))))) (
 .ob (Xj a0 a1) fun r3=>
 .leaf ((!r3.1),())) (
 .leaf (false,())))))
def Ap3 (a0:Db) (a1:YI):Option ((Bool×Unit)):=(Apd a0 a1).val
def N3 (x3:Int×Int×Int×(List YI)×Int×(List YI)×Int×(List YI)×Unit):Option ((Int×Int×Int×(List YI)×Int×(List YI)×Int×(List YI)×Unit)⊕((Int×Int×(List YI)×Int×(List YI)×Int×(List YI)×Unit))):=
 letI u1:=x3.2.2;letI u2:=u1.2.2;letI u3:=u2.2.2;Tree.val <|
 .br (decide (x3.2.1<x3.1)) (
 .chk (decide ((0:Int)<=x3.2.1)) <|
 .chk (decide ((0:Int)<=(x3.2.1%(1024:Int)))) <|
 .ob (idx u3.2.1 ((x3.2.1%(1024:Int))/(32:Int))) fun e4=>
 .chk (decide ((0:Int)<=x3.2.1)) <|
 .chk (decide ((0:Int)<=(x3.2.1%(32:Int)))) <|
 .ob (idx u3.2.1 ((x3.2.1%(1024:Int))/(32:Int))) fun e5=>
 let q6:=(x3.2.2.2.2.2.2.2.1.set (((x3.2.1%(1024:Int))/(32:Int))).toNat ((i64.wrap ((BitVec.ofInt (i64.bits) (e4.1) &&& ~~~ BitVec.ofInt (i64.bits) ((i64.wrap ((1:Int)*2^(min ((x3.2.1%(32:Int))).toNat i64.bits))))).toNat:Nat)),()))
 .leaf (.inl (x3.1,(i64.wrap (x3.2.1+(1:Int))),u1.1,u1.2.1,u2.1,u2.2.1,u3.1,q6,()))) (
 .leaf (.inr (x3.1,u1.1,u1.2.1,u2.1,u2.2.1,u3.1,u3.2.1,())))
def Ape (a0:Db) (a1:YI):Tree (Db×(Bool×Unit)):=
 .ob (Abo a0) fun r1=>
 .ob (Ap3 a0 a1) fun r2=>
 .br (!r2.1) (
 .leaf (r1,(false,()))) (
 .ob (Ax N3 (a1.1,(if (i64.wrap (a0.1+(1:Int)))<(i64.wrap ((i64.wrap (a1.1-(1024:Int)))+(1:Int)))then(i64.wrap ((i64.wrap (a1.1-(1024:Int)))+(1:Int)))else(i64.wrap (a0.1+(1:Int)))),a0.1,a0.2.1,(0:Int),([]:List YI),r1.1,r1.2.1,())) fun o7=>
 .chk (decide ((0:Int)<=o7.1)) <|
 .chk (decide ((0:Int)<=(o7.1%(1024:Int)))) <|
 .ob (idx o7.2.2.2.2.2.2.1 ((o7.1%(1024:Int))/(32:Int))) fun e8=>
 .chk (decide ((0:Int)<=o7.1)) <|
 .chk (decide ((0:Int)<=(o7.1%(32:Int)))) <|
 .ob (idx o7.2.2.2.2.2.2.1 ((o7.1%(1024:Int))/(32:Int))) fun e9=>
 let q10:=(o7.2.2.2.2.2.2.1.set (((o7.1%(1024:Int))/(32:Int))).toNat ((i64.wrap ((BitVec.ofInt (i64.bits) (e8.1) ||| BitVec.ofInt (i64.bits) ((i64.wrap ((1:Int)*2^(min ((o7.1%(32:Int))).toNat i64.bits))))).toNat:Nat)),()))
 .leaf (((if o7.2.1<o7.1 then o7.1 else o7.2.1),q10,()),(true,())))
def Ap4 (a0:Db) (a1:YI):Option (Db×(Bool×Unit)):=(Ape a0 a1).val
def Apf (a0:YBs) (a1:YI) (a2:Aq):Tree (YBs×(Bool×Unit)):=
 letI u1:=a2.2.2.2.2.2.2.2;.ob (Lj a1 a2) fun r1=>
 .br ((a0.1.length:Int) != (32:Int)) (
 .leaf ((([]:List YB),()),(false,()))) (
 .br ((r1.1.length:Int)==(0:Int)) (
 .leaf ((([]:List YB),()),(false,()))) (
 .ob (Aek a0 r1) fun r2=>
 .ob (Qo (u1.2.2.2.1,()) r2) fun r3=>
 .br (!r3.1) (
 .leaf ((([]:List YB),()),(false,()))) (
 .ob (Xm a1 (a2.2.2.2.1,()) (u1.1,()) (u1.2.1,())) fun r4=>
 .ob (Awk a0 r4 (u1.2.2.1,())) fun r5=>
 .leaf (r5,(true,())))))
def Ap5 (a0:YBs) (a1:YI) (a2:Aq):Option (YBs×(Bool×Unit)):=(Apf a0 a1 a2).val
def Apg (a0:YEp) (a1:YI) (a2:Aq):Tree (YEp×YBs×YI):=
 letI u1:=a2.2.2.2.2.2.2.2;.ob (Tg a0) fun r1=>
 .ob (Z1 a0) fun r2=>
 .br (!r2.1) (
 .leaf (r1,(([]:List YB),()),((1:Int),()))) (
 .ob (Lj a1 a2) fun r3=>
 .br ((r3.1.length:Int)==(0:Int)) (
 .leaf (r1,(([]:List YB),()),((1:Int),()))) (
 .br (u1.1 != a0.1) (
 .leaf (r1,(([]:List YB),()),((1:Int),()))) (
 .ob (Ap4 (a0.2.2.2.1,a0.2.2.2.2.1,()) (u1.2.1,())) fun r4=>
 .br (!r4.2.1) (
 .leaf (r1,(([]:List YB),()),((3:Int),()))) (
 .ob (Ap5 (a0.2.1,()) a1 a2) fun r5=>
 .br (!r5.2.1) (
 .leaf (r1,(([]:List YB),()),((2:Int),()))) (
 .leaf ((r1.1,r1.2.1,r1.2.2.1,r4.1.1,r4.1.2.1,()),r5.1,((0:Int),())))))))
def I2 (a0:YEp) (a1:YI) (a2:Aq):Option (YEp×YBs×YI):=(Apg a0 a1 a2).val
def Z4 (a0:Ap) (r1:Ap) (r8:YEp×YBs×YI) (a1:YI):Tree (Ap×YBs×YI):=
 letI u1:=r1.2.2.2.2.2.2.2;letI u2:=u1.2.2;letI u3:=u2.2.2;letI u4:=r8.1.2.2;.br (a0.2.2.2.2.2.2.2.2.2.2.2.2.2.1==(-1:Int)) (
 .leaf ((r1.1,r1.2.1,r8.1.1,r8.1.2.1,u4.1,u4.2.1,u4.2.2.1,u1.1,u1.2.1,u2.1,u2.2.1,u3.1,u3.2.1,(i64.wrap (a1.1+(5:Int))),u3.2.2.2.1,()),r8.2.1,((0:Int),()))) (
 .leaf ((r1.1,r1.2.1,r8.1.1,r8.1.2.1,u4.1,u4.2.1,u4.2.2.1,u1.1,u1.2.1,u2.1,u2.2.1,u3.1,u3.2.1,u3.2.2.1,u3.2.2.2.1,()),r8.2.1,((0:Int),())))
def N8 (a0:Ap) (r1:Ap) (r8:YEp×YBs×YI) (a1:YI):Tree (Ap×YBs×YI):=
 letI u1:=r1.2.2.2.2.2.2.2;letI u2:=u1.2.2.2;.br a0.2.2.2.2.2.2.2.2.2.2.2.2.1 (
 Z4 a0 r1 r8 a1) (
 .leaf ((r1.1,r1.2.1,r8.1.1,r8.1.2.1,r8.1.2.2.1,r8.1.2.2.2.1,r8.1.2.2.2.2.1,u1.1,u1.2.1,u1.2.2.1,u2.1,u2.2.1,u2.2.2.1,u2.2.2.2.1,u2.2.2.2.2.1,()),r8.2.1,((0:Int),())))
def Z5 (a2:Aq) (a0:Ap) (r1:Ap) (r8:YEp×YBs×YI) (a1:YI):Tree (Ap×YBs×YI):=
 letI u1:=r1.2.2;letI u2:=u1.2.2;letI u3:=u2.2.2.2.2.2.2.2.2;letI u4:=r8.1.2.2;.br (a2.2.2.2.2.2.2.2.1==a0.2.2.2.2.2.2.2.1) (
 .leaf ((r1.1,r1.2.1,u1.1,u1.2.1,u2.1,u2.2.1,u2.2.2.1,r8.1.1,r8.1.2.1,u4.1,u4.2.1,u4.2.2.1,u3.1,u3.2.1,u3.2.2.1,()),r8.2.1,((0:Int),()))) (
 .leaf ((r1.1,r1.2.1,r8.1.1,r8.1.2.1,u4.1,u4.2.1,u4.2.2.1,u1.1,u1.2.1,u2.1,u2.2.1,u2.2.2.1,true,(i64.wrap (a1.1+(5:Int))),([]:List YB),()),r8.2.1,((0:Int),())))
def K6 (a2:Aq) (a0:Ap) (r1:Ap) (r8:YEp×YBs×YI) (a1:YI):Tree (Ap×YBs×YI):=
 .br (a2.2.2.2.2.2.2.2.1==a0.2.2.1) (
 N8 a0 r1 r8 a1) (
 Z5 a2 a0 r1 r8 a1)
def Th (r8:YEp×YBs×YI) (r1:Ap) (a2:Aq) (a0:Ap) (a1:YI):Tree (Ap×YBs×YI):=
 .br (r8.2.2.1 != (0:Int)) (
 .leaf (r1,(([]:List YB),()),r8.2.2)) (
 K6 a2 a0 r1 r8 a1)
def Al8 (r7:YEp) (a0:Ap) (a2:Aq) (r1:Ap) (a1:YI):Tree (Ap×YBs×YI):=
 .ob (I2 r7 ((i64.wrap ((1:Int)-a0.1)),()) a2) fun r8=>
 Th r8 r1 a2 a0 a1
def Z6 (a0:Ap) (a2:Aq) (r1:Ap) (a1:YI):Tree (Ap×YBs×YI):=
 .ob (Ol ((i64.wrap (a0.2.2.1+(1:Int))),()) (a0.2.2.2.2.2.2.2.2.2.2.2.2.2.2.1,())) fun r7=>
 Al8 r7 a0 a2 r1 a1
def Ti (a0:Ap) (a2:Aq) (r1:Ap) (a1:YI):Tree (Ap×YBs×YI):=
 letI u1:=a0.2.2.2.2.2.2.2;.ob (I2 (u1.1,u1.2.1,u1.2.2.1,u1.2.2.2.1,u1.2.2.2.2.1,()) ((i64.wrap ((1:Int)-a0.1)),()) a2) fun r9=>
 Th r9 r1 a2 a0 a1
def Al9 (a2:Aq) (a0:Ap) (r1:Ap) (a1:YI):Tree (Ap×YBs×YI):=
 .br (a2.2.2.2.2.2.2.2.1==(i64.wrap (a0.2.2.1+(1:Int)))) (
 Z6 a0 a2 r1 a1) (
 Ti a0 a2 r1 a1)
def Qw (a0:Ap) (a2:Aq) (r1:Ap) (a1:YI):Tree (Ap×YBs×YI):=
 letI u1:=a0.2.2.2;.ob (I2 (a0.2.2.1,u1.1,u1.2.1,u1.2.2.1,u1.2.2.2.1,()) ((i64.wrap ((1:Int)-a0.1)),()) a2) fun r12=>
 Th r12 r1 a2 a0 a1
def Xn (a2:Aq) (a0:Ap) (r1:Ap) (a1:YI):Tree (Ap×YBs×YI):=
 .br (a2.2.2.2.2.2.2.2.1==(i64.wrap (a0.2.2.1+(1:Int)))) (
 Z6 a0 a2 r1 a1) (
 Qw a0 a2 r1 a1)
def Ju (a2:Aq) (a0:Ap) (r1:Ap) (a1:YI):Tree (Ap×YBs×YI):=
 .br (a2.2.2.2.2.2.2.2.1==a0.2.2.2.2.2.2.2.1) (
 Al9 a2 a0 r1 a1) (
 Xn a2 a0 r1 a1)
def Aif (a1:YI) (a0:Ap) (r1:Ap) (a2:Aq):Tree (Ap×YBs×YI):=
 .br (decide (a1.1>a0.2.2.2.2.2.2.2.2.2.2.2.2.2.1)) (
 .leaf (r1,(([]:List YB),()),((9:Int),()))) (
 Ju a2 a0 r1 a1)
def Aig (a0:Ap) (a1:YI) (r1:Ap) (a2:Aq):Tree (Ap×YBs×YI):=
 .br (a0.2.2.2.2.2.2.2.2.2.2.2.2.2.1 != (-1:Int)) (
 Aif a1 a0 r1 a2) (
 Ju a2 a0 r1 a1)
def Jv (a2:Aq) (a0:Ap) (a1:YI) (r1:Ap):Tree (Ap×YBs×YI):=
 .br (a2.2.2.2.2.2.2.2.1==a0.2.2.2.2.2.2.2.1) (
 Aig a0 a1 r1 a2) (
 Ju a2 a0 r1 a1)
def Mq (a2:Aq) (a0:Ap) (r1:Ap) (a1:YI):Tree (Ap×YBs×YI):=
 .br (a2.2.2.2.2.2.2.2.1==a0.2.2.2.2.2.2.2.1) (
 Ti a0 a2 r1 a1) (
 Qw a0 a2 r1 a1)
def Aih (a1:YI) (a0:Ap) (r1:Ap) (a2:Aq):Tree (Ap×YBs×YI):=
 .br (decide (a1.1>a0.2.2.2.2.2.2.2.2.2.2.2.2.2.1)) (
 .leaf (r1,(([]:List YB),()),((9:Int),()))) (
 Mq a2 a0 r1 a1)
def Aii (a0:Ap) (a1:YI) (r1:Ap) (a2:Aq):Tree (Ap×YBs×YI):=
 .br (a0.2.2.2.2.2.2.2.2.2.2.2.2.2.1 != (-1:Int)) (
 Aih a1 a0 r1 a2) (
 Mq a2 a0 r1 a1)
def Qx (a2:Aq) (a0:Ap) (a1:YI) (r1:Ap):Tree (Ap×YBs×YI):=
 .br (a2.2.2.2.2.2.2.2.1==a0.2.2.2.2.2.2.2.1) (
 Aii a0 a1 r1 a2) (
 Mq a2 a0 r1 a1)
def Qy (a2:Aq) (a0:Ap) (r1:Ap) (r76:YEp×YBs×YI) (a1:YI):Tree (Ap×YBs×YI):=
 letI u1:=r1.2.2.2;.br (a2.2.2.2.2.2.2.2.1==a0.2.2.1) (
 N8 a0 r1 r76 a1) (
 .leaf ((r1.1,r1.2.1,r76.1.1,r76.1.2.1,r76.1.2.2.1,r76.1.2.2.2.1,r76.1.2.2.2.2.1,r1.2.2.1,u1.1,u1.2.1,u1.2.2.1,u1.2.2.2.1,true,(i64.wrap (a1.1+(5:Int))),([]:List YB),()),r76.2.1,((0:Int),())))
def Xo (r76:YEp×YBs×YI) (r1:Ap) (a2:Aq) (a0:Ap) (a1:YI):Tree (Ap×YBs×YI):=
 .br (r76.2.2.1 != (0:Int)) (
 .leaf (r1,(([]:List YB),()),r76.2.2)) (
 Qy a2 a0 r1 r76 a1)
def Aij (r75:YEp) (a0:Ap) (a2:Aq) (r1:Ap) (a1:YI):Tree (Ap×YBs×YI):=
 .ob (I2 r75 ((i64.wrap ((1:Int)-a0.1)),()) a2) fun r76=>
 Xo r76 r1 a2 a0 a1
def Aik (a0:Ap) (a2:Aq) (r1:Ap) (a1:YI):Tree (Ap×YBs×YI):=
 .ob (Ol ((i64.wrap (a0.2.2.1+(1:Int))),()) (a0.2.2.2.2.2.2.2.2.2.2.2.2.2.2.1,())) fun r75=>
 Aij r75 a0 a2 r1 a1
def Qz (a0:Ap) (a2:Aq) (r1:Ap) (a1:YI):Tree (Ap×YBs×YI):=
 letI u1:=a0.2.2.2;.ob (I2 (a0.2.2.1,u1.1,u1.2.1,u1.2.2.1,u1.2.2.2.1,()) ((i64.wrap ((1:Int)-a0.1)),()) a2) fun r77=>
 Xo r77 r1 a2 a0 a1
def Q0 (a2:Aq) (a0:Ap) (r1:Ap) (a1:YI):Tree (Ap×YBs×YI):=
 .br (a2.2.2.2.2.2.2.2.1==(i64.wrap (a0.2.2.1+(1:Int)))) (
 Aik a0 a2 r1 a1) (
 Qz a0 a2 r1 a1)
def Aga (a0:Ap) (a1:YI) (a2:Aq):Tree (Ap×YBs×YI):=
 letI u1:=a0.2.2;letI u2:=u1.2.2.2.2.2;letI u3:=a2.2.2.2;letI u4:=u3.2.2.2.2;.ob (H5 a0) fun r1=>
 .ob (Kf a0) fun r2=>
 .br (!r2.1) (
 .leaf (r1,(([]:List YB),()),((1:Int),()))) (
 .ob (Bh a1 ((0:Int),()) ((1000000:Int),())) fun r3=>
 .br (!r3.1) (
 .leaf (r1,(([]:List YB),()),((1:Int),()))) (
 .ob (Mo (a2.1,())) fun r4=>
 .br (!r4.1) (
 .leaf (r1,(([]:List YB),()),((1:Int),()))) (
 .ob (Dh a2) fun r5=>
 .br (!r5.1) (
 .leaf (r1,(([]:List YB),()),((1:Int),()))) (
 .br u2.2.2.2.2.2.1 (
 .br (decide ((a0.2.2.2.2.2.2.2.2.2.2.2.2.2.2.1.length:Int)>(0:Int))) (
 .ob (Vq (u3.1,()) (a0.2.1,())) fun r6=>
 .br (r6.1 != (0:Int)) (
 .leaf (r1,(([]:List YB),()),((8:Int),()))) (
 .br (!(u4.1==u1.1)) (
 .br (!(u4.1==u2.1)) (
 .br (!(u4.1==(i64.wrap (u1.1+(1:Int))))) (
 .leaf (r1,(([]:List YB),()),((8:Int),()))) (
 Jv a2 a0 a1 r1)) (
 Jv a2 a0 a1 r1)) (
 Jv a2 a0 a1 r1))) (
 .ob (Vq (u3.1,()) (a0.2.1,())) fun r61=>
 .br (r61.1 != (0:Int)) (
 .leaf (r1,(([]:List YB),()),((8:Int),()))) (
 .br (!(u4.1==u1.1)) (
 .br (!(u4.1==u2.1)) (
 .leaf (r1,(([]:List YB),()),((8:Int),()))) (
 Qx a2 a0 a1 r1)) (
 Qx a2 a0 a1 r1)))) (
 .br (decide ((a0.2.2.2.2.2.2.2.2.2.2.2.2.2.2.1.length:Int)>(0:Int))) (
 .ob (Vq (u3.1,()) (a0.2.1,())) fun r74=>
 .br (r74.1 != (0:Int)) (
 .leaf (r1,(([]:List YB),()),((8:Int),()))) (
 .br (!(u4.1==u1.1)) (
 .br (!(u4.1==(i64.wrap (u1.1+(1:Int))))) (
 .leaf (r1,(([]:List YB),()),((8:Int),()))) (
 Q0 a2 a0 r1 a1)) (
 Q0 a2 a0 r1 a1))) (
 .ob (Vq (u3.1,()) (a0.2.1,())) fun r81=>
 .br (r81.1 != (0:Int)) (
 .leaf (r1,(([]:List YB),()),((8:Int),()))) (
 .br (!(u4.1==u1.1)) (
 .leaf (r1,(([]:List YB),()),((8:Int),()))) (
 Qz a0 a2 r1 a1))))))))
def N9 (a0:Ap) (a1:YI) (a2:Aq):Option (Ap×YBs×YI):=(Aga a0 a1 a2).val
def Aph (a0:Ap) (a1:YI):Tree (YBs×(Bool×Unit)):=
 letI u1:=a0.2.2;letI u2:=u1.2.2.2.2.2;letI u3:=u2.2.2.2.2.2;.ob (Kf a0) fun r1=>
 .br (!r1.1) (
 .leaf ((([]:List YB),()),(false,()))) (
 .br u3.1 (
 .br (a1.1==u2.1) (
 .ob (Bk (u2.2.1,())) fun r2=>
 .leaf (r2,(true,()))) (
 .br (a1.1==u1.1) (
 .ob (Bk (u1.2.1,())) fun r3=>
 .leaf (r3,(true,()))) (
 .br (decide ((a0.2.2.2.2.2.2.2.2.2.2.2.2.2.2.1.length:Int)>(0:Int))) (
 .br (a1.1==(i64.wrap (u1.1+(1:Int)))) (
 .ob (Bk (u3.2.2.1,())) fun r4=>
 .leaf (r4,(true,()))) (
 .leaf ((([]:List YB),()),(false,())))) (
 .leaf ((([]:List YB),()),(false,())))))) (
 .br (a1.1==u1.1) (
 .ob (Bk (u1.2.1,())) fun r5=>
 .leaf (r5,(true,()))) (
 .br (decide ((a0.2.2.2.2.2.2.2.2.2.2.2.2.2.2.1.length:Int)>(0:Int))) (
 .br (a1.1==(i64.wrap (u1.1+(1:Int)))) (
 .ob (Bk (u3.2.2.1,())) fun r6=>
 .leaf (r6,(true,()))) (
 .leaf ((([]:List YB),()),(false,())))) (
 .leaf ((([]:List YB),()),(false,()))))))
def Xp (a0:Ap) (a1:YI):Option (YBs×(Bool×Unit)):=(Aph a0 a1).val
def Ro (x1:(List A8)×Int×Int×Int×Int×Unit):Option (((List A8)×Int×Int×Int×Int×Unit)⊕(YI⊕(Unit))):=
 letI u1:=x1.2.2;Tree.val <|
 .br (decide (u1.1<x1.2.1)) (
 .ob (idx x1.1 u1.1) fun e2=>
 .br (and (e2.1==u1.2.1) (and (e2.2.1==u1.2.2.1) true)) (
 .leaf (.inr (.inl (u1.1,())))) (
 .leaf (.inl (x1.1,x1.2.1,(i64.wrap (u1.1+(1:Int))),u1.2.1,u1.2.2.1,())))) (
 .leaf (.inr (.inr ())))
def Apj (a0:Bm) (a1:A7):Tree (YI):=
 .ob (Ax Ro (a0.2.2.1,(a0.2.2.1.length:Int),(0:Int),a1.1,a1.2.1,())) fun o3=>
 .sm o3 (fun o4=>
 .leaf o4) (fun o5=>
 .leaf ((-1:Int),()))
def Ad6 (a0:Bm) (a1:A7):Option (YI):=(Apj a0 a1).val
def Adv (a0:Bm) (a1:YI) (a2:A7) (a3:YBs):Tree (Bm×(Bool×Unit)):=
 .ob (Fb a0) fun r1=>
 .ob (Ad6 a0 a2) fun r2=>
 .ob (Us a0) fun r3=>
 .br (!r3.1) (
 .leaf (r1,(false,()))) (
 .ob (Bh a1 ((0:Int),()) ((1000000:Int),())) fun r4=>
 .br (!r4.1) (
 .leaf (r1,(false,()))) (
 .br (decide (r2.1<(0:Int))) (
 .leaf (r1,(false,()))) (
 .ob (idx a0.2.2.1 r2.1) fun e5=>
 .ob (Cf a3 (e5.2.2.1,())) fun r6=>
 .br (!r6.1) (
 .leaf (r1,(false,()))) (
 .ob (idx a0.2.2.1 r2.1) fun e7=>
 .br (decide (a1.1>e7.2.2.2.1)) (
 .leaf (r1,(false,()))) (
 .chk (decide ((0:Int)<=r2.1)) <|
 .chk (decide (r2.1<=(r1.2.2.1.length:Int))) <|
 .chk (decide ((0:Int)<=(i64.wrap (r2.1+(1:Int))))) <|
 .chk (decide ((i64.wrap (r2.1+(1:Int)))<=(r1.2.2.1.length:Int))) <|
 .chk (decide ((r1.2.2.1.length:Int)<=(r1.2.2.1.length:Int))) <|
 .chk (decide (((r1.2.2.1.take (r2.1).toNat).drop ((0:Int)).toNat).length+((r1.2.2.1.take ((r1.2.2.1.length:Int)).toNat).drop ((i64.wrap (r2.1+(1:Int)))).toNat).length<=4294967296)) <|
 .chk (Nat.ble ((r1.2.2.1.take (r2.1).toNat).drop ((0:Int)).toNat).length (((i64.wrap (r2.1+(1:Int)))).toNat)) <|
 .chk (Nat.blt 0 r1.2.2.1.length) <|
 .leaf ((a2.1,a2.2.1,(((r1.2.2.1.take (r2.1).toNat).drop ((0:Int)).toNat)++((r1.2.2.1.take ((r1.2.2.1.length:Int)).toNat).drop ((i64.wrap (r2.1+(1:Int)))).toNat)),()),(true,())))))))
def Pb (a0:Bm) (a1:YI) (a2:A7) (a3:YBs):Option (Bm×(Bool×Unit)):=(Adv a0 a1 a2 a3).val
def A0i (a0:Ap):Tree (Ap×(Bool×Unit)):=
 .ob (H5 a0) fun r1=>letI u1:=r1.2.2.2;
 .ob (Kf a0) fun r2=>
 .br (!r2.1) (
 .leaf (r1,(false,()))) (
 .br (a0.1 != (1:Int)) (
 .leaf (r1,(false,()))) (
 .br (a0.2.2.1==(4294967295:Int)) (
 .leaf (r1,(false,()))) (
 .ob (Mp (a0.2.2.2.1,()) ((Dd [114,101,107,101,121]),())) fun r3=>
 .ob (Ol ((i64.wrap (a0.2.2.1+(1:Int))),()) r3) fun r4=>
 .leaf ((r1.1,r1.2.1,r4.1,r4.2.1,r4.2.2.1,r4.2.2.2.1,r4.2.2.2.2.1,r1.2.2.1,u1.1,u1.2.1,u1.2.2.1,u1.2.2.2.1,true,(-1:Int),u1.2.2.2.2.2.2.2.2.2.2.2.1,()),(true,())))))
def A0o (a0:Ap):Option (Ap×(Bool×Unit)):=(A0i a0).val
def Ac6 (a0:Ap) (a1:YI) (a2:YBs):Tree (Ap×YI):=
 .ob (H5 a0) fun r1=>
 .ob (Kf a0) fun r2=>
 .br (!r2.1) (
 .leaf (r1,((6:Int),()))) (
 .br (a0.1 != (1:Int)) (
 .leaf (r1,((6:Int),()))) (
 .ob (Bh a1 ((0:Int),()) ((4294967294:Int),())) fun r3=>
 .br (!r3.1) (
 .leaf (r1,((6:Int),()))) (
 .ob (Vd ((i64.wrap (a1.1+(1:Int))),())) fun r4=>
 .ob (Cf a2 r4) fun r5=>
 .br (!r5.1) (
 .leaf (r1,((6:Int),()))) (
 .br (a1.1==(i64.wrap (a0.2.2.1-(1:Int)))) (
 .leaf (r1,((0:Int),()))) (
 .ob (A0o a0) fun r6=>
 .br (a1.1 != a0.2.2.1) (
 .leaf (r1,((6:Int),()))) (
 .br (!r6.2.1) (
 .leaf (r1,((6:Int),()))) (
 .leaf (r6.1,((0:Int),())))))))))
def Pz (a0:Ap) (a1:YI) (a2:YBs):Option (Ap×YI):=(Ac6 a0 a1 a2).val
def Va (a0:Ak) (a1:YI) (a2:YBs):Tree (Ak×((List Bc)×Unit)×((List Ay)×Unit)):=
 letI u1:=a0.2.2;letI u2:=u1.2.2.2;letI u3:=u2.2.2.2;letI u4:=u3.2.2.2;letI u5:=u4.2.2.2;letI u6:=u5.2.2.2.2;letI u7:=u6.2.2;letI u8:=u7.2.2;.ob (Pz (u1.2.1,u1.2.2.1,u2.1,u2.2.1,u2.2.2.1,u3.1,u3.2.1,u3.2.2.1,u4.1,u4.2.1,u4.2.2.1,u5.1,u5.2.1,u5.2.2.1,u5.2.2.2.1,()) a1 a2) fun r1=>letI u9:=r1.1.2.2;letI u10:=u9.2.2;letI u11:=u10.2.2;letI u12:=u11.2.2;letI u13:=u12.2.2;letI u14:=u13.2.2;
 .br (r1.2.1 != (0:Int)) (
 .leaf (a0,(([]:List Bc),()),(([]:List Ay),()))) (
 .br (u9.1 != u2.1) (
 .ob (Bk (u1.1,())) fun r2=>
 .ob (Bk (u9.2.1,())) fun r3=>
 .chk (decide (([]:List Ay).length+[((10:Int),(0:Int),(1:Int),([]:List YB),r2.1,u9.1,(0:Int),([]:List YB),r3.1,(0:Int),(0:Int),(0:Int),())].length<=4294967296)) <|
 .ob (Ael r1.1) fun r4=>letI u15:=r4.1.2.2.2;letI u16:=u15.2.2.2;letI u17:=u16.2.2.2.2;
 .br (r4.2.2.1 != (0:Int)) (
 .leaf ((a0.1,a0.2.1,u1.1,r1.1.1,r1.1.2.1,u9.1,u9.2.1,u10.1,u10.2.1,u11.1,u11.2.1,u12.1,u12.2.1,u13.1,u13.2.1,u14.1,u14.2.1,u14.2.2.1,u6.1,u6.2.1,u7.1,u7.2.1,u8.1,u8.2.1,()),(([]:List Bc),()),((([]:List Ay)++[((10:Int),(0:Int),(1:Int),([]:List YB),r2.1,u9.1,(0:Int),([]:List YB),r3.1,(0:Int),(0:Int),(0:Int),())]),()))) (
 .ob (H6 r4.1 r4.2.1) fun r5=>
 .chk (decide ((([]:List Ay)++[((10:Int),(0:Int),(1:Int),([]:List YB),r2.1,u9.1,(0:Int),([]:List YB),r3.1,(0:Int),(0:Int),(0:Int),())]).length+[r5].length<=4294967296)) <|
 .leaf ((a0.1,a0.2.1,u1.1,r4.1.1,r4.1.2.1,r4.1.2.2.1,u15.1,u15.2.1,u15.2.2.1,u16.1,u16.2.1,u16.2.2.1,u16.2.2.2.1,u17.1,u17.2.1,u17.2.2.1,u17.2.2.2.1,u17.2.2.2.2.1,u6.1,u6.2.1,u7.1,u7.2.1,u8.1,u8.2.1,()),([(u6.1,u6.2.1,r4.2.1.1,r4.2.1.2.1,r4.2.1.2.2.1,r4.2.1.2.2.2.1,r4.2.1.2.2.2.2.1,r4.2.1.2.2.2.2.2.1,r4.2.1.2.2.2.2.2.2.1,r4.2.1.2.2.2.2.2.2.2.1,r4.2.1.2.2.2.2.2.2.2.2.1,r4.2.1.2.2.2.2.2.2.2.2.2.1,r4.2.1.2.2.2.2.2.2.2.2.2.2.1,())],()),(((([]:List Ay)++[((10:Int),(0:Int),(1:Int),([]:List YB),r2.1,u9.1,(0:Int),([]:List YB),r3.1,(0:Int),(0:Int),(0:Int),())])++[r5]),())))) (
 .ob (Ael r1.1) fun r6=>letI u18:=r6.1.2.2.2;letI u19:=u18.2.2.2;letI u20:=u19.2.2.2.2;
 .br (r6.2.2.1 != (0:Int)) (
 .leaf ((a0.1,a0.2.1,u1.1,r1.1.1,r1.1.2.1,u9.1,u9.2.1,u10.1,u10.2.1,u11.1,u11.2.1,u12.1,u12.2.1,u13.1,u13.2.1,u14.1,u14.2.1,u14.2.2.1,u6.1,u6.2.1,u7.1,u7.2.1,u8.1,u8.2.1,()),(([]:List Bc),()),(([]:List Ay),()))) (
 .ob (H6 r6.1 r6.2.1) fun r7=>
 .chk (decide (([]:List Ay).length+[r7].length<=4294967296)) <|
 .leaf ((a0.1,a0.2.1,u1.1,r6.1.1,r6.1.2.1,r6.1.2.2.1,u18.1,u18.2.1,u18.2.2.1,u19.1,u19.2.1,u19.2.2.1,u19.2.2.2.1,u20.1,u20.2.1,u20.2.2.1,u20.2.2.2.1,u20.2.2.2.2.1,u6.1,u6.2.1,u7.1,u7.2.1,u8.1,u8.2.1,()),([(u6.1,u6.2.1,r6.2.1.1,r6.2.1.2.1,r6.2.1.2.2.1,r6.2.1.2.2.2.1,r6.2.1.2.2.2.2.1,r6.2.1.2.2.2.2.2.1,r6.2.1.2.2.2.2.2.2.1,r6.2.1.2.2.2.2.2.2.2.1,r6.2.1.2.2.2.2.2.2.2.2.1,r6.2.1.2.2.2.2.2.2.2.2.2.1,r6.2.1.2.2.2.2.2.2.2.2.2.2.1,())],()),((([]:List Ay)++[r7]),())))))
def Ve (a0:Ak) (a1:YI) (a2:YBs):Option (Ak×((List Bc)×Unit)×((List Ay)×Unit)):=(Va a0 a1 a2).val
def Fr (x2:Int×(List A8)×Int×Int×Int×Int×(List A8)×Int×Int×(List A8)×Unit):Option ((Int×(List A8)×Int×Int×Int×Int×(List A8)×Int×Int×(List A8)×Unit)⊕((Int×Int×(List A8)×Int×Int×(List A8)×Unit))):=
 letI u1:=x2.2.2.2;letI u2:=u1.2.2;letI u3:=u2.2.2;Tree.val <|
 .br (decide (u1.1<x2.2.2.1)) (
 .chk (Nat.beq (Int.toNat u1.1) (Int.toNat u1.1)) <|
 .ob (idx x2.2.1 u1.1) fun e3=>
 .br (decide (e3.2.2.2.1≥x2.1)) (
 .chk (decide (x2.2.2.2.2.2.2.2.2.2.1.length+[e3].length<=4294967296)) <|
 .chk (Nat.ble (Int.toNat u1.1+1) (Int.toNat (i64.wrap (u1.1+(1:Int))))) <|
 .leaf (.inl (x2.1,x2.2.1,x2.2.2.1,(i64.wrap (u1.1+(1:Int))),u1.2.1,u2.1,u2.2.1,u3.1,u3.2.1,(u3.2.2.1++[e3]),()))) (
 .chk (Nat.ble (Int.toNat u1.1+1) (Int.toNat (i64.wrap (u1.1+(1:Int))))) <|
 .leaf (.inl (x2.1,x2.2.1,x2.2.2.1,(i64.wrap (u1.1+(1:Int))),u1.2.1,u2.1,u2.2.1,u3.1,u3.2.1,u3.2.2.1,())))) (
 .leaf (.inr (u1.2.1,u2.1,u2.2.1,u3.1,u3.2.1,u3.2.2.1,())))
def Mk (a0:Bm) (a1:YI):Tree (Bm):=
 .ob (Fb a0) fun r1=>
 .ob (Ax Fr (a1.1,r1.2.2.1,(r1.2.2.1.length:Int),(0:Int),(0:Int),(0:Int),([]:List A8),a0.1,a0.2.1,([]:List A8),())) fun o4=>
 .leaf (o4.2.2.2.1,o4.2.2.2.2.1,o4.2.2.2.2.2.1,())
def Rv (a0:Bm) (a1:YI):Option (Bm):=(Mk a0 a1).val
def Ab6 (a0:Bm) (a1:YI) (a2:A7) (a3:YBs):Tree (Bm×(Bool×Unit)):=
 .ob (Us a0) fun r1=>
 .br (!r1.1) (
 .ob (Fb a0) fun r2=>
 .leaf (r2,(false,()))) (
 .ob (Bh a1 ((0:Int),()) ((1000000:Int),())) fun r3=>
 .br (!r3.1) (
 .ob (Fb a0) fun r4=>
 .leaf (r4,(false,()))) (
 .ob (Gr a2) fun r5=>
 .br (!r5.1) (
 .ob (Fb a0) fun r6=>
 .leaf (r6,(false,()))) (
 .ob (Dw a3) fun r7=>
 .br (!r7.1) (
 .ob (Fb a0) fun r8=>
 .leaf (r8,(false,()))) (
 .br (and (a2.1==a0.1) (and (a2.2.1==a0.2.1) true)) (
 .ob (Fb a0) fun r9=>
 .leaf (r9,(false,()))) (
 .ob (Rv a0 a1) fun r10=>
 .ob (Ad6 r10 a2) fun r11=>
 .br (decide (r11.1≥(0:Int))) (
 .ob (Fb a0) fun r12=>
 .leaf (r12,(false,()))) (
 .br ((r10.2.2.1.length:Int)==(3:Int)) (
 .ob (Fb a0) fun r13=>
 .leaf (r13,(false,()))) (
 .ob (Bk a3) fun r14=>
 .chk (decide (r10.2.2.1.length+[(a2.1,a2.2.1,r14.1,(i64.wrap (a1.1+(6:Int))),())].length<=4294967296)) <|
 .leaf ((r10.1,r10.2.1,(r10.2.2.1++[(a2.1,a2.2.1,r14.1,(i64.wrap (a1.1+(6:Int))),())]),()),(true,())))))))))
def Di (a0:Bm) (a1:YI) (a2:A7) (a3:YBs):Option (Bm×(Bool×Unit)):=(Ab6 a0 a1 a2 a3).val
def Xb (a0:Ak) (a1:YI) (a2:A7) (a3:Aq) (a4:YBs):Tree (Ak×((List Bc)×Unit)×((List Ay)×Unit)×(Bool×Unit)):=
 letI u1:=a0.2.2;letI u2:=u1.2.2;letI u3:=u2.2.2;letI u4:=u3.2.2;letI u5:=u4.2.2;letI u6:=u5.2.2;letI u7:=u6.2.2;letI u8:=u7.2.2.2;letI u9:=a3.2.2.2.2.2.2.2;.ob (Ja a0) fun r1=>letI u10:=r1.2.2;letI u11:=u10.2.2.2.2.2.2.2.2.2.2.2.2.2.2.2.2;letI u12:=u11.2.2;letI u13:=u12.2.2.2;
 .ob (Pa a0) fun r2=>
 .br (!r2.1) (
 .leaf (r1,(([]:List Bc),()),(([]:List Ay),()),(false,()))) (
 .br u8.2.2.2.2.2.2.1 (
 .leaf (r1,(([]:List Bc),()),(([]:List Ay),()),(false,()))) (
 .ob (Gr a2) fun r3=>
 .br (!r3.1) (
 .leaf (r1,(([]:List Bc),()),(([]:List Ay),()),(false,()))) (
 .ob (N9 (u1.2.1,u2.1,u2.2.1,u3.1,u3.2.1,u4.1,u4.2.1,u5.1,u5.2.1,u6.1,u6.2.1,u7.1,u7.2.1,u7.2.2.1,u8.1,()) a1 a3) fun r4=>letI u14:=r4.1.2.2;letI u15:=u14.2.2;letI u16:=u15.2.2;letI u17:=u16.2.2;letI u18:=u17.2.2;letI u19:=u18.2.2;letI u20:=u19.2.2;
 .br (r4.2.2.1 != (0:Int)) (
 .leaf (r1,(([]:List Bc),()),(([]:List Ay),()),(false,()))) (
 .ob (Xp (u1.2.1,u2.1,u2.2.1,u3.1,u3.2.1,u4.1,u4.2.1,u5.1,u5.2.1,u6.1,u6.2.1,u7.1,u7.2.1,u7.2.2.1,u8.1,()) (u9.1,())) fun r5=>
 .ob (Lj ((0:Int),()) a3) fun r6=>
 .ob (Agu r5.1 (u1.1,()) r6) fun r7=>
 .br (a3.1==(4:Int)) (
 .ob (Bk (u1.1,())) fun r8=>
 .chk (decide ([r7].length+[((6:Int),(0:Int),(0:Int),([]:List YB),r8.1,u9.1,u9.2.1,r4.2.1.1,([]:List YB),(0:Int),(0:Int),a1.1,())].length<=4294967296)) <|
 .ob (Di (u11.1,u11.2.1,u12.1,()) a1 a2 a4) fun r9=>
 .ob (Co r4.1 ((5:Int),()) a4) fun r10=>letI u21:=r10.1.2.2.2;letI u22:=u21.2.2.2;letI u23:=u22.2.2.2.2;
 .br (!r9.2.1) (
 .leaf ((r1.1,r1.2.1,u10.1,r4.1.1,r4.1.2.1,u14.1,u14.2.1,u15.1,u15.2.1,u16.1,u16.2.1,u17.1,u17.2.1,u18.1,u18.2.1,u19.1,u19.2.1,u20.1,u11.1,u11.2.1,u12.1,u12.2.1,a1.1,u13.1,()),(([]:List Bc),()),(([r7]++[((6:Int),(0:Int),(0:Int),([]:List YB),r8.1,u9.1,u9.2.1,r4.2.1.1,([]:List YB),(0:Int),(0:Int),a1.1,())]),()),(false,()))) (
 .br (r10.2.2.1 != (0:Int)) (
 .leaf ((r1.1,r1.2.1,u10.1,r4.1.1,r4.1.2.1,u14.1,u14.2.1,u15.1,u15.2.1,u16.1,u16.2.1,u17.1,u17.2.1,u18.1,u18.2.1,u19.1,u19.2.1,u20.1,u11.1,u11.2.1,u12.1,u12.2.1,a1.1,u13.1,()),(([]:List Bc),()),(([r7]++[((6:Int),(0:Int),(0:Int),([]:List YB),r8.1,u9.1,u9.2.1,r4.2.1.1,([]:List YB),(0:Int),(0:Int),a1.1,())]),()),(false,()))) (
 .chk (decide (([]:List Bc).length+[(a2.1,a2.2.1,r10.2.1.1,r10.2.1.2.1,r10.2.1.2.2.1,r10.2.1.2.2.2.1,r10.2.1.2.2.2.2.1,r10.2.1.2.2.2.2.2.1,r10.2.1.2.2.2.2.2.2.1,r10.2.1.2.2.2.2.2.2.2.1,r10.2.1.2.2.2.2.2.2.2.2.1,r10.2.1.2.2.2.2.2.2.2.2.2.1,r10.2.1.2.2.2.2.2.2.2.2.2.2.1,())].length<=4294967296)) <|
 .ob (H6 r10.1 r10.2.1) fun r11=>
 .chk (decide (([r7]++[((6:Int),(0:Int),(0:Int),([]:List YB),r8.1,u9.1,u9.2.1,r4.2.1.1,([]:List YB),(0:Int),(0:Int),a1.1,())]).length+[r11].length<=4294967296)) <|
 .leaf ((r1.1,r1.2.1,u10.1,r10.1.1,r10.1.2.1,r10.1.2.2.1,u21.1,u21.2.1,u21.2.2.1,u22.1,u22.2.1,u22.2.2.1,u22.2.2.2.1,u23.1,u23.2.1,u23.2.2.1,u23.2.2.2.1,u23.2.2.2.2.1,r9.1.1,r9.1.2.1,r9.1.2.2.1,u12.2.1,a1.1,u13.1,()),((([]:List Bc)++[(a2.1,a2.2.1,r10.2.1.1,r10.2.1.2.1,r10.2.1.2.2.1,r10.2.1.2.2.2.1,r10.2.1.2.2.2.2.1,r10.2.1.2.2.2.2.2.1,r10.2.1.2.2.2.2.2.2.1,r10.2.1.2.2.2.2.2.2.2.1,r10.2.1.2.2.2.2.2.2.2.2.1,r10.2.1.2.2.2.2.2.2.2.2.2.1,r10.2.1.2.2.2.2.2.2.2.2.2.2.1,())]),()),((([r7]++[((6:Int),(0:Int),(0:Int),([]:List YB),r8.1,u9.1,u9.2.1,r4.2.1.1,([]:List YB),(0:Int),(0:Int),a1.1,())])++[r11]),()),(true,()))))) (
 .br (a3.1==(6:Int)) (
 .ob (Pb (u8.2.1,u8.2.2.1,u8.2.2.2.1,()) a1 a2 r4.2.1) fun r12=>
 .br r12.2.1 (
 .ob (Bk (u1.1,())) fun r13=>
 .chk (decide ([r7].length+[((9:Int),(0:Int),(0:Int),([]:List YB),r13.1,(0:Int),(0:Int),r4.2.1.1,([]:List YB),a2.1,a2.2.1,a1.1,())].length<=4294967296)) <|
 .ob (Di r12.1 a1 a2 a4) fun r14=>
 .ob (Co r4.1 ((5:Int),()) a4) fun r15=>letI u24:=r15.1.2.2.2;letI u25:=u24.2.2.2;letI u26:=u25.2.2.2.2;
 .br (!r14.2.1) (
 .leaf ((r1.1,r1.2.1,u10.1,r4.1.1,r4.1.2.1,u14.1,u14.2.1,u15.1,u15.2.1,u16.1,u16.2.1,u17.1,u17.2.1,u18.1,u18.2.1,u19.1,u19.2.1,u20.1,r12.1.1,r12.1.2.1,r12.1.2.2.1,u12.2.1,a1.1,u13.1,()),(([]:List Bc),()),(([r7]++[((9:Int),(0:Int),(0:Int),([]:List YB),r13.1,(0:Int),(0:Int),r4.2.1.1,([]:List YB),a2.1,a2.2.1,a1.1,())]),()),(false,()))) (
 .br (r15.2.2.1 != (0:Int)) (
 .leaf ((r1.1,r1.2.1,u10.1,r4.1.1,r4.1.2.1,u14.1,u14.2.1,u15.1,u15.2.1,u16.1,u16.2.1,u17.1,u17.2.1,u18.1,u18.2.1,u19.1,u19.2.1,u20.1,r12.1.1,r12.1.2.1,r12.1.2.2.1,u12.2.1,a1.1,u13.1,()),(([]:List Bc),()),(([r7]++[((9:Int),(0:Int),(0:Int),([]:List YB),r13.1,(0:Int),(0:Int),r4.2.1.1,([]:List YB),a2.1,a2.2.1,a1.1,())]),()),(false,()))) (
 .chk (decide (([]:List Bc).length+[(a2.1,a2.2.1,r15.2.1.1,r15.2.1.2.1,r15.2.1.2.2.1,r15.2.1.2.2.2.1,r15.2.1.2.2.2.2.1,r15.2.1.2.2.2.2.2.1,r15.2.1.2.2.2.2.2.2.1,r15.2.1.2.2.2.2.2.2.2.1,r15.2.1.2.2.2.2.2.2.2.2.1,r15.2.1.2.2.2.2.2.2.2.2.2.1,r15.2.1.2.2.2.2.2.2.2.2.2.2.1,())].length<=4294967296)) <|
 .ob (H6 r15.1 r15.2.1) fun r16=>
 .chk (decide (([r7]++[((9:Int),(0:Int),(0:Int),([]:List YB),r13.1,(0:Int),(0:Int),r4.2.1.1,([]:List YB),a2.1,a2.2.1,a1.1,())]).length+[r16].length<=4294967296)) <|
 .leaf ((r1.1,r1.2.1,u10.1,r15.1.1,r15.1.2.1,r15.1.2.2.1,u24.1,u24.2.1,u24.2.2.1,u25.1,u25.2.1,u25.2.2.1,u25.2.2.2.1,u26.1,u26.2.1,u26.2.2.1,u26.2.2.2.1,u26.2.2.2.2.1,r14.1.1,r14.1.2.1,r14.1.2.2.1,u12.2.1,a1.1,u13.1,()),((([]:List Bc)++[(a2.1,a2.2.1,r15.2.1.1,r15.2.1.2.1,r15.2.1.2.2.1,r15.2.1.2.2.2.1,r15.2.1.2.2.2.2.1,r15.2.1.2.2.2.2.2.1,r15.2.1.2.2.2.2.2.2.1,r15.2.1.2.2.2.2.2.2.2.1,r15.2.1.2.2.2.2.2.2.2.2.1,r15.2.1.2.2.2.2.2.2.2.2.2.1,r15.2.1.2.2.2.2.2.2.2.2.2.2.1,())]),()),((([r7]++[((9:Int),(0:Int),(0:Int),([]:List YB),r13.1,(0:Int),(0:Int),r4.2.1.1,([]:List YB),a2.1,a2.2.1,a1.1,())])++[r16]),()),(true,()))))) (
 .ob (Di (u11.1,u11.2.1,u12.1,()) a1 a2 a4) fun r17=>
 .ob (Co r4.1 ((5:Int),()) a4) fun r18=>letI u27:=r18.1.2.2.2;letI u28:=u27.2.2.2;letI u29:=u28.2.2.2.2;
 .br (!r17.2.1) (
 .leaf ((r1.1,r1.2.1,u10.1,r4.1.1,r4.1.2.1,u14.1,u14.2.1,u15.1,u15.2.1,u16.1,u16.2.1,u17.1,u17.2.1,u18.1,u18.2.1,u19.1,u19.2.1,u20.1,u11.1,u11.2.1,u12.1,u12.2.1,a1.1,u13.1,()),(([]:List Bc),()),([r7],()),(false,()))) (
 .br (r18.2.2.1 != (0:Int)) (
 .leaf ((r1.1,r1.2.1,u10.1,r4.1.1,r4.1.2.1,u14.1,u14.2.1,u15.1,u15.2.1,u16.1,u16.2.1,u17.1,u17.2.1,u18.1,u18.2.1,u19.1,u19.2.1,u20.1,u11.1,u11.2.1,u12.1,u12.2.1,a1.1,u13.1,()),(([]:List Bc),()),([r7],()),(false,()))) (
 .chk (decide (([]:List Bc).length+[(a2.1,a2.2.1,r18.2.1.1,r18.2.1.2.1,r18.2.1.2.2.1,r18.2.1.2.2.2.1,r18.2.1.2.2.2.2.1,r18.2.1.2.2.2.2.2.1,r18.2.1.2.2.2.2.2.2.1,r18.2.1.2.2.2.2.2.2.2.1,r18.2.1.2.2.2.2.2.2.2.2.1,r18.2.1.2.2.2.2.2.2.2.2.2.1,r18.2.1.2.2.2.2.2.2.2.2.2.2.1,())].length<=4294967296)) <|
 .ob (H6 r18.1 r18.2.1) fun r19=>
 .chk (decide ([r7].length+[r19].length<=4294967296)) <|
 .leaf ((r1.1,r1.2.1,u10.1,r18.1.1,r18.1.2.1,r18.1.2.2.1,u27.1,u27.2.1,u27.2.2.1,u28.1,u28.2.1,u28.2.2.1,u28.2.2.2.1,u29.1,u29.2.1,u29.2.2.1,u29.2.2.2.1,u29.2.2.2.2.1,r17.1.1,r17.1.2.1,r17.1.2.2.1,u12.2.1,a1.1,u13.1,()),((([]:List Bc)++[(a2.1,a2.2.1,r18.2.1.1,r18.2.1.2.1,r18.2.1.2.2.1,r18.2.1.2.2.2.1,r18.2.1.2.2.2.2.1,r18.2.1.2.2.2.2.2.1,r18.2.1.2.2.2.2.2.2.1,r18.2.1.2.2.2.2.2.2.2.1,r18.2.1.2.2.2.2.2.2.2.2.1,r18.2.1.2.2.2.2.2.2.2.2.2.1,r18.2.1.2.2.2.2.2.2.2.2.2.2.1,())]),()),(([r7]++[r19]),()),(true,())))))) (
 .br (a3.1==(7:Int)) (
 .ob (Ve (r1.1,r1.2.1,u10.1,r4.1.1,r4.1.2.1,u14.1,u14.2.1,u15.1,u15.2.1,u16.1,u16.2.1,u17.1,u17.2.1,u18.1,u18.2.1,u19.1,u19.2.1,u20.1,u11.1,u11.2.1,u12.1,u12.2.1,a1.1,u13.1,()) (u9.1,()) r4.2.1) fun r20=>letI u30:=r20.1.2.2.2;letI u31:=u30.2.2.2;letI u32:=u31.2.2.2;letI u33:=u32.2.2.2;letI u34:=u33.2.2.2;letI u35:=u34.2.2.2.2;
 .chk (decide (([]:List Bc).length+r20.2.1.1.length<=4294967296)) <|
 .chk (decide ([r7].length+r20.2.2.1.length<=4294967296)) <|
 .ob (Di (u34.2.2.2.1,u35.1,u35.2.1,()) a1 a2 a4) fun r21=>
 .ob (Co (u30.1,u30.2.1,u30.2.2.1,u31.1,u31.2.1,u31.2.2.1,u32.1,u32.2.1,u32.2.2.1,u33.1,u33.2.1,u33.2.2.1,u34.1,u34.2.1,u34.2.2.1,()) ((5:Int),()) a4) fun r22=>letI u36:=r22.1.2.2.2;letI u37:=u36.2.2.2;letI u38:=u37.2.2.2.2;
 .br (!r21.2.1) (
 .leaf (r20.1,((([]:List Bc)++r20.2.1.1),()),(([r7]++r20.2.2.1),()),(false,()))) (
 .br (r22.2.2.1 != (0:Int)) (
 .leaf (r20.1,((([]:List Bc)++r20.2.1.1),()),(([r7]++r20.2.2.1),()),(false,()))) (
 .chk (decide ((([]:List Bc)++r20.2.1.1).length+[(a2.1,a2.2.1,r22.2.1.1,r22.2.1.2.1,r22.2.1.2.2.1,r22.2.1.2.2.2.1,r22.2.1.2.2.2.2.1,r22.2.1.2.2.2.2.2.1,r22.2.1.2.2.2.2.2.2.1,r22.2.1.2.2.2.2.2.2.2.1,r22.2.1.2.2.2.2.2.2.2.2.1,r22.2.1.2.2.2.2.2.2.2.2.2.1,r22.2.1.2.2.2.2.2.2.2.2.2.2.1,())].length<=4294967296)) <|
 .ob (H6 r22.1 r22.2.1) fun r23=>
 .chk (decide (([r7]++r20.2.2.1).length+[r23].length<=4294967296)) <|
 .leaf ((r20.1.1,r20.1.2.1,r20.1.2.2.1,r22.1.1,r22.1.2.1,r22.1.2.2.1,u36.1,u36.2.1,u36.2.2.1,u37.1,u37.2.1,u37.2.2.1,u37.2.2.2.1,u38.1,u38.2.1,u38.2.2.1,u38.2.2.2.1,u38.2.2.2.2.1,r21.1.1,r21.1.2.1,r21.1.2.2.1,u35.2.2.1,u35.2.2.2.1,u35.2.2.2.2.1,()),(((([]:List Bc)++r20.2.1.1)++[(a2.1,a2.2.1,r22.2.1.1,r22.2.1.2.1,r22.2.1.2.2.1,r22.2.1.2.2.2.1,r22.2.1.2.2.2.2.1,r22.2.1.2.2.2.2.2.1,r22.2.1.2.2.2.2.2.2.1,r22.2.1.2.2.2.2.2.2.2.1,r22.2.1.2.2.2.2.2.2.2.2.1,r22.2.1.2.2.2.2.2.2.2.2.2.1,r22.2.1.2.2.2.2.2.2.2.2.2.2.1,())]),()),((([r7]++r20.2.2.1)++[r23]),()),(true,()))))) (
 .ob (Di (u11.1,u11.2.1,u12.1,()) a1 a2 a4) fun r24=>
 .ob (Co r4.1 ((5:Int),()) a4) fun r25=>letI u39:=r25.1.2.2.2;letI u40:=u39.2.2.2;letI u41:=u40.2.2.2.2;
 .br (!r24.2.1) (
 .leaf ((r1.1,r1.2.1,u10.1,r4.1.1,r4.1.2.1,u14.1,u14.2.1,u15.1,u15.2.1,u16.1,u16.2.1,u17.1,u17.2.1,u18.1,u18.2.1,u19.1,u19.2.1,u20.1,u11.1,u11.2.1,u12.1,u12.2.1,a1.1,u13.1,()),(([]:List Bc),()),([r7],()),(false,()))) (
 .br (r25.2.2.1 != (0:Int)) (
 .leaf ((r1.1,r1.2.1,u10.1,r4.1.1,r4.1.2.1,u14.1,u14.2.1,u15.1,u15.2.1,u16.1,u16.2.1,u17.1,u17.2.1,u18.1,u18.2.1,u19.1,u19.2.1,u20.1,u11.1,u11.2.1,u12.1,u12.2.1,a1.1,u13.1,()),(([]:List Bc),()),([r7],()),(false,()))) (
 .chk (decide (([]:List Bc).length+[(a2.1,a2.2.1,r25.2.1.1,r25.2.1.2.1,r25.2.1.2.2.1,r25.2.1.2.2.2.1,r25.2.1.2.2.2.2.1,r25.2.1.2.2.2.2.2.1,r25.2.1.2.2.2.2.2.2.1,r25.2.1.2.2.2.2.2.2.2.1,r25.2.1.2.2.2.2.2.2.2.2.1,r25.2.1.2.2.2.2.2.2.2.2.2.1,r25.2.1.2.2.2.2.2.2.2.2.2.2.1,())].length<=4294967296)) <|
 .ob (H6 r25.1 r25.2.1) fun r26=>
 .chk (decide ([r7].length+[r26].length<=4294967296)) <|
 .leaf ((r1.1,r1.2.1,u10.1,r25.1.1,r25.1.2.1,r25.1.2.2.1,u39.1,u39.2.1,u39.2.2.1,u40.1,u40.2.1,u40.2.2.1,u40.2.2.2.1,u41.1,u41.2.1,u41.2.2.1,u41.2.2.2.1,u41.2.2.2.2.1,r24.1.1,r24.1.2.1,r24.1.2.2.1,u12.2.1,a1.1,u13.1,()),((([]:List Bc)++[(a2.1,a2.2.1,r25.2.1.1,r25.2.1.2.1,r25.2.1.2.2.1,r25.2.1.2.2.2.1,r25.2.1.2.2.2.2.1,r25.2.1.2.2.2.2.2.1,r25.2.1.2.2.2.2.2.2.1,r25.2.1.2.2.2.2.2.2.2.1,r25.2.1.2.2.2.2.2.2.2.2.1,r25.2.1.2.2.2.2.2.2.2.2.2.1,r25.2.1.2.2.2.2.2.2.2.2.2.2.1,())]),()),(([r7]++[r26]),()),(true,())))))))))))
def Lk (a0:Ak) (a1:YI) (a2:A7) (a3:Aq) (a4:YBs):Option (Ak×((List Bc)×Unit)×((List Ay)×Unit)×(Bool×Unit)):=(Xb a0 a1 a2 a3 a4).val
def Tz (a0:Bs) (a1:YI) (a2:A7) (a3:Aq):Tree (Bs×((List Bc)×Unit)×((List Ay)×Unit)):=
 letI u1:=a0.2.2;letI u2:=u1.2.2.2;.ob (Mn (u1.2.2.1,u2.1,()) (a3.2.2.2.1,())) fun r1=>
 .br (decide (r1.1<(0:Int))) (
 .leaf (a0,(([]:List Bc),()),(([]:List Ay),()))) (
 .ob (idx u2.1 r1.1) fun e2=>
 .br e2.2.2.2.2.2.2.2.2.2.2.2.2.2.2.2.2.2.2.2.2.2.2.2.1 (
 .leaf (a0,(([]:List Bc),()),(([]:List Ay),()))) (
 .ob (Apx (u1.1,u1.2.1,())) fun r3=>
 .ob (Ad2 a0 a2 ((51:Int),())) fun r4=>
 .br (!r4.1) (
 .ob (idx u2.1 r1.1) fun e5=>
 .ob (Lk e5 a1 a2 a3 (([]:List YB),())) fun r6=>
 .ob (I1 (u1.2.2.1,u2.1,()) r1 r6.1) fun r7=>
 .br r6.2.2.2.1 (
 .ob (Bk (a3.2.2.2.1,())) fun r8=>
 .ob (Bk (([]:List YB),())) fun r9=>
 .ob (N7 (([]:List YB),())) fun r10=>
 .chk (decide ([r10].length+r6.2.2.1.1.length<=4294967296)) <|
 .chk (decide (([r10]++r6.2.2.1.1).length+[((7:Int),(0:Int),(0:Int),([]:List YB),r8.1,(0:Int),(0:Int),r9.1,([]:List YB),a2.1,a2.2.1,a1.1,())].length<=4294967296)) <|
 .leaf ((a0.1,a0.2.1,r3.1.1,r3.1.2.1,r7.1.1,r7.1.2.1,u2.2.1,()),r6.2.1,((([r10]++r6.2.2.1.1)++[((7:Int),(0:Int),(0:Int),([]:List YB),r8.1,(0:Int),(0:Int),r9.1,([]:List YB),a2.1,a2.2.1,a1.1,())]),()))) (
 .leaf ((a0.1,a0.2.1,u1.1,u1.2.1,r7.1.1,r7.1.2.1,u2.2.1,()),r6.2.1,r6.2.2.1))) (
 .ob (idx u2.1 r1.1) fun e11=>
 .ob (Lk e11 a1 a2 a3 r3.2) fun r12=>
 .ob (I1 (u1.2.2.1,u2.1,()) r1 r12.1) fun r13=>
 .br r12.2.2.2.1 (
 .ob (Bk (a3.2.2.2.1,())) fun r14=>
 .ob (Bk r3.2) fun r15=>
 .ob (N7 r3.2) fun r16=>
 .chk (decide ([r16].length+r12.2.2.1.1.length<=4294967296)) <|
 .chk (decide (([r16]++r12.2.2.1.1).length+[((7:Int),(0:Int),(0:Int),([]:List YB),r14.1,(0:Int),(0:Int),r15.1,([]:List YB),a2.1,a2.2.1,a1.1,())].length<=4294967296)) <|
 .leaf ((a0.1,a0.2.1,r3.1.1,r3.1.2.1,r13.1.1,r13.1.2.1,u2.2.1,()),r12.2.1,((([r16]++r12.2.2.1.1)++[((7:Int),(0:Int),(0:Int),([]:List YB),r14.1,(0:Int),(0:Int),r15.1,([]:List YB),a2.1,a2.2.1,a1.1,())]),()))) (
 .leaf ((a0.1,a0.2.1,u1.1,u1.2.1,r13.1.1,r13.1.2.1,u2.2.1,()),r12.2.1,r12.2.2.1)))))
def T0 (a0:Bs) (a1:YI) (a2:A7) (a3:Aq):Option (Bs×((List Bc)×Unit)×((List Ay)×Unit)):=(Tz a0 a1 a2 a3).val
def Apk (a0:Aq):Tree (YI):=
 .ob (Ek a0) fun r1=>
 .leaf ((r1.1.length:Int),())
def Ap6 (a0:Aq):Option (YI):=(Apk a0).val
def Auk (a0:(List Ao)×Unit) (a1:A7) (a2:YI):Tree (((List Ao)×Unit)×(Bool×Unit)):=
 .ob (Mm a0) fun r1=>
 .ob (N5 a0 a1) fun r2=>
 .ob (Md a0) fun r3=>
 .br (!r3.1) (
 .leaf (r1,(false,()))) (
 .br (decide (r2.1<(0:Int))) (
 .leaf (r1,(false,()))) (
 .ob (Kq a0 a1) fun r4=>
 .ob (Bh a2 ((0:Int),()) r4) fun r5=>
 .br (!r5.1) (
 .leaf (r1,(false,()))) (
 .ob (idx r1.1 r2.1) fun e6=>
 .ob (idx r1.1 r2.1) fun e7=>
 let q8:=(r1.1.set (r2.1).toNat (e7.1,e7.2.1,e7.2.2.1,(i64.wrap (e6.2.2.2.1+a2.1)),()))
 .leaf ((q8,()),(true,())))))
def Ail (a0:(List Ao)×Unit) (a1:A7) (a2:YI):Option (((List Ao)×Unit)×(Bool×Unit)):=(Auk a0 a1 a2).val
def D0 (x7:(List Ay)×(List Bc)×(List Bc)×Int×Int×(List YBs)×(List YB)×(List YB)×Int×Int×(List Ak)×(List Ao)×(List YBs)×(List YB)×(List YB)×Int×Int×(List Ak)×(List Ao)×Unit):Option (((List Ay)×(List Bc)×(List Bc)×Int×Int×(List YBs)×(List YB)×(List YB)×Int×Int×(List Ak)×(List Ao)×(List YBs)×(List YB)×(List YB)×Int×Int×(List Ak)×(List Ao)×Unit)⊕(((List Ay)×(List Bc)×(List YBs)×(List YB)×(List YB)×Int×Int×(List Ak)×(List Ao)×(List YBs)×(List YB)×(List YB)×Int×Int×(List Ak)×(List Ao)×Unit))):=
 letI u1:=x7.2.2;letI u2:=u1.2.2;letI u3:=u2.2.2;letI u4:=u3.2.2;letI u5:=u4.2.2;letI u6:=u5.2.2;letI u7:=u6.2.2;letI u8:=u7.2.2;Tree.val <|
 .br (decide (u2.1<u1.2.1)) (
 .chk (Nat.beq (Int.toNat u2.1) (Int.toNat u2.1)) <|
 .ob (idx u1.1 u2.1) fun e8=>letI u9:=e8.2.2.2;letI u10:=u9.2.2.2;letI u11:=u10.2.2.2;
 .ob (Z2 (u8.1,u8.2.1,()) (e8.1,e8.2.1,())) fun r9=>
 .br (!r9.1) (
 .ob (Ap6 (e8.2.2.1,u9.1,u9.2.1,u9.2.2.1,u10.1,u10.2.1,u10.2.2.1,u11.1,u11.2.1,u11.2.2.1,u11.2.2.2.1,())) fun r10=>
 .ob (Ail (u8.2.2.1,()) (e8.1,e8.2.1,()) r10) fun r11=>
 .br (!r11.2.1) (
 .chk (Nat.ble (Int.toNat u2.1+1) (Int.toNat (i64.wrap (u2.1+(1:Int))))) <|
 .leaf (.inl (x7.1,x7.2.1,u1.1,u1.2.1,(i64.wrap (u2.1+(1:Int))),u2.2.1,u3.1,u3.2.1,u4.1,u4.2.1,u5.1,u5.2.1,u6.1,u6.2.1,u7.1,u7.2.1,u8.1,u8.2.1,u8.2.2.1,()))) (
 .chk (decide (x7.2.1.length+[e8].length<=4294967296)) <|
 .chk (Nat.ble (Int.toNat u2.1+1) (Int.toNat (i64.wrap (u2.1+(1:Int))))) <|
 .leaf (.inl (x7.1,(x7.2.1++[e8]),u1.1,u1.2.1,(i64.wrap (u2.1+(1:Int))),u2.2.1,u3.1,u3.2.1,u4.1,u4.2.1,u5.1,u5.2.1,u6.1,u6.2.1,u7.1,u7.2.1,u8.1,u8.2.1,r11.1.1,())))) (
 .chk (decide (x7.2.1.length+[e8].length<=4294967296)) <|
 .chk (Nat.ble (Int.toNat u2.1+1) (Int.toNat (i64.wrap (u2.1+(1:Int))))) <|
 .leaf (.inl (x7.1,(x7.2.1++[e8]),u1.1,u1.2.1,(i64.wrap (u2.1+(1:Int))),u2.2.1,u3.1,u3.2.1,u4.1,u4.2.1,u5.1,u5.2.1,u6.1,u6.2.1,u7.1,u7.2.1,u8.1,u8.2.1,u8.2.2.1,())))) (
 .leaf (.inr (x7.1,x7.2.1,u2.2.1,u3.1,u3.2.1,u4.1,u4.2.1,u5.1,u5.2.1,u6.1,u6.2.1,u7.1,u7.2.1,u8.1,u8.2.1,u8.2.2.1,())))
def Tb (a0:Bs) (a1:YI) (a2:A7) (a3:YBs):Tree (Bs×((List Bc)×Unit)×((List Ay)×Unit)):=
 .ob (Zz a0) fun r1=>letI u1:=r1.2.2;letI u2:=u1.2.2;
 .ob (Xk a0) fun r2=>
 .br (!r2.1) (
 .leaf (r1,(([]:List Bc),()),(([]:List Ay),()))) (
 .ob (Bh a1 ((0:Int),()) ((1000000:Int),())) fun r3=>
 .br (!r3.1) (
 .leaf (r1,(([]:List Bc),()),(([]:List Ay),()))) (
 .ob (Gr a2) fun r4=>
 .br (!r4.1) (
 .leaf (r1,(([]:List Bc),()),(([]:List Ay),()))) (
 .ob (A0n (a0.2.2.2.2.2.2.1,()) a2 ((a3.1.length:Int),())) fun r5=>
 .ob (N6 a3) fun r6=>
 .br (!r6.2.1) (
 .ob (Ax D0 (([]:List Ay),([]:List Bc),([]:List Bc),(([]:List Bc).length:Int),(0:Int),([]:List YBs),([]:List YB),([]:List YB),(0:Int),(0:Int),([]:List Ak),([]:List Ao),r1.1,r1.2.1,u1.1,u1.2.1,u2.1,u2.2.1,r5.1,())) fun o12=>letI u3:=o12.2.2.2.2.2.2.2.2.2;letI u4:=u3.2.2.2;
 .leaf ((u3.1,u3.2.1,u3.2.2.1,u4.1,u4.2.1,u4.2.2.1,u4.2.2.2.1,()),(o12.2.1,()),(o12.1,()))) (
 .br (r6.1.1==(1:Int)) (
 .ob (Ags (r1.1,r1.2.1,u1.1,u1.2.1,u2.1,u2.2.1,r5.1,()) a1 a2 r6.1) fun r13=>letI u5:=r13.1.2.2.2;
 .ob (Ax D0 (r13.2.2.1,([]:List Bc),r13.2.1.1,(r13.2.1.1.length:Int),(0:Int),([]:List YBs),([]:List YB),([]:List YB),(0:Int),(0:Int),([]:List Ak),([]:List Ao),r13.1.1,r13.1.2.1,r13.1.2.2.1,u5.1,u5.2.1,u5.2.2.1,u5.2.2.2.1,())) fun o14=>letI u6:=o14.2.2.2.2.2.2.2.2.2;letI u7:=u6.2.2.2;
 .leaf ((u6.1,u6.2.1,u6.2.2.1,u7.1,u7.2.1,u7.2.2.1,u7.2.2.2.1,()),(o14.2.1,()),(o14.1,()))) (
 .br (r6.1.1==(3:Int)) (
 .ob (Z3 (r1.1,r1.2.1,u1.1,u1.2.1,u2.1,u2.2.1,r5.1,()) a1 a2 r6.1) fun r15=>letI u8:=r15.1.2.2.2;
 .ob (Ax D0 (r15.2.2.1,([]:List Bc),r15.2.1.1,(r15.2.1.1.length:Int),(0:Int),([]:List YBs),([]:List YB),([]:List YB),(0:Int),(0:Int),([]:List Ak),([]:List Ao),r15.1.1,r15.1.2.1,r15.1.2.2.1,u8.1,u8.2.1,u8.2.2.1,u8.2.2.2.1,())) fun o16=>letI u9:=o16.2.2.2.2.2.2.2.2.2;letI u10:=u9.2.2.2;
 .leaf ((u9.1,u9.2.1,u9.2.2.1,u10.1,u10.2.1,u10.2.2.1,u10.2.2.2.1,()),(o16.2.1,()),(o16.1,()))) (
 .ob (Mo (r6.1.1,())) fun r17=>
 .br r17.1 (
 .ob (T0 (r1.1,r1.2.1,u1.1,u1.2.1,u2.1,u2.2.1,r5.1,()) a1 a2 r6.1) fun r18=>letI u11:=r18.1.2.2.2;
 .ob (Ax D0 (r18.2.2.1,([]:List Bc),r18.2.1.1,(r18.2.1.1.length:Int),(0:Int),([]:List YBs),([]:List YB),([]:List YB),(0:Int),(0:Int),([]:List Ak),([]:List Ao),r18.1.1,r18.1.2.1,r18.1.2.2.1,u11.1,u11.2.1,u11.2.2.1,u11.2.2.2.1,())) fun o19=>letI u12:=o19.2.2.2.2.2.2.2.2.2;letI u13:=u12.2.2.2;
 .leaf ((u12.1,u12.2.1,u12.2.2.1,u13.1,u13.2.1,u13.2.2.1,u13.2.2.2.1,()),(o19.2.1,()),(o19.1,()))) (
 .ob (Ax D0 (([]:List Ay),([]:List Bc),([]:List Bc),(([]:List Bc).length:Int),(0:Int),([]:List YBs),([]:List YB),([]:List YB),(0:Int),(0:Int),([]:List Ak),([]:List Ao),r1.1,r1.2.1,u1.1,u1.2.1,u2.1,u2.2.1,r5.1,())) fun o20=>letI u14:=o20.2.2.2.2.2.2.2.2.2;letI u15:=u14.2.2.2;
 .leaf ((u14.1,u14.2.1,u14.2.2.1,u15.1,u15.2.1,u15.2.2.1,u15.2.2.2.1,()),(o20.2.1,()),(o20.1,())))))))))
def Z7 (a0:Bs) (a1:YI) (a2:A7) (a3:YBs):Option (Bs×((List Bc)×Unit)×((List Ay)×Unit)):=(Tb a0 a1 a2 a3).val
def A0j (a0:YBs) (a1:YBs):Tree ((Bool×Unit)):=
 .leaf ((decide ((Qr a0.1)=(Qr a1.1))),())
def Rw (a0:YBs) (a1:YBs):Option ((Bool×Unit)):=(A0j a0 a1).val
def K4 (x1:(List YI)×(List YI)×Int×Unit):Option (((List YI)×(List YI)×Int×Unit)⊕((Bool×Unit)⊕(Unit))):=
 Tree.val <|
 .br (decide (x1.2.2.1<(x1.1.length:Int))) (
 .ob (idx x1.1 x1.2.2.1) fun e2=>
 .ob (idx x1.2.1 x1.2.2.1) fun e3=>
 .br (e2.1 != e3.1) (
 .leaf (.inr (.inl (false,())))) (
 .leaf (.inl (x1.1,x1.2.1,(i64.wrap (x1.2.2.1+(1:Int))),())))) (
 .leaf (.inr (.inr ())))
def Agc (a0:(List YI)×Unit) (a1:(List YI)×Unit):Tree ((Bool×Unit)):=
 .br ((a0.1.length:Int) != (a1.1.length:Int)) (
 .leaf (false,())) (
 .ob (Ax K4 (a0.1,a1.1,(0:Int),())) fun o4=>
 .sm o4 (fun o5=>
 .leaf o5) (fun o6=>
 .leaf (true,())))
def Agw (a0:(List YI)×Unit) (a1:(List YI)×Unit):Option ((Bool×Unit)):=(Agc a0 a1).val
def Ake (a0:Db) (a1:Db):Tree ((Bool×Unit)):=
 .br (a0.1==a1.1) (
 .ob (Agw (a0.2.1,()) (a1.2.1,())) fun r1=>
 .leaf r1) (
 .leaf (false,()))
def Akq (a0:Db) (a1:Db):Option ((Bool×Unit)):=(Ake a0 a1).val
def Apl (a0:YEp) (a1:YEp):Tree ((Bool×Unit)):=
 .br (a0.1==a1.1) (
 .ob (Rw (a0.2.1,()) (a1.2.1,())) fun r1=>
 .br r1.1 (
 .br (a0.2.2.1==a1.2.2.1) (
 .ob (Akq (a0.2.2.2.1,a0.2.2.2.2.1,()) (a1.2.2.2.1,a1.2.2.2.2.1,())) fun r2=>
 .leaf r2) (
 .leaf (false,()))) (
 .leaf (false,()))) (
 .leaf (false,()))
def Ad7 (a0:YEp) (a1:YEp):Option ((Bool×Unit)):=(Apl a0 a1).val
def Agd (a0:Ap) (a1:Ap):Tree ((Bool×Unit)):=
 letI u1:=a0.2.2.2;letI u2:=u1.2.2.2;letI u3:=u2.2.2.2.2;letI u4:=a1.2.2.2;letI u5:=u4.2.2.2;letI u6:=u5.2.2.2.2;.br (a0.1==a1.1) (
 .ob (Rw (a0.2.1,()) (a1.2.1,())) fun r1=>
 .br r1.1 (
 .ob (Ad7 (a0.2.2.1,u1.1,u1.2.1,u1.2.2.1,u2.1,()) (a1.2.2.1,u4.1,u4.2.1,u4.2.2.1,u5.1,())) fun r2=>
 .br r2.1 (
 .ob (Ad7 (u2.2.1,u2.2.2.1,u2.2.2.2.1,u3.1,u3.2.1,()) (u5.2.1,u5.2.2.1,u5.2.2.2.1,u6.1,u6.2.1,())) fun r3=>
 .br r3.1 (
 .br (u3.2.2.1==u6.2.2.1) (
 .br (u3.2.2.2.1==u6.2.2.2.1) (
 .ob (Rw (u3.2.2.2.2.1,()) (u6.2.2.2.2.1,())) fun r4=>
 .leaf r4) (
 .leaf (false,()))) (
 .leaf (false,()))) (
 .leaf (false,()))) (
 .leaf (false,()))) (
 .leaf (false,()))) (
 .leaf (false,()))
def Xq (a0:Ap) (a1:Ap):Option ((Bool×Unit)):=(Agd a0 a1).val
def Jt (x1:Int×Int×Int×(List A8)×Int×Int×(List A8)×Unit):Option ((Int×Int×Int×(List A8)×Int×Int×(List A8)×Unit)⊕((Bool×Unit)⊕(Unit))):=
 letI u1:=x1.2.2.2;letI u2:=u1.2.2.2;Tree.val <|
 .br (decide (x1.1<(x1.2.2.2.1.length:Int))) (
 .ob (idx u1.1 x1.1) fun e2=>
 .ob (idx u2.1 x1.1) fun e3=>
 .br (!(and (e2.1==e3.1) (and (e2.2.1==e3.2.1) true))) (
 .leaf (.inr (.inl (false,())))) (
 .ob (idx u1.1 x1.1) fun e4=>
 .ob (idx u2.1 x1.1) fun e5=>
 .ob (Rw (e4.2.2.1,()) (e5.2.2.1,())) fun r6=>
 .br (!r6.1) (
 .leaf (.inr (.inl (false,())))) (
 .ob (idx u1.1 x1.1) fun e7=>
 .ob (idx u2.1 x1.1) fun e8=>
 .br (e7.2.2.2.1 != e8.2.2.2.1) (
 .leaf (.inr (.inl (false,())))) (
 .leaf (.inl ((i64.wrap (x1.1+(1:Int))),x1.2.1,x1.2.2.1,u1.1,u1.2.1,u1.2.2.1,u2.1,())))))) (
 .leaf (.inr (.inr ())))
def Ac7 (a0:Bm) (a1:Bm):Tree ((Bool×Unit)):=
 .br (!(and (a0.1==a1.1) (and (a0.2.1==a1.2.1) true))) (
 .leaf (false,())) (
 .br ((a0.2.2.1.length:Int) != (a1.2.2.1.length:Int)) (
 .leaf (false,())) (
 .ob (Ax Jt ((0:Int),a0.1,a0.2.1,a0.2.2.1,a1.1,a1.2.1,a1.2.2.1,())) fun o9=>
 .sm o9 (fun o10=>
 .leaf o10) (fun o11=>
 .leaf (true,()))))
def Vf (a0:Bm) (a1:Bm):Option ((Bool×Unit)):=(Ac7 a0 a1).val
def Age (a0:Ak) (a1:Ak):Tree ((Bool×Unit)):=
 letI u1:=a0.2.2.2;letI u2:=u1.2.2.2;letI u3:=u2.2.2.2;letI u4:=u3.2.2.2;letI u5:=u4.2.2.2;letI u6:=u5.2.2.2.2;letI u7:=a1.2.2.2;letI u8:=u7.2.2.2;letI u9:=u8.2.2.2;letI u10:=u9.2.2.2;letI u11:=u10.2.2.2;letI u12:=u11.2.2.2.2;.br (a0.1==a1.1) (
 .ob (Rw (a0.2.1,()) (a1.2.1,())) fun r1=>
 .br r1.1 (
 .ob (Rw (a0.2.2.1,()) (a1.2.2.1,())) fun r2=>
 .br r2.1 (
 .ob (Xq (u1.1,u1.2.1,u1.2.2.1,u2.1,u2.2.1,u2.2.2.1,u3.1,u3.2.1,u3.2.2.1,u4.1,u4.2.1,u4.2.2.1,u5.1,u5.2.1,u5.2.2.1,()) (u7.1,u7.2.1,u7.2.2.1,u8.1,u8.2.1,u8.2.2.1,u9.1,u9.2.1,u9.2.2.1,u10.1,u10.2.1,u10.2.2.1,u11.1,u11.2.1,u11.2.2.1,())) fun r3=>
 .br r3.1 (
 .ob (Vf (u5.2.2.2.1,u6.1,u6.2.1,()) (u11.2.2.2.1,u12.1,u12.2.1,())) fun r4=>
 .br r4.1 (
 .br (u6.2.2.1==u12.2.2.1) (
 .br (u6.2.2.2.1==u12.2.2.2.1) (
 .leaf ((u6.2.2.2.2.1==u12.2.2.2.2.1),())) (
 .leaf (false,()))) (
 .leaf (false,()))) (
 .leaf (false,()))) (
 .leaf (false,()))) (
 .leaf (false,()))) (
 .leaf (false,()))) (
 .leaf (false,()))
def Agx (a0:Ak) (a1:Ak):Option ((Bool×Unit)):=(Age a0 a1).val
def Ma (x1:Int×Int×(List Ak)×Int×(List Ak)×Unit):Option ((Int×Int×(List Ak)×Int×(List Ak)×Unit)⊕((Bool×Unit)⊕(Unit))):=
 letI u1:=x1.2.2;Tree.val <|
 .br (decide (x1.1<(x1.2.2.1.length:Int))) (
 .ob (idx u1.1 x1.1) fun e2=>
 .ob (idx u1.2.2.1 x1.1) fun e3=>
 .ob (Agx e2 e3) fun r4=>
 .br (!r4.1) (
 .leaf (.inr (.inl (false,())))) (
 .leaf (.inl ((i64.wrap (x1.1+(1:Int))),x1.2.1,u1.1,u1.2.1,u1.2.2.1,())))) (
 .leaf (.inr (.inr ())))
def Akf (a0:Ch) (a1:Ch):Tree ((Bool×Unit)):=
 .br (a0.1 != a1.1) (
 .leaf (false,())) (
 .br ((a0.2.1.length:Int) != (a1.2.1.length:Int)) (
 .leaf (false,())) (
 .ob (Ax Ma ((0:Int),a0.1,a0.2.1,a1.1,a1.2.1,())) fun o5=>
 .sm o5 (fun o6=>
 .leaf o6) (fun o7=>
 .leaf (true,()))))
def Nf (a0:Ch) (a1:Ch):Option ((Bool×Unit)):=(Akf a0 a1).val
def Uk (a0:YBs):Tree ((Bool×Unit)):=
 .ob (Bha a0) fun r1=>
 .br r1.1 (
 .leaf (true,())) (
 .ob (K5 a0) fun r2=>letI u1:=r2.1.2.2.2.2;
 .ob (Z7 r2.1 r2.2.1 r2.2.2.1 r2.2.2.2) fun r3=>letI u2:=r3.1.2.2.2.2;
 .ob (N6 r2.2.2.2) fun r4=>
 .ob (Xk r3.1) fun r5=>
 .br (!r5.1) (
 .leaf (false,())) (
 .br (decide ((r3.1.2.2.2.2.2.1.length:Int)<(r2.1.2.2.2.2.2.1.length:Int))) (
 .leaf (false,())) (
 .ob (G4 (u2.1,u2.2.1,())) fun r6=>
 .ob (G4 (u1.1,u1.2.1,())) fun r7=>
 .br (decide (r6.1<r7.1)) (
 .leaf (false,())) (
 .br (!r4.2.1) (
 .br ((r3.1.2.2.2.2.2.1.length:Int) != (r2.1.2.2.2.2.2.1.length:Int)) (
 .leaf (false,())) (
 .ob (G4 (u2.1,u2.2.1,())) fun r8=>
 .ob (G4 (u1.1,u1.2.1,())) fun r9=>
 .br (r8.1 != r9.1) (
 .leaf (false,())) (
 .br (!r4.2.1) (
 .leaf (true,())) (
 .br (r4.1.1 != (1:Int)) (
 .leaf (true,())) (
 .ob (Nf (u2.1,u2.2.1,()) (u1.1,u1.2.1,())) fun r10=>
 .br r10.1 (
 .leaf ((decide ((r3.2.1.1.length:Int)<=(1:Int))),())) (
 .leaf (false,()))))))) (
 .br (r4.1.1 != (3:Int)) (
 .br ((r3.1.2.2.2.2.2.1.length:Int) != (r2.1.2.2.2.2.2.1.length:Int)) (
 .leaf (false,())) (
 .ob (G4 (u2.1,u2.2.1,())) fun r11=>
 .ob (G4 (u1.1,u1.2.1,())) fun r12=>
 .br (r11.1 != r12.1) (
 .leaf (false,())) (
 .br (!r4.2.1) (
 .leaf (true,())) (
 .br (r4.1.1 != (1:Int)) (
 .leaf (true,())) (
 .ob (Nf (u2.1,u2.2.1,()) (u1.1,u1.2.1,())) fun r13=>
 .br r13.1 (
 .leaf ((decide ((r3.2.1.1.length:Int)<=(1:Int))),())) (
 .leaf (false,()))))))) (
 .ob (G4 (u1.1,u1.2.1,())) fun r14=>
 .br (r14.1==u1.1) (
 .br ((r3.1.2.2.2.2.2.1.length:Int) != (r2.1.2.2.2.2.2.1.length:Int)) (
 .leaf (false,())) (
 .ob (G4 (u2.1,u2.2.1,())) fun r15=>
 .ob (G4 (u1.1,u1.2.1,())) fun r16=>
 .br (r15.1 != r16.1) (
 .leaf (false,())) (
 .br (!r4.2.1) (
 .leaf (true,())) (
 .br (r4.1.1 != (1:Int)) (
 .leaf (true,())) (
 .ob (Nf (u2.1,u2.2.1,()) (u1.1,u1.2.1,())) fun r17=>
 .br r17.1 (
 .leaf ((decide ((r3.2.1.1.length:Int)<=(1:Int))),())) (
 .leaf (false,()))))))) (
 .br (!r4.2.1) (
 .leaf (true,())) (
 .br (r4.1.1 != (1:Int)) (
 .leaf (true,())) (
 .ob (Nf (u2.1,u2.2.1,()) (u1.1,u1.2.1,())) fun r18=>
 .br r18.1 (
 .leaf ((decide ((r3.2.1.1.length:Int)<=(1:Int))),())) (
 .leaf (false,())))))))))))
def Ayt (a0:YBs):Option ((Bool×Unit)):=(Uk a0).val
def Bca (a0:Ak):Tree (Ak):=
 .ob (Pa a0) fun r1=>
 .br (!r1.1) (
 .ob (Ja a0) fun r2=>
 .leaf r2) (
 .ob (Bk (a0.2.1,())) fun r3=>
 .ob (Bk (a0.2.2.1,())) fun r4=>
 .leaf (a0.1,r3.1,r4.1,(0:Int),([]:List YB),(0:Int),([]:List YB),(0:Int),(0:Int),([]:List YI),(0:Int),([]:List YB),(0:Int),(0:Int),([]:List YI),false,(0:Int),([]:List YB),(0:Int),(0:Int),([]:List A8),a0.2.2.2.2.2.2.2.2.2.2.2.2.2.2.2.2.2.2.2.2.2.1,(0:Int),true,()))
def Bcb (a0:Ak):Option (Ak):=(Bca a0).val
def A3h (a0:YI):Tree (Ch):=
 .ob (Bh a0 ((1:Int),()) ((6:Int),())) fun r1=>
 .br (!r1.1) (
 .leaf ((0:Int),([]:List Ak),())) (
 .leaf (a0.1,([]:List Ak),()))
def A3i (a0:YI):Option (Ch):=(A3h a0).val
def Ad8 (x1:Int×Int×(List Ak)×Int×Int×Unit):Option ((Int×Int×(List Ak)×Int×Int×Unit)⊕((Bool×Unit)⊕(Unit))):=
 letI u1:=x1.2.2;Tree.val <|
 .br (decide (x1.1<(x1.2.2.1.length:Int))) (
 .ob (idx u1.1 x1.1) fun e2=>
 .br (!e2.2.2.2.2.2.2.2.2.2.2.2.2.2.2.2.2.2.2.2.2.2.2.2.1) (
 .ob (idx u1.1 x1.1) fun e3=>letI u2:=e3.2.2.2.2.2.2.2.2.2.2.2.2.2.2.2.2.2.2;
 .br (and (u2.1==u1.2.1) (and (u2.2.1==u1.2.2.1) true)) (
 .leaf (.inr (.inl (true,())))) (
 .leaf (.inl ((i64.wrap (x1.1+(1:Int))),x1.2.1,u1.1,u1.2.1,u1.2.2.1,())))) (
 .leaf (.inl ((i64.wrap (x1.1+(1:Int))),x1.2.1,u1.1,u1.2.1,u1.2.2.1,())))) (
 .leaf (.inr (.inr ())))
def Bcc (a0:Ch) (a1:A7):Tree ((Bool×Unit)):=
 .ob (Ax Ad8 ((0:Int),a0.1,a0.2.1,a1.1,a1.2.1,())) fun o4=>
 .sm o4 (fun o5=>
 .leaf o5) (fun o6=>
 .leaf (false,()))
def Bcd (a0:Ch) (a1:A7):Option ((Bool×Unit)):=(Bcc a0 a1).val
def Bce (a0:YBs) (a1:YBs):Tree (Ay):=
 .chk (decide (([]:List YB).length+a0.1.length<=4294967296)) <|
 .chk (decide (([]:List YB).length+a1.1.length<=4294967296)) <|
 .leaf ((15:Int),(0:Int),(0:Int),([]:List YB),([]:List YB),(0:Int),(0:Int),(([]:List YB)++a1.1),(([]:List YB)++a0.1),(0:Int),(0:Int),(0:Int),())
def A0p (a0:YBs) (a1:YBs):Option (Ay):=(Bce a0 a1).val
def Ad9 (x1:(List YB)×(List YB)×Int×Int×Unit):Option (((List YB)×(List YB)×Int×Int×Unit)⊕(YI)):=
 letI u1:=x1.2.2;Tree.val <|
 .br (decide (u1.2.1<(x1.1.length:Int))) (
 .ob (idx x1.1 u1.2.1) fun e2=>
 .ob (idx x1.2.1 u1.2.1) fun e3=>
 .leaf (.inl (x1.1,x1.2.1,(i64.wrap ((BitVec.ofInt (i64.bits) (u1.1) ||| BitVec.ofInt (i64.bits) ((i64.wrap ((u8.wrap ((BitVec.ofInt (u8.bits) (e2.1) ^^^ BitVec.ofInt (u8.bits) (e3.1)).toNat:Nat)))))).toNat:Nat)),(i64.wrap (u1.2.1+(1:Int))),()))) (
 .leaf (.inr (u1.1,())))
def Bcf (a0:YBs) (a1:YBs):Tree (YI):=
 .br ((a0.1.length:Int) != (a1.1.length:Int)) (
 .leaf ((-1:Int),())) (
 .ob (Ax Ad9 (a0.1,a1.1,(0:Int),(0:Int),())) fun o4=>
 .leaf o4)
def A0q (a0:YBs) (a1:YBs):Option (YI):=(Bcf a0 a1).val
def Ayu (a0:YBs) (a1:YBs):Tree ((Bool×Unit)):=
 .br ((a0.1.length:Int)==(16:Int)) (
 .ob (A0q a0 a1) fun r1=>
 .leaf ((r1.1==(0:Int)),())) (
 .leaf (false,()))
def Akr (a0:YBs) (a1:YBs):Option ((Bool×Unit)):=(Ayu a0 a1).val
def Bcg (a0:YBs) (a1:YBs) (a2:YBs):Tree (Ay):=
 .chk (decide (([]:List YB).length+a0.1.length<=4294967296)) <|
 .chk (decide (([]:List YB).length+a1.1.length<=4294967296)) <|
 .chk (decide (([]:List YB).length+a2.1.length<=4294967296)) <|
 .leaf ((16:Int),(0:Int),(0:Int),([]:List YB),(([]:List YB)++a1.1),(0:Int),(0:Int),(([]:List YB)++a2.1),(([]:List YB)++a0.1),(0:Int),(0:Int),(0:Int),())
def A0r (a0:YBs) (a1:YBs) (a2:YBs):Option (Ay):=(Bcg a0 a1 a2).val
def A3j (a0:YEp) (a1:YI) (a2:YBs) (a3:YI) (a4:YBs):Tree (YEp×Aq×YI):=
 letI u1:=a0.2.2;.ob (Te a0) fun r1=>letI u2:=r1.2.2.2;
 .ob (Vo a0) fun r2=>
 .br (!r2.1) (
 .leaf (r1,((0:Int),(0:Int),([]:List YB),([]:List YB),(0:Int),([]:List YB),([]:List YB),(0:Int),(0:Int),([]:List YB),([]:List YB),()),((1:Int),()))) (
 .ob (Tf a1 a2 (a0.1,()) ((0:Int),())) fun r3=>
 .br ((r3.1.length:Int)==(0:Int)) (
 .leaf (r1,((0:Int),(0:Int),([]:List YB),([]:List YB),(0:Int),([]:List YB),([]:List YB),(0:Int),(0:Int),([]:List YB),([]:List YB),()),((1:Int),()))) (
 .ob (O7 a3) fun r4=>
 .br (!r4.1) (
 .leaf (r1,((0:Int),(0:Int),([]:List YB),([]:List YB),(0:Int),([]:List YB),([]:List YB),(0:Int),(0:Int),([]:List YB),([]:List YB),()),((1:Int),()))) (
 .ob (Xd a3 ((a4.1.length:Int),())) fun r5=>
 .br (!r5.1) (
 .leaf (r1,((0:Int),(0:Int),([]:List YB),([]:List YB),(0:Int),([]:List YB),([]:List YB),(0:Int),(0:Int),([]:List YB),([]:List YB),()),((1:Int),()))) (
 .br (a3.1==(4:Int)) (
 .br (decide (u1.1≥(281474976709656:Int))) (
 .leaf (r1,((0:Int),(0:Int),([]:List YB),([]:List YB),(0:Int),([]:List YB),([]:List YB),(0:Int),(0:Int),([]:List YB),([]:List YB),()),((4:Int),()))) (
 .br (u1.1==(281474976710656:Int)) (
 .leaf (r1,((0:Int),(0:Int),([]:List YB),([]:List YB),(0:Int),([]:List YB),([]:List YB),(0:Int),(0:Int),([]:List YB),([]:List YB),()),((5:Int),()))) (
 .ob (Bz (a0.2.1,()) a1 a2 (a0.1,()) (u1.1,()) a3 a4) fun r6=>
 .leaf ((r1.1,r1.2.1,(i64.wrap (u1.1+(1:Int))),u2.1,u2.2.1,()),r6.1,((0:Int),()))))) (
 .br (u1.1==(281474976710656:Int)) (
 .leaf (r1,((0:Int),(0:Int),([]:List YB),([]:List YB),(0:Int),([]:List YB),([]:List YB),(0:Int),(0:Int),([]:List YB),([]:List YB),()),((5:Int),()))) (
 .ob (Bz (a0.2.1,()) a1 a2 (a0.1,()) (u1.1,()) a3 a4) fun r7=>
 .leaf ((r1.1,r1.2.1,(i64.wrap (u1.1+(1:Int))),u2.1,u2.2.1,()),r7.1,((0:Int),()))))))))
def Ap7 (a0:YEp) (a1:YI) (a2:YBs) (a3:YI) (a4:YBs):Option (YEp×Aq×YI):=(A3j a0 a1 a2 a3 a4).val
def Au0 (a0:Ap) (a1:YI) (a2:YBs):Tree (Ap×Aq×YI):=
 letI u1:=a0.2.2.2;.ob (Iz a0) fun r1=>letI u2:=r1.2.2.2.2.2.2.2;letI u3:=u2.2.2.2;
 .ob (Ke a0) fun r2=>
 .br (!r2.1) (
 .leaf (r1,((0:Int),(0:Int),([]:List YB),([]:List YB),(0:Int),([]:List YB),([]:List YB),(0:Int),(0:Int),([]:List YB),([]:List YB),()),((1:Int),()))) (
 .ob (Ap7 (a0.2.2.1,u1.1,u1.2.1,u1.2.2.1,u1.2.2.2.1,()) (a0.1,()) (a0.2.1,()) a1 a2) fun r3=>
 .br (r3.2.2.1==(0:Int)) (
 .leaf ((r1.1,r1.2.1,r3.1.1,r3.1.2.1,r3.1.2.2.1,r3.1.2.2.2.1,r3.1.2.2.2.2.1,u2.1,u2.2.1,u2.2.2.1,u3.1,u3.2.1,u3.2.2.1,u3.2.2.2.1,u3.2.2.2.2.1,()),r3.2.1,r3.2.2)) (
 .leaf (r1,r3.2.1,r3.2.2)))
def Dp (a0:Ap) (a1:YI) (a2:YBs):Option (Ap×Aq×YI):=(Au0 a0 a1 a2).val
def Bhc (a0:Ap):Tree (Ap×Aq×YI):=
 .ob (Ke a0) fun r1=>
 .br (!r1.1) (
 .ob (Iz a0) fun r2=>
 .leaf (r2,((0:Int),(0:Int),([]:List YB),([]:List YB),(0:Int),([]:List YB),([]:List YB),(0:Int),(0:Int),([]:List YB),([]:List YB),()),((6:Int),()))) (
 .br (a0.1 != (1:Int)) (
 .ob (Iz a0) fun r3=>
 .leaf (r3,((0:Int),(0:Int),([]:List YB),([]:List YB),(0:Int),([]:List YB),([]:List YB),(0:Int),(0:Int),([]:List YB),([]:List YB),()),((6:Int),()))) (
 .ob (Fa (a0.2.2.1,())) fun r4=>
 .ob (Dp a0 ((8:Int),()) r4) fun r5=>
 .leaf (r5.1,r5.2.1,r5.2.2)))
def Ama (a0:Ap):Option (Ap×Aq×YI):=(Bhc a0).val
def Ayv (a0:Ap) (a1:Aq):Tree (Ay):=
 .ob (Li (a0.1,()) a1) fun r1=>
 .ob (A0p (a0.2.2.2.1,()) r1) fun r2=>
 .leaf r2
def Hf (a0:Ap) (a1:Aq):Option (Ay):=(Ayv a0 a1).val
def Ayw (a0:Ak):Tree (Ak×((List Bc)×Unit)×((List Ay)×Unit)):=
 letI u1:=a0.2.2.2;letI u2:=u1.2.2;letI u3:=u2.2.2.2;letI u4:=u3.2.2.2;letI u5:=u4.2.2.2;letI u6:=u5.2.2.2;.ob (Nb a0) fun r1=>letI u7:=r1.2.2.2.2.2.2.2.2.2.2.2.2.2.2.2.2.2.2;
 .ob (O6 a0) fun r2=>
 .br (!r2.1) (
 .leaf (r1,(([]:List Bc),()),(([]:List Ay),()))) (
 .br u6.2.2.2.2.2.2.1 (
 .leaf (r1,(([]:List Bc),()),(([]:List Ay),()))) (
 .br (u2.1 != (0:Int)) (
 .leaf (r1,(([]:List Bc),()),(([]:List Ay),()))) (
 .ob (Ama (u1.1,u1.2.1,u2.1,u2.2.1,u2.2.2.1,u3.1,u3.2.1,u3.2.2.1,u4.1,u4.2.1,u4.2.2.1,u5.1,u5.2.1,u5.2.2.1,u6.1,())) fun r3=>letI u8:=r3.1.2.2.2;letI u9:=u8.2.2.2;letI u10:=u9.2.2.2.2;
 .br (r3.2.2.1 != (0:Int)) (
 .leaf (r1,(([]:List Bc),()),(([]:List Ay),()))) (
 .ob (Hf r3.1 r3.2.1) fun r4=>
 .leaf ((r1.1,r1.2.1,r1.2.2.1,r3.1.1,r3.1.2.1,r3.1.2.2.1,u8.1,u8.2.1,u8.2.2.1,u9.1,u9.2.1,u9.2.2.1,u9.2.2.2.1,u10.1,u10.2.1,u10.2.2.1,u10.2.2.2.1,u10.2.2.2.2.1,u7.1,u7.2.1,u7.2.2.1,u7.2.2.2.1,u7.2.2.2.2.1,u7.2.2.2.2.2.1,()),([(u6.2.1,u6.2.2.1,r3.2.1.1,r3.2.1.2.1,r3.2.1.2.2.1,r3.2.1.2.2.2.1,r3.2.1.2.2.2.2.1,r3.2.1.2.2.2.2.2.1,r3.2.1.2.2.2.2.2.2.1,r3.2.1.2.2.2.2.2.2.2.1,r3.2.1.2.2.2.2.2.2.2.2.1,r3.2.1.2.2.2.2.2.2.2.2.2.1,r3.2.1.2.2.2.2.2.2.2.2.2.2.1,())],()),([r4],()))))))
def Ayx (a0:Ak):Option (Ak×((List Bc)×Unit)×((List Ay)×Unit)):=(Ayw a0).val
def A3k (a0:YBs) (a1:YI) (a2:Aq):Tree (YBs×(Bool×Unit)):=
 letI u1:=a2.2.2.2.2.2.2.2;.ob (Li a1 a2) fun r1=>
 .br ((a0.1.length:Int) != (32:Int)) (
 .leaf ((([]:List YB),()),(false,()))) (
 .br ((r1.1.length:Int)==(0:Int)) (
 .leaf ((([]:List YB),()),(false,()))) (
 .ob (Aej a0 r1) fun r2=>
 .ob (Akr (u1.2.2.2.1,()) r2) fun r3=>
 .br (!r3.1) (
 .leaf ((([]:List YB),()),(false,()))) (
 .ob (Tf a1 (a2.2.2.2.1,()) (u1.1,()) (u1.2.1,())) fun r4=>
 .ob (Awj a0 r4 (u1.2.2.1,())) fun r5=>
 .leaf (r5,(true,())))))
def Ap8 (a0:YBs) (a1:YI) (a2:Aq):Option (YBs×(Bool×Unit)):=(A3k a0 a1 a2).val
def A3l (a0:YEp) (a1:YI) (a2:Aq):Tree (YEp×YBs×YI):=
 letI u1:=a0.2.2.2;letI u2:=a2.2.2.2.2.2.2.2;.ob (Te a0) fun r1=>
 .ob (Vo a0) fun r2=>
 .br (!r2.1) (
 .leaf (r1,(([]:List YB),()),((1:Int),()))) (
 .ob (Li a1 a2) fun r3=>
 .br ((r3.1.length:Int)==(0:Int)) (
 .leaf (r1,(([]:List YB),()),((1:Int),()))) (
 .br (u2.1 != a0.1) (
 .leaf (r1,(([]:List YB),()),((1:Int),()))) (
 .ob (Ad0 (u1.1,u1.2.1,()) (u2.2.1,())) fun r4=>
 .br (!r4.1) (
 .leaf (r1,(([]:List YB),()),((3:Int),()))) (
 .ob (Ap8 (a0.2.1,()) a1 a2) fun r5=>
 .br (!r5.2.1) (
 .leaf (r1,(([]:List YB),()),((2:Int),()))) (
 .ob (Xf (u1.1,u1.2.1,()) (u2.2.1,())) fun r6=>
 .leaf ((r1.1,r1.2.1,r1.2.2.1,r6.1.1,r6.1.2.1,()),r5.1,((0:Int),())))))))
def Mr (a0:YEp) (a1:YI) (a2:Aq):Option (YEp×YBs×YI):=(A3l a0 a1 a2).val
def Agy (a0:Ap) (a1:YI) (a2:Aq):Tree (Ap×YBs×YI):=
 letI u1:=a0.2.2;letI u2:=u1.2.2;letI u3:=u2.2.2.2;letI u4:=u3.2.2;letI u5:=u4.2.2;letI u6:=u5.2.2;letI u7:=a2.2.2.2.2.2.2.2;.ob (Iz a0) fun r1=>letI u8:=r1.2.2;letI u9:=u8.2.2;letI u10:=u9.2.2;letI u11:=u10.2.2;letI u12:=u11.2.2;letI u13:=u12.2.2;letI u14:=u13.2.2;
 .ob (Ke a0) fun r2=>
 .br (!r2.1) (
 .leaf (r1,(([]:List YB),()),((1:Int),()))) (
 .ob (Bt a1 ((0:Int),()) ((1000000:Int),())) fun r3=>
 .br (!r3.1) (
 .leaf (r1,(([]:List YB),()),((1:Int),()))) (
 .ob (Na a2) fun r4=>
 .br (!r4.1) (
 .leaf (r1,(([]:List YB),()),((1:Int),()))) (
 .ob (O7 (a2.1,())) fun r5=>
 .br (!r5.1) (
 .leaf (r1,(([]:List YB),()),((1:Int),()))) (
 .ob (Td (a2.2.2.2.1,()) (a0.2.1,())) fun r6=>
 .br (!r6.1) (
 .leaf (r1,(([]:List YB),()),((8:Int),()))) (
 .br (u7.1==u1.1) (
 .ob (Mr (u1.1,u1.2.1,u2.1,u2.2.1,u2.2.2.1,()) ((i64.wrap ((1:Int)-a0.1)),()) a2) fun r7=>letI u15:=r7.1.2.2;
 .br (r7.2.2.1 != (0:Int)) (
 .leaf (r1,(([]:List YB),()),r7.2.2)) (
 .br u5.2.1 (
 .br (u6.1==(-1:Int)) (
 .leaf ((r1.1,r1.2.1,r7.1.1,r7.1.2.1,u15.1,u15.2.1,u15.2.2.1,u10.2.1,u11.1,u11.2.1,u12.1,u12.2.1,u13.1,(i64.wrap (a1.1+(5:Int))),u14.1,()),r7.2.1,((0:Int),()))) (
 .leaf ((r1.1,r1.2.1,r7.1.1,r7.1.2.1,u15.1,u15.2.1,u15.2.2.1,u10.2.1,u11.1,u11.2.1,u12.1,u12.2.1,u13.1,u13.2.1,u14.1,()),r7.2.1,((0:Int),())))) (
 .leaf ((r1.1,r1.2.1,r7.1.1,r7.1.2.1,u15.1,u15.2.1,u15.2.2.1,u10.2.1,u11.1,u11.2.1,u12.1,u12.2.1,u13.1,u13.2.1,u14.1,()),r7.2.1,((0:Int),()))))) (
 .br u5.2.1 (
 .br (u7.1==u3.1) (
 .br (u6.1 != (-1:Int)) (
 .br (decide (a1.1>u6.1)) (
 .leaf (r1,(([]:List YB),()),((9:Int),()))) (
 .ob (Mr (u3.1,u3.2.1,u4.1,u4.2.1,u5.1,()) ((i64.wrap ((1:Int)-a0.1)),()) a2) fun r8=>
 .br (r8.2.2.1 != (0:Int)) (
 .leaf (r1,(([]:List YB),()),r8.2.2)) (
 .leaf ((r1.1,r1.2.1,u8.1,u8.2.1,u9.1,u9.2.1,u10.1,r8.1.1,r8.1.2.1,r8.1.2.2.1,r8.1.2.2.2.1,r8.1.2.2.2.2.1,u13.1,u13.2.1,u14.1,()),r8.2.1,((0:Int),()))))) (
 .ob (Mr (u3.1,u3.2.1,u4.1,u4.2.1,u5.1,()) ((i64.wrap ((1:Int)-a0.1)),()) a2) fun r9=>
 .br (r9.2.2.1 != (0:Int)) (
 .leaf (r1,(([]:List YB),()),r9.2.2)) (
 .leaf ((r1.1,r1.2.1,u8.1,u8.2.1,u9.1,u9.2.1,u10.1,r9.1.1,r9.1.2.1,r9.1.2.2.1,r9.1.2.2.2.1,r9.1.2.2.2.2.1,u13.1,u13.2.1,u14.1,()),r9.2.1,((0:Int),()))))) (
 .br (decide ((a0.2.2.2.2.2.2.2.2.2.2.2.2.2.2.1.length:Int)>(0:Int))) (
 .br (u7.1==(i64.wrap (u1.1+(1:Int)))) (
 .ob (Fj ((i64.wrap (u1.1+(1:Int))),()) (u6.2.1,())) fun r10=>
 .ob (Mr r10 ((i64.wrap ((1:Int)-a0.1)),()) a2) fun r11=>
 .br (r11.2.2.1 != (0:Int)) (
 .leaf (r1,(([]:List YB),()),r11.2.2)) (
 .leaf ((r1.1,r1.2.1,r11.1.1,r11.1.2.1,r11.1.2.2.1,r11.1.2.2.2.1,r11.1.2.2.2.2.1,u8.1,u8.2.1,u9.1,u9.2.1,u10.1,true,(i64.wrap (a1.1+(5:Int))),([]:List YB),()),r11.2.1,((0:Int),())))) (
 .leaf (r1,(([]:List YB),()),((8:Int),())))) (
 .leaf (r1,(([]:List YB),()),((8:Int),()))))) (
 .br (decide ((a0.2.2.2.2.2.2.2.2.2.2.2.2.2.2.1.length:Int)>(0:Int))) (
 .br (u7.1==(i64.wrap (u1.1+(1:Int)))) (
 .ob (Fj ((i64.wrap (u1.1+(1:Int))),()) (u6.2.1,())) fun r12=>
 .ob (Mr r12 ((i64.wrap ((1:Int)-a0.1)),()) a2) fun r13=>
 .br (r13.2.2.1 != (0:Int)) (
 .leaf (r1,(([]:List YB),()),r13.2.2)) (
 .leaf ((r1.1,r1.2.1,r13.1.1,r13.1.2.1,r13.1.2.2.1,r13.1.2.2.2.1,r13.1.2.2.2.2.1,u8.1,u8.2.1,u9.1,u9.2.1,u10.1,true,(i64.wrap (a1.1+(5:Int))),([]:List YB),()),r13.2.1,((0:Int),())))) (
 .leaf (r1,(([]:List YB),()),((8:Int),())))) (
 .leaf (r1,(([]:List YB),()),((8:Int),()))))))))))
def Ll (a0:Ap) (a1:YI) (a2:Aq):Option (Ap×YBs×YI):=(Agy a0 a1 a2).val
def A3m (a0:Ap) (a1:YI):Tree (YBs×(Bool×Unit)):=
 letI u1:=a0.2.2;letI u2:=u1.2.2.2.2.2;letI u3:=u2.2.2.2.2.2;.ob (Ke a0) fun r1=>
 .br (!r1.1) (
 .leaf ((([]:List YB),()),(false,()))) (
 .br u3.1 (
 .br (a1.1==u2.1) (
 .chk (decide (([]:List YB).length+a0.2.2.2.2.2.2.2.2.1.length<=4294967296)) <|
 .leaf (((([]:List YB)++u2.2.1),()),(true,()))) (
 .br (a1.1==u1.1) (
 .chk (decide (([]:List YB).length+a0.2.2.2.1.length<=4294967296)) <|
 .leaf (((([]:List YB)++u1.2.1),()),(true,()))) (
 .br (decide ((a0.2.2.2.2.2.2.2.2.2.2.2.2.2.2.1.length:Int)>(0:Int))) (
 .br (a1.1==(i64.wrap (u1.1+(1:Int)))) (
 .chk (decide (([]:List YB).length+a0.2.2.2.2.2.2.2.2.2.2.2.2.2.2.1.length<=4294967296)) <|
 .leaf (((([]:List YB)++u3.2.2.1),()),(true,()))) (
 .leaf ((([]:List YB),()),(false,())))) (
 .leaf ((([]:List YB),()),(false,())))))) (
 .br (a1.1==u1.1) (
 .chk (decide (([]:List YB).length+a0.2.2.2.1.length<=4294967296)) <|
 .leaf (((([]:List YB)++u1.2.1),()),(true,()))) (
 .br (decide ((a0.2.2.2.2.2.2.2.2.2.2.2.2.2.2.1.length:Int)>(0:Int))) (
 .br (a1.1==(i64.wrap (u1.1+(1:Int)))) (
 .chk (decide (([]:List YB).length+a0.2.2.2.2.2.2.2.2.2.2.2.2.2.2.1.length<=4294967296)) <|
 .leaf (((([]:List YB)++u3.2.2.1),()),(true,()))) (
 .leaf ((([]:List YB),()),(false,())))) (
 .leaf ((([]:List YB),()),(false,()))))))
def Aea (a0:Ap) (a1:YI):Option (YBs×(Bool×Unit)):=(A3m a0 a1).val
def Rx (x2:Int×Int×Int×(List A8)×Int×Int×Int×Int×(List YB)×Int×Unit):Option ((Int×Int×Int×(List A8)×Int×Int×Int×Int×(List YB)×Int×Unit)⊕((Bool×Int×Int×(List YB)×Int×Unit)⊕A8)):=
 letI u1:=x2.2.2.2;letI u2:=u1.2.2;letI u3:=u2.2.2;Tree.val <|
 .br (decide (x2.1<(x2.2.2.2.1.length:Int))) (
 .ob (idx u1.1 x2.1) fun e3=>
 .br (and (e3.1==u1.2.1) (and (e3.2.1==u2.1) true)) (
 .ob (idx u1.1 x2.1) fun e4=>
 .ob (Qk e4) fun r5=>
 .leaf (.inr (.inl (true,r5.1,r5.2.1,r5.2.2.1,r5.2.2.2.1,())))) (
 .leaf (.inl ((i64.wrap (x2.1+(1:Int))),x2.2.1,x2.2.2.1,u1.1,u1.2.1,u2.1,u2.2.1,u3.1,u3.2.1,u3.2.2.1,())))) (
 .leaf (.inr (.inr (u2.2.1,u3.1,u3.2.1,u3.2.2.1,()))))
def A3n (a0:Bm) (a1:A7):Tree (A8×(Bool×Unit)):=
 .ob (Qj a0) fun r1=>
 .br (!r1.1) (
 .leaf (((0:Int),(0:Int),([]:List YB),(0:Int),()),(false,()))) (
 .ob (Ax Rx ((0:Int),a0.1,a0.2.1,a0.2.2.1,a1.1,a1.2.1,(0:Int),(0:Int),([]:List YB),(0:Int),())) fun o6=>
 .sm o6 (fun o7=>
 .leaf ((o7.2.1,o7.2.2.1,o7.2.2.2.1,o7.2.2.2.2.1,()),(o7.1,()))) (fun o8=>
 .leaf (((0:Int),(0:Int),([]:List YB),(0:Int),()),(false,()))))
def A3o (a0:Bm) (a1:A7):Option (A8×(Bool×Unit)):=(A3n a0 a1).val
def Ry (x8:Int×Int×Int×(List A8)×Int×Int×Int×Int×(List A8)×Int×Int×(List A8)×Unit):Option ((Int×Int×Int×(List A8)×Int×Int×Int×Int×(List A8)×Int×Int×(List A8)×Unit)⊕((Int×Int×(List A8)×Int×Int×(List A8)×Unit))):=
 letI u1:=x8.2.2.2;letI u2:=u1.2.2;letI u3:=u2.2.2;letI u4:=u3.2.2;Tree.val <|
 .br (decide (x8.1<(x8.2.2.2.1.length:Int))) (
 .ob (idx u1.1 x8.1) fun e9=>
 .br (!(and (e9.1==u1.2.1) (and (e9.2.1==u2.1) true))) (
 .ob (idx u1.1 x8.1) fun e10=>
 .ob (Qk e10) fun r11=>
 .chk (decide (x8.2.2.2.2.2.2.2.2.2.2.2.1.length+[r11].length<=4294967296)) <|
 .leaf (.inl ((i64.wrap (x8.1+(1:Int))),x8.2.1,x8.2.2.1,u1.1,u1.2.1,u2.1,u2.2.1,u3.1,u3.2.1,u4.1,u4.2.1,(u4.2.2.1++[r11]),()))) (
 .leaf (.inl ((i64.wrap (x8.1+(1:Int))),x8.2.1,x8.2.2.1,u1.1,u1.2.1,u2.1,u2.2.1,u3.1,u3.2.1,u4.1,u4.2.1,u4.2.2.1,())))) (
 .leaf (.inr (u2.2.1,u3.1,u3.2.1,u4.1,u4.2.1,u4.2.2.1,())))
def A3p (a0:Bm) (a1:YI) (a2:A7) (a3:YBs):Tree (Bm×(Bool×Unit)):=
 .ob (A3o a0 a2) fun r1=>
 .br (!r1.2.1) (
 .ob (Ea a0) fun r2=>
 .leaf (r2,(false,()))) (
 .ob (Bt a1 ((0:Int),()) ((1000000:Int),())) fun r3=>
 .br (!r3.1) (
 .ob (Ea a0) fun r4=>
 .leaf (r4,(false,()))) (
 .ob (Td (r1.1.2.2.1,()) a3) fun r5=>
 .br (!r5.1) (
 .ob (Ea a0) fun r6=>
 .leaf (r6,(false,()))) (
 .br (decide (a1.1>r1.1.2.2.2.1)) (
 .ob (Ea a0) fun r7=>
 .leaf (r7,(false,()))) (
 .ob (Ax Ry ((0:Int),a0.1,a0.2.1,a0.2.2.1,a2.1,a2.2.1,(0:Int),(0:Int),([]:List A8),a2.1,a2.2.1,([]:List A8),())) fun o12=>
 .leaf ((o12.2.2.2.1,o12.2.2.2.2.1,o12.2.2.2.2.2.1,()),(true,()))))))
def Aeb (a0:Bm) (a1:YI) (a2:A7) (a3:YBs):Option (Bm×(Bool×Unit)):=(A3p a0 a1 a2 a3).val
def Bch (a0:Ap):Tree (Ap×(Bool×Unit)):=
 .ob (Iz a0) fun r1=>letI u1:=r1.2.2.2;
 .ob (Ke a0) fun r2=>
 .br (!r2.1) (
 .leaf (r1,(false,()))) (
 .br (a0.1 != (1:Int)) (
 .leaf (r1,(false,()))) (
 .br (a0.2.2.1==(4294967295:Int)) (
 .leaf (r1,(false,()))) (
 .ob (Do (a0.2.2.2.1,()) ((Dd [114,101,107,101,121]),())) fun r3=>
 .ob (Fj ((i64.wrap (a0.2.2.1+(1:Int))),()) r3) fun r4=>
 .leaf ((r1.1,r1.2.1,r4.1,r4.2.1,r4.2.2.1,r4.2.2.2.1,r4.2.2.2.2.1,r1.2.2.1,u1.1,u1.2.1,u1.2.2.1,u1.2.2.2.1,true,(-1:Int),u1.2.2.2.2.2.2.2.2.2.2.2.1,()),(true,())))))
def A0s (a0:Ap):Option (Ap×(Bool×Unit)):=(Bch a0).val
def Asd (a0:Ap) (a1:YI) (a2:YBs):Tree (Ap×YI):=
 .ob (Iz a0) fun r1=>
 .ob (Ke a0) fun r2=>
 .br (!r2.1) (
 .leaf (r1,((6:Int),()))) (
 .br (a0.1 != (1:Int)) (
 .leaf (r1,((6:Int),()))) (
 .ob (Bt a1 ((0:Int),()) ((4294967294:Int),())) fun r3=>
 .br (!r3.1) (
 .leaf (r1,((6:Int),()))) (
 .ob (Fa ((i64.wrap (a1.1+(1:Int))),())) fun r4=>
 .ob (Td a2 r4) fun r5=>
 .br (!r5.1) (
 .leaf (r1,((6:Int),()))) (
 .br (a1.1==a0.2.2.1) (
 .ob (A0s a0) fun r6=>
 .br (!r6.2.1) (
 .leaf (r1,((6:Int),()))) (
 .leaf (r6.1,((0:Int),())))) (
 .br (a1.1==(i64.wrap (a0.2.2.1-(1:Int)))) (
 .leaf (r1,((0:Int),()))) (
 .leaf (r1,((6:Int),()))))))))
def Vg (a0:Ap) (a1:YI) (a2:YBs):Option (Ap×YI):=(Asd a0 a1 a2).val
def Amb (r7:Ay) (r17:Ay) (r1:Ak) (r16:Ap×Aq×YI) (r15:Bm×(Bool×Unit)) (a1:YI) (a2:A7):Tree (Ak×((List Bc)×Unit)×((List Ay)×Unit)×(Bool×Unit)):=
 letI u1:=r1.2.2.2.2.2.2.2.2.2.2.2.2.2.2.2.2.2.2.2.2.2;letI u2:=r16.1.2.2.2;letI u3:=u2.2.2.2;letI u4:=u3.2.2.2.2;.chk (decide ((([]:List Ay)++[r7]).length+[r17].length<=4294967296)) <|
 .leaf ((r1.1,r1.2.1,r1.2.2.1,r16.1.1,r16.1.2.1,r16.1.2.2.1,u2.1,u2.2.1,u2.2.2.1,u3.1,u3.2.1,u3.2.2.1,u3.2.2.2.1,u4.1,u4.2.1,u4.2.2.1,u4.2.2.2.1,u4.2.2.2.2.1,r15.1.1,r15.1.2.1,r15.1.2.2.1,u1.1,a1.1,u1.2.2.1,()),((([]:List Bc)++[(a2.1,a2.2.1,r16.2.1.1,r16.2.1.2.1,r16.2.1.2.2.1,r16.2.1.2.2.2.1,r16.2.1.2.2.2.2.1,r16.2.1.2.2.2.2.2.1,r16.2.1.2.2.2.2.2.2.1,r16.2.1.2.2.2.2.2.2.2.1,r16.2.1.2.2.2.2.2.2.2.2.1,r16.2.1.2.2.2.2.2.2.2.2.2.1,r16.2.1.2.2.2.2.2.2.2.2.2.2.1,())]),()),(((([]:List Ay)++[r7])++[r17]),()),(true,()))
def Amc (r16:Ap×Aq×YI) (r7:Ay) (r1:Ak) (r15:Bm×(Bool×Unit)) (a1:YI) (a2:A7):Tree (Ak×((List Bc)×Unit)×((List Ay)×Unit)×(Bool×Unit)):=
 .ob (Hf r16.1 r16.2.1) fun r17=>
 Amb r7 r17 r1 r16 r15 a1 a2
def Z8 (a2:A7) (r16:Ap×Aq×YI) (r7:Ay) (r1:Ak) (r15:Bm×(Bool×Unit)) (a1:YI):Tree (Ak×((List Bc)×Unit)×((List Ay)×Unit)×(Bool×Unit)):=
 .chk (decide (([]:List Bc).length+[(a2.1,a2.2.1,r16.2.1.1,r16.2.1.2.1,r16.2.1.2.2.1,r16.2.1.2.2.2.1,r16.2.1.2.2.2.2.1,r16.2.1.2.2.2.2.2.1,r16.2.1.2.2.2.2.2.2.1,r16.2.1.2.2.2.2.2.2.2.1,r16.2.1.2.2.2.2.2.2.2.2.1,r16.2.1.2.2.2.2.2.2.2.2.2.1,r16.2.1.2.2.2.2.2.2.2.2.2.2.1,())].length<=4294967296)) <|
 Amc r16 r7 r1 r15 a1 a2
def Amd (r16:Ap×Aq×YI) (r1:Ak) (r4:Ap×YBs×YI) (a1:YI) (r7:Ay) (a2:A7) (r15:Bm×(Bool×Unit)):Tree (Ak×((List Bc)×Unit)×((List Ay)×Unit)×(Bool×Unit)):=
 letI u1:=r1.2.2.2.2.2.2.2.2.2.2.2.2.2.2.2.2.2.2;letI u2:=r4.1.2.2.2;letI u3:=u2.2.2.2;letI u4:=u3.2.2.2.2;.br (r16.2.2.1 != (0:Int)) (
 .leaf ((r1.1,r1.2.1,r1.2.2.1,r4.1.1,r4.1.2.1,r4.1.2.2.1,u2.1,u2.2.1,u2.2.2.1,u3.1,u3.2.1,u3.2.2.1,u3.2.2.2.1,u4.1,u4.2.1,u4.2.2.1,u4.2.2.2.1,u4.2.2.2.2.1,u1.1,u1.2.1,u1.2.2.1,u1.2.2.2.1,a1.1,u1.2.2.2.2.2.1,()),(([]:List Bc),()),((([]:List Ay)++[r7]),()),(false,()))) (
 Z8 a2 r16 r7 r1 r15 a1)
def Ame (r15:Bm×(Bool×Unit)) (r1:Ak) (r4:Ap×YBs×YI) (a1:YI) (r7:Ay) (r16:Ap×Aq×YI) (a2:A7):Tree (Ak×((List Bc)×Unit)×((List Ay)×Unit)×(Bool×Unit)):=
 letI u1:=r1.2.2.2.2.2.2.2.2.2.2.2.2.2.2.2.2.2.2;letI u2:=r4.1.2.2.2;letI u3:=u2.2.2.2;letI u4:=u3.2.2.2.2;.br (!r15.2.1) (
 .leaf ((r1.1,r1.2.1,r1.2.2.1,r4.1.1,r4.1.2.1,r4.1.2.2.1,u2.1,u2.2.1,u2.2.2.1,u3.1,u3.2.1,u3.2.2.1,u3.2.2.2.1,u4.1,u4.2.1,u4.2.2.1,u4.2.2.2.1,u4.2.2.2.2.1,u1.1,u1.2.1,u1.2.2.1,u1.2.2.2.1,a1.1,u1.2.2.2.2.2.1,()),(([]:List Bc),()),((([]:List Ay)++[r7]),()),(false,()))) (
 Amd r16 r1 r4 a1 r7 a2 r15)
def Amf (r4:Ap×YBs×YI) (a4:YBs) (r15:Bm×(Bool×Unit)) (r1:Ak) (a1:YI) (r7:Ay) (a2:A7):Tree (Ak×((List Bc)×Unit)×((List Ay)×Unit)×(Bool×Unit)):=
 .ob (Dp r4.1 ((5:Int),()) a4) fun r16=>
 Ame r15 r1 r4 a1 r7 r16 a2
def Tj (r1:Ak) (a1:YI) (a2:A7) (a4:YBs) (r4:Ap×YBs×YI) (r7:Ay):Tree (Ak×((List Bc)×Unit)×((List Ay)×Unit)×(Bool×Unit)):=
 letI u1:=r1.2.2.2.2.2.2.2.2.2.2.2.2.2.2.2.2.2.2;.ob (Em (u1.1,u1.2.1,u1.2.2.1,()) a1 a2 a4) fun r15=>
 Amf r4 a4 r15 r1 a1 r7 a2
def Au1 (a0:Ak) (a1:YI) (a2:A7) (a3:Aq) (a4:YBs):Tree (Ak×((List Bc)×Unit)×((List Ay)×Unit)×(Bool×Unit)):=
 letI u1:=a0.2.2;letI u2:=u1.2.2;letI u3:=u2.2.2;letI u4:=u3.2.2;letI u5:=u4.2.2;letI u6:=u5.2.2;letI u7:=u6.2.2;letI u8:=u7.2.2;letI u9:=a3.2.2.2.2.2.2.2;.ob (Nb a0) fun r1=>letI u10:=r1.2.2;letI u11:=u10.2.2.2.2.2.2.2.2.2.2.2.2.2.2.2.2;letI u12:=u11.2.2;letI u13:=u12.2.2.2;
 .ob (O6 a0) fun r2=>
 .br (!r2.1) (
 .leaf (r1,(([]:List Bc),()),(([]:List Ay),()),(false,()))) (
 .br u8.2.2.2.2.2.2.2.1 (
 .leaf (r1,(([]:List Bc),()),(([]:List Ay),()),(false,()))) (
 .ob (Hk a2) fun r3=>
 .br (!r3.1) (
 .leaf (r1,(([]:List Bc),()),(([]:List Ay),()),(false,()))) (
 .ob (Ll (u1.2.1,u2.1,u2.2.1,u3.1,u3.2.1,u4.1,u4.2.1,u5.1,u5.2.1,u6.1,u6.2.1,u7.1,u7.2.1,u8.1,u8.2.1,()) a1 a3) fun r4=>letI u14:=r4.1.2.2;letI u15:=u14.2.2;letI u16:=u15.2.2;letI u17:=u16.2.2;letI u18:=u17.2.2;letI u19:=u18.2.2;
 .br (r4.2.2.1 != (0:Int)) (
 .leaf (r1,(([]:List Bc),()),(([]:List Ay),()),(false,()))) (
 .ob (Aea (u1.2.1,u2.1,u2.2.1,u3.1,u3.2.1,u4.1,u4.2.1,u5.1,u5.2.1,u6.1,u6.2.1,u7.1,u7.2.1,u8.1,u8.2.1,()) (u9.1,())) fun r5=>
 .ob (Li ((0:Int),()) a3) fun r6=>
 .ob (A0r r5.1 (u1.1,()) r6) fun r7=>
 .chk (decide (([]:List Ay).length+[r7].length<=4294967296)) <|
 .br (a3.1==(4:Int)) (
 .chk (decide (([]:List YB).length+a0.2.2.1.length<=4294967296)) <|
 .chk (decide (([]:List YB).length+r4.2.1.1.length<=4294967296)) <|
 .chk (decide ((([]:List Ay)++[r7]).length+[((6:Int),(0:Int),(0:Int),([]:List YB),(([]:List YB)++u1.1),u9.1,u9.2.1,(([]:List YB)++r4.2.1.1),([]:List YB),(0:Int),(0:Int),a1.1,())].length<=4294967296)) <|
 .ob (Em (u11.1,u11.2.1,u12.1,()) a1 a2 a4) fun r8=>
 .ob (Dp r4.1 ((5:Int),()) a4) fun r9=>letI u20:=r9.1.2.2.2;letI u21:=u20.2.2.2;letI u22:=u21.2.2.2.2;
 .br (!r8.2.1) (
 .leaf ((r1.1,r1.2.1,u10.1,r4.1.1,r4.1.2.1,u14.1,u14.2.1,u15.1,u15.2.1,u16.1,u16.2.1,u17.1,u17.2.1,u18.1,u18.2.1,u19.1,u19.2.1,u19.2.2.1,u11.1,u11.2.1,u12.1,u12.2.1,a1.1,u13.1,()),(([]:List Bc),()),(((([]:List Ay)++[r7])++[((6:Int),(0:Int),(0:Int),([]:List YB),(([]:List YB)++u1.1),u9.1,u9.2.1,(([]:List YB)++r4.2.1.1),([]:List YB),(0:Int),(0:Int),a1.1,())]),()),(false,()))) (
 .br (r9.2.2.1 != (0:Int)) (
 .leaf ((r1.1,r1.2.1,u10.1,r4.1.1,r4.1.2.1,u14.1,u14.2.1,u15.1,u15.2.1,u16.1,u16.2.1,u17.1,u17.2.1,u18.1,u18.2.1,u19.1,u19.2.1,u19.2.2.1,u11.1,u11.2.1,u12.1,u12.2.1,a1.1,u13.1,()),(([]:List Bc),()),(((([]:List Ay)++[r7])++[((6:Int),(0:Int),(0:Int),([]:List YB),(([]:List YB)++u1.1),u9.1,u9.2.1,(([]:List YB)++r4.2.1.1),([]:List YB),(0:Int),(0:Int),a1.1,())]),()),(false,()))) (
 .chk (decide (([]:List Bc).length+[(a2.1,a2.2.1,r9.2.1.1,r9.2.1.2.1,r9.2.1.2.2.1,r9.2.1.2.2.2.1,r9.2.1.2.2.2.2.1,r9.2.1.2.2.2.2.2.1,r9.2.1.2.2.2.2.2.2.1,r9.2.1.2.2.2.2.2.2.2.1,r9.2.1.2.2.2.2.2.2.2.2.1,r9.2.1.2.2.2.2.2.2.2.2.2.1,r9.2.1.2.2.2.2.2.2.2.2.2.2.1,())].length<=4294967296)) <|
 .ob (Hf r9.1 r9.2.1) fun r10=>
 .chk (decide (((([]:List Ay)++[r7])++[((6:Int),(0:Int),(0:Int),([]:List YB),(([]:List YB)++u1.1),u9.1,u9.2.1,(([]:List YB)++r4.2.1.1),([]:List YB),(0:Int),(0:Int),a1.1,())]).length+[r10].length<=4294967296)) <|
 .leaf ((r1.1,r1.2.1,u10.1,r9.1.1,r9.1.2.1,r9.1.2.2.1,u20.1,u20.2.1,u20.2.2.1,u21.1,u21.2.1,u21.2.2.1,u21.2.2.2.1,u22.1,u22.2.1,u22.2.2.1,u22.2.2.2.1,u22.2.2.2.2.1,r8.1.1,r8.1.2.1,r8.1.2.2.1,u12.2.1,a1.1,u13.1,()),((([]:List Bc)++[(a2.1,a2.2.1,r9.2.1.1,r9.2.1.2.1,r9.2.1.2.2.1,r9.2.1.2.2.2.1,r9.2.1.2.2.2.2.1,r9.2.1.2.2.2.2.2.1,r9.2.1.2.2.2.2.2.2.1,r9.2.1.2.2.2.2.2.2.2.1,r9.2.1.2.2.2.2.2.2.2.2.1,r9.2.1.2.2.2.2.2.2.2.2.2.1,r9.2.1.2.2.2.2.2.2.2.2.2.2.1,())]),()),((((([]:List Ay)++[r7])++[((6:Int),(0:Int),(0:Int),([]:List YB),(([]:List YB)++u1.1),u9.1,u9.2.1,(([]:List YB)++r4.2.1.1),([]:List YB),(0:Int),(0:Int),a1.1,())])++[r10]),()),(true,()))))) (
 .br (a3.1==(6:Int)) (
 .ob (Aeb (u11.1,u11.2.1,u12.1,()) a1 a2 r4.2.1) fun r11=>
 .br r11.2.1 (
 .chk (decide (([]:List YB).length+a0.2.2.1.length<=4294967296)) <|
 .chk (decide (([]:List YB).length+r4.2.1.1.length<=4294967296)) <|
 .chk (decide ((([]:List Ay)++[r7]).length+[((9:Int),(0:Int),(0:Int),([]:List YB),(([]:List YB)++u1.1),(0:Int),(0:Int),(([]:List YB)++r4.2.1.1),([]:List YB),a2.1,a2.2.1,a1.1,())].length<=4294967296)) <|
 .ob (Em r11.1 a1 a2 a4) fun r12=>
 .ob (Dp r4.1 ((5:Int),()) a4) fun r13=>letI u23:=r13.1.2.2.2;letI u24:=u23.2.2.2;letI u25:=u24.2.2.2.2;
 .br (!r12.2.1) (
 .leaf ((r1.1,r1.2.1,u10.1,r4.1.1,r4.1.2.1,u14.1,u14.2.1,u15.1,u15.2.1,u16.1,u16.2.1,u17.1,u17.2.1,u18.1,u18.2.1,u19.1,u19.2.1,u19.2.2.1,r11.1.1,r11.1.2.1,r11.1.2.2.1,u12.2.1,a1.1,u13.1,()),(([]:List Bc),()),(((([]:List Ay)++[r7])++[((9:Int),(0:Int),(0:Int),([]:List YB),(([]:List YB)++u1.1),(0:Int),(0:Int),(([]:List YB)++r4.2.1.1),([]:List YB),a2.1,a2.2.1,a1.1,())]),()),(false,()))) (
 .br (r13.2.2.1 != (0:Int)) (
 .leaf ((r1.1,r1.2.1,u10.1,r4.1.1,r4.1.2.1,u14.1,u14.2.1,u15.1,u15.2.1,u16.1,u16.2.1,u17.1,u17.2.1,u18.1,u18.2.1,u19.1,u19.2.1,u19.2.2.1,r11.1.1,r11.1.2.1,r11.1.2.2.1,u12.2.1,a1.1,u13.1,()),(([]:List Bc),()),(((([]:List Ay)++[r7])++[((9:Int),(0:Int),(0:Int),([]:List YB),(([]:List YB)++u1.1),(0:Int),(0:Int),(([]:List YB)++r4.2.1.1),([]:List YB),a2.1,a2.2.1,a1.1,())]),()),(false,()))) (
 .chk (decide (([]:List Bc).length+[(a2.1,a2.2.1,r13.2.1.1,r13.2.1.2.1,r13.2.1.2.2.1,r13.2.1.2.2.2.1,r13.2.1.2.2.2.2.1,r13.2.1.2.2.2.2.2.1,r13.2.1.2.2.2.2.2.2.1,r13.2.1.2.2.2.2.2.2.2.1,r13.2.1.2.2.2.2.2.2.2.2.1,r13.2.1.2.2.2.2.2.2.2.2.2.1,r13.2.1.2.2.2.2.2.2.2.2.2.2.1,())].length<=4294967296)) <|
 .ob (Hf r13.1 r13.2.1) fun r14=>
 .chk (decide (((([]:List Ay)++[r7])++[((9:Int),(0:Int),(0:Int),([]:List YB),(([]:List YB)++u1.1),(0:Int),(0:Int),(([]:List YB)++r4.2.1.1),([]:List YB),a2.1,a2.2.1,a1.1,())]).length+[r14].length<=4294967296)) <|
 .leaf ((r1.1,r1.2.1,u10.1,r13.1.1,r13.1.2.1,r13.1.2.2.1,u23.1,u23.2.1,u23.2.2.1,u24.1,u24.2.1,u24.2.2.1,u24.2.2.2.1,u25.1,u25.2.1,u25.2.2.1,u25.2.2.2.1,u25.2.2.2.2.1,r12.1.1,r12.1.2.1,r12.1.2.2.1,u12.2.1,a1.1,u13.1,()),((([]:List Bc)++[(a2.1,a2.2.1,r13.2.1.1,r13.2.1.2.1,r13.2.1.2.2.1,r13.2.1.2.2.2.1,r13.2.1.2.2.2.2.1,r13.2.1.2.2.2.2.2.1,r13.2.1.2.2.2.2.2.2.1,r13.2.1.2.2.2.2.2.2.2.1,r13.2.1.2.2.2.2.2.2.2.2.1,r13.2.1.2.2.2.2.2.2.2.2.2.1,r13.2.1.2.2.2.2.2.2.2.2.2.2.1,())]),()),((((([]:List Ay)++[r7])++[((9:Int),(0:Int),(0:Int),([]:List YB),(([]:List YB)++u1.1),(0:Int),(0:Int),(([]:List YB)++r4.2.1.1),([]:List YB),a2.1,a2.2.1,a1.1,())])++[r14]),()),(true,()))))) (
 Tj r1 a1 a2 a4 r4 r7)) (
 .br (a3.1==(7:Int)) (
 .ob (Vg r4.1 (u9.1,()) r4.2.1) fun r18=>letI u26:=r18.1.2.2;letI u27:=u26.2.2;letI u28:=u27.2.2;letI u29:=u28.2.2;letI u30:=u29.2.2;letI u31:=u30.2.2;
 .br (r18.2.1==(0:Int)) (
 .br (u26.1 != u14.1) (
 .chk (decide (([]:List YB).length+a0.2.2.1.length<=4294967296)) <|
 .chk (decide (([]:List YB).length+r18.1.2.2.2.1.length<=4294967296)) <|
 .chk (decide ((([]:List Ay)++[r7]).length+[((10:Int),(0:Int),(1:Int),([]:List YB),(([]:List YB)++u1.1),u26.1,(0:Int),([]:List YB),(([]:List YB)++u26.2.1),(0:Int),(0:Int),(0:Int),())].length<=4294967296)) <|
 .ob (Ama r18.1) fun r19=>letI u32:=r19.1.2.2;letI u33:=u32.2.2;letI u34:=u33.2.2;letI u35:=u34.2.2;letI u36:=u35.2.2;letI u37:=u36.2.2;
 .br (r19.2.2.1==(0:Int)) (
 .chk (decide (([]:List Bc).length+[(u11.1,u11.2.1,r19.2.1.1,r19.2.1.2.1,r19.2.1.2.2.1,r19.2.1.2.2.2.1,r19.2.1.2.2.2.2.1,r19.2.1.2.2.2.2.2.1,r19.2.1.2.2.2.2.2.2.1,r19.2.1.2.2.2.2.2.2.2.1,r19.2.1.2.2.2.2.2.2.2.2.1,r19.2.1.2.2.2.2.2.2.2.2.2.1,r19.2.1.2.2.2.2.2.2.2.2.2.2.1,())].length<=4294967296)) <|
 .ob (Hf r19.1 r19.2.1) fun r20=>
 .chk (decide (((([]:List Ay)++[r7])++[((10:Int),(0:Int),(1:Int),([]:List YB),(([]:List YB)++u1.1),u26.1,(0:Int),([]:List YB),(([]:List YB)++u26.2.1),(0:Int),(0:Int),(0:Int),())]).length+[r20].length<=4294967296)) <|
 .ob (Em (u11.1,u11.2.1,u12.1,()) a1 a2 a4) fun r21=>
 .ob (Dp r19.1 ((5:Int),()) a4) fun r22=>letI u38:=r22.1.2.2.2;letI u39:=u38.2.2.2;letI u40:=u39.2.2.2.2;
 .br (!r21.2.1) (
 .leaf ((r1.1,r1.2.1,u10.1,r19.1.1,r19.1.2.1,u32.1,u32.2.1,u33.1,u33.2.1,u34.1,u34.2.1,u35.1,u35.2.1,u36.1,u36.2.1,u37.1,u37.2.1,u37.2.2.1,u11.1,u11.2.1,u12.1,u12.2.1,a1.1,u13.1,()),((([]:List Bc)++[(u11.1,u11.2.1,r19.2.1.1,r19.2.1.2.1,r19.2.1.2.2.1,r19.2.1.2.2.2.1,r19.2.1.2.2.2.2.1,r19.2.1.2.2.2.2.2.1,r19.2.1.2.2.2.2.2.2.1,r19.2.1.2.2.2.2.2.2.2.1,r19.2.1.2.2.2.2.2.2.2.2.1,r19.2.1.2.2.2.2.2.2.2.2.2.1,r19.2.1.2.2.2.2.2.2.2.2.2.2.1,())]),()),((((([]:List Ay)++[r7])++[((10:Int),(0:Int),(1:Int),([]:List YB),(([]:List YB)++u1.1),u26.1,(0:Int),([]:List YB),(([]:List YB)++u26.2.1),(0:Int),(0:Int),(0:Int),())])++[r20]),()),(false,()))) (
 .br (r22.2.2.1 != (0:Int)) (
 .leaf ((r1.1,r1.2.1,u10.1,r19.1.1,r19.1.2.1,u32.1,u32.2.1,u33.1,u33.2.1,u34.1,u34.2.1,u35.1,u35.2.1,u36.1,u36.2.1,u37.1,u37.2.1,u37.2.2.1,u11.1,u11.2.1,u12.1,u12.2.1,a1.1,u13.1,()),((([]:List Bc)++[(u11.1,u11.2.1,r19.2.1.1,r19.2.1.2.1,r19.2.1.2.2.1,r19.2.1.2.2.2.1,r19.2.1.2.2.2.2.1,r19.2.1.2.2.2.2.2.1,r19.2.1.2.2.2.2.2.2.1,r19.2.1.2.2.2.2.2.2.2.1,r19.2.1.2.2.2.2.2.2.2.2.1,r19.2.1.2.2.2.2.2.2.2.2.2.1,r19.2.1.2.2.2.2.2.2.2.2.2.2.1,())]),()),((((([]:List Ay)++[r7])++[((10:Int),(0:Int),(1:Int),([]:List YB),(([]:List YB)++u1.1),u26.1,(0:Int),([]:List YB),(([]:List YB)++u26.2.1),(0:Int),(0:Int),(0:Int),())])++[r20]),()),(false,()))) (
 .chk (decide ((([]:List Bc)++[(u11.1,u11.2.1,r19.2.1.1,r19.2.1.2.1,r19.2.1.2.2.1,r19.2.1.2.2.2.1,r19.2.1.2.2.2.2.1,r19.2.1.2.2.2.2.2.1,r19.2.1.2.2.2.2.2.2.1,r19.2.1.2.2.2.2.2.2.2.1,r19.2.1.2.2.2.2.2.2.2.2.1,r19.2.1.2.2.2.2.2.2.2.2.2.1,r19.2.1.2.2.2.2.2.2.2.2.2.2.1,())]).length+[(a2.1,a2.2.1,r22.2.1.1,r22.2.1.2.1,r22.2.1.2.2.1,r22.2.1.2.2.2.1,r22.2.1.2.2.2.2.1,r22.2.1.2.2.2.2.2.1,r22.2.1.2.2.2.2.2.2.1,r22.2.1.2.2.2.2.2.2.2.1,r22.2.1.2.2.2.2.2.2.2.2.1,r22.2.1.2.2.2.2.2.2.2.2.2.1,r22.2.1.2.2.2.2.2.2.2.2.2.2.1,())].length<=4294967296)) <|
 .ob (Hf r22.1 r22.2.1) fun r23=>
 .chk (decide ((((([]:List Ay)++[r7])++[((10:Int),(0:Int),(1:Int),([]:List YB),(([]:List YB)++u1.1),u26.1,(0:Int),([]:List YB),(([]:List YB)++u26.2.1),(0:Int),(0:Int),(0:Int),())])++[r20]).length+[r23].length<=4294967296)) <|
 .leaf ((r1.1,r1.2.1,u10.1,r22.1.1,r22.1.2.1,r22.1.2.2.1,u38.1,u38.2.1,u38.2.2.1,u39.1,u39.2.1,u39.2.2.1,u39.2.2.2.1,u40.1,u40.2.1,u40.2.2.1,u40.2.2.2.1,u40.2.2.2.2.1,r21.1.1,r21.1.2.1,r21.1.2.2.1,u12.2.1,a1.1,u13.1,()),(((([]:List Bc)++[(u11.1,u11.2.1,r19.2.1.1,r19.2.1.2.1,r19.2.1.2.2.1,r19.2.1.2.2.2.1,r19.2.1.2.2.2.2.1,r19.2.1.2.2.2.2.2.1,r19.2.1.2.2.2.2.2.2.1,r19.2.1.2.2.2.2.2.2.2.1,r19.2.1.2.2.2.2.2.2.2.2.1,r19.2.1.2.2.2.2.2.2.2.2.2.1,r19.2.1.2.2.2.2.2.2.2.2.2.2.1,())])++[(a2.1,a2.2.1,r22.2.1.1,r22.2.1.2.1,r22.2.1.2.2.1,r22.2.1.2.2.2.1,r22.2.1.2.2.2.2.1,r22.2.1.2.2.2.2.2.1,r22.2.1.2.2.2.2.2.2.1,r22.2.1.2.2.2.2.2.2.2.1,r22.2.1.2.2.2.2.2.2.2.2.1,r22.2.1.2.2.2.2.2.2.2.2.2.1,r22.2.1.2.2.2.2.2.2.2.2.2.2.1,())]),()),(((((([]:List Ay)++[r7])++[((10:Int),(0:Int),(1:Int),([]:List YB),(([]:List YB)++u1.1),u26.1,(0:Int),([]:List YB),(([]:List YB)++u26.2.1),(0:Int),(0:Int),(0:Int),())])++[r20])++[r23]),()),(true,()))))) (
 .ob (Em (u11.1,u11.2.1,u12.1,()) a1 a2 a4) fun r24=>
 .ob (Dp r18.1 ((5:Int),()) a4) fun r25=>letI u41:=r25.1.2.2.2;letI u42:=u41.2.2.2;letI u43:=u42.2.2.2.2;
 .br (!r24.2.1) (
 .leaf ((r1.1,r1.2.1,u10.1,r18.1.1,r18.1.2.1,u26.1,u26.2.1,u27.1,u27.2.1,u28.1,u28.2.1,u29.1,u29.2.1,u30.1,u30.2.1,u31.1,u31.2.1,u31.2.2.1,u11.1,u11.2.1,u12.1,u12.2.1,a1.1,u13.1,()),(([]:List Bc),()),(((([]:List Ay)++[r7])++[((10:Int),(0:Int),(1:Int),([]:List YB),(([]:List YB)++u1.1),u26.1,(0:Int),([]:List YB),(([]:List YB)++u26.2.1),(0:Int),(0:Int),(0:Int),())]),()),(false,()))) (
 .br (r25.2.2.1 != (0:Int)) (
 .leaf ((r1.1,r1.2.1,u10.1,r18.1.1,r18.1.2.1,u26.1,u26.2.1,u27.1,u27.2.1,u28.1,u28.2.1,u29.1,u29.2.1,u30.1,u30.2.1,u31.1,u31.2.1,u31.2.2.1,u11.1,u11.2.1,u12.1,u12.2.1,a1.1,u13.1,()),(([]:List Bc),()),(((([]:List Ay)++[r7])++[((10:Int),(0:Int),(1:Int),([]:List YB),(([]:List YB)++u1.1),u26.1,(0:Int),([]:List YB),(([]:List YB)++u26.2.1),(0:Int),(0:Int),(0:Int),())]),()),(false,()))) (
 .chk (decide (([]:List Bc).length+[(a2.1,a2.2.1,r25.2.1.1,r25.2.1.2.1,r25.2.1.2.2.1,r25.2.1.2.2.2.1,r25.2.1.2.2.2.2.1,r25.2.1.2.2.2.2.2.1,r25.2.1.2.2.2.2.2.2.1,r25.2.1.2.2.2.2.2.2.2.1,r25.2.1.2.2.2.2.2.2.2.2.1,r25.2.1.2.2.2.2.2.2.2.2.2.1,r25.2.1.2.2.2.2.2.2.2.2.2.2.1,())].length<=4294967296)) <|
 .ob (Hf r25.1 r25.2.1) fun r26=>
 .chk (decide (((([]:List Ay)++[r7])++[((10:Int),(0:Int),(1:Int),([]:List YB),(([]:List YB)++u1.1),u26.1,(0:Int),([]:List YB),(([]:List YB)++u26.2.1),(0:Int),(0:Int),(0:Int),())]).length+[r26].length<=4294967296)) <|
 .leaf ((r1.1,r1.2.1,u10.1,r25.1.1,r25.1.2.1,r25.1.2.2.1,u41.1,u41.2.1,u41.2.2.1,u42.1,u42.2.1,u42.2.2.1,u42.2.2.2.1,u43.1,u43.2.1,u43.2.2.1,u43.2.2.2.1,u43.2.2.2.2.1,r24.1.1,r24.1.2.1,r24.1.2.2.1,u12.2.1,a1.1,u13.1,()),((([]:List Bc)++[(a2.1,a2.2.1,r25.2.1.1,r25.2.1.2.1,r25.2.1.2.2.1,r25.2.1.2.2.2.1,r25.2.1.2.2.2.2.1,r25.2.1.2.2.2.2.2.1,r25.2.1.2.2.2.2.2.2.1,r25.2.1.2.2.2.2.2.2.2.1,r25.2.1.2.2.2.2.2.2.2.2.1,r25.2.1.2.2.2.2.2.2.2.2.2.1,r25.2.1.2.2.2.2.2.2.2.2.2.2.1,())]),()),((((([]:List Ay)++[r7])++[((10:Int),(0:Int),(1:Int),([]:List YB),(([]:List YB)++u1.1),u26.1,(0:Int),([]:List YB),(([]:List YB)++u26.2.1),(0:Int),(0:Int),(0:Int),())])++[r26]),()),(true,())))))) (
 .ob (Ama r18.1) fun r27=>letI u44:=r27.1.2.2;letI u45:=u44.2.2;letI u46:=u45.2.2;letI u47:=u46.2.2;letI u48:=u47.2.2;letI u49:=u48.2.2;
 .br (r27.2.2.1==(0:Int)) (
 .chk (decide (([]:List Bc).length+[(u11.1,u11.2.1,r27.2.1.1,r27.2.1.2.1,r27.2.1.2.2.1,r27.2.1.2.2.2.1,r27.2.1.2.2.2.2.1,r27.2.1.2.2.2.2.2.1,r27.2.1.2.2.2.2.2.2.1,r27.2.1.2.2.2.2.2.2.2.1,r27.2.1.2.2.2.2.2.2.2.2.1,r27.2.1.2.2.2.2.2.2.2.2.2.1,r27.2.1.2.2.2.2.2.2.2.2.2.2.1,())].length<=4294967296)) <|
 .ob (Hf r27.1 r27.2.1) fun r28=>
 .chk (decide ((([]:List Ay)++[r7]).length+[r28].length<=4294967296)) <|
 .ob (Em (u11.1,u11.2.1,u12.1,()) a1 a2 a4) fun r29=>
 .ob (Dp r27.1 ((5:Int),()) a4) fun r30=>letI u50:=r30.1.2.2.2;letI u51:=u50.2.2.2;letI u52:=u51.2.2.2.2;
 .br (!r29.2.1) (
 .leaf ((r1.1,r1.2.1,u10.1,r27.1.1,r27.1.2.1,u44.1,u44.2.1,u45.1,u45.2.1,u46.1,u46.2.1,u47.1,u47.2.1,u48.1,u48.2.1,u49.1,u49.2.1,u49.2.2.1,u11.1,u11.2.1,u12.1,u12.2.1,a1.1,u13.1,()),((([]:List Bc)++[(u11.1,u11.2.1,r27.2.1.1,r27.2.1.2.1,r27.2.1.2.2.1,r27.2.1.2.2.2.1,r27.2.1.2.2.2.2.1,r27.2.1.2.2.2.2.2.1,r27.2.1.2.2.2.2.2.2.1,r27.2.1.2.2.2.2.2.2.2.1,r27.2.1.2.2.2.2.2.2.2.2.1,r27.2.1.2.2.2.2.2.2.2.2.2.1,r27.2.1.2.2.2.2.2.2.2.2.2.2.1,())]),()),(((([]:List Ay)++[r7])++[r28]),()),(false,()))) (
 .br (r30.2.2.1 != (0:Int)) (
 .leaf ((r1.1,r1.2.1,u10.1,r27.1.1,r27.1.2.1,u44.1,u44.2.1,u45.1,u45.2.1,u46.1,u46.2.1,u47.1,u47.2.1,u48.1,u48.2.1,u49.1,u49.2.1,u49.2.2.1,u11.1,u11.2.1,u12.1,u12.2.1,a1.1,u13.1,()),((([]:List Bc)++[(u11.1,u11.2.1,r27.2.1.1,r27.2.1.2.1,r27.2.1.2.2.1,r27.2.1.2.2.2.1,r27.2.1.2.2.2.2.1,r27.2.1.2.2.2.2.2.1,r27.2.1.2.2.2.2.2.2.1,r27.2.1.2.2.2.2.2.2.2.1,r27.2.1.2.2.2.2.2.2.2.2.1,r27.2.1.2.2.2.2.2.2.2.2.2.1,r27.2.1.2.2.2.2.2.2.2.2.2.2.1,())]),()),(((([]:List Ay)++[r7])++[r28]),()),(false,()))) (
 .chk (decide ((([]:List Bc)++[(u11.1,u11.2.1,r27.2.1.1,r27.2.1.2.1,r27.2.1.2.2.1,r27.2.1.2.2.2.1,r27.2.1.2.2.2.2.1,r27.2.1.2.2.2.2.2.1,r27.2.1.2.2.2.2.2.2.1,r27.2.1.2.2.2.2.2.2.2.1,r27.2.1.2.2.2.2.2.2.2.2.1,r27.2.1.2.2.2.2.2.2.2.2.2.1,r27.2.1.2.2.2.2.2.2.2.2.2.2.1,())]).length+[(a2.1,a2.2.1,r30.2.1.1,r30.2.1.2.1,r30.2.1.2.2.1,r30.2.1.2.2.2.1,r30.2.1.2.2.2.2.1,r30.2.1.2.2.2.2.2.1,r30.2.1.2.2.2.2.2.2.1,r30.2.1.2.2.2.2.2.2.2.1,r30.2.1.2.2.2.2.2.2.2.2.1,r30.2.1.2.2.2.2.2.2.2.2.2.1,r30.2.1.2.2.2.2.2.2.2.2.2.2.1,())].length<=4294967296)) <|
 .ob (Hf r30.1 r30.2.1) fun r31=>
 .chk (decide (((([]:List Ay)++[r7])++[r28]).length+[r31].length<=4294967296)) <|
 .leaf ((r1.1,r1.2.1,u10.1,r30.1.1,r30.1.2.1,r30.1.2.2.1,u50.1,u50.2.1,u50.2.2.1,u51.1,u51.2.1,u51.2.2.1,u51.2.2.2.1,u52.1,u52.2.1,u52.2.2.1,u52.2.2.2.1,u52.2.2.2.2.1,r29.1.1,r29.1.2.1,r29.1.2.2.1,u12.2.1,a1.1,u13.1,()),(((([]:List Bc)++[(u11.1,u11.2.1,r27.2.1.1,r27.2.1.2.1,r27.2.1.2.2.1,r27.2.1.2.2.2.1,r27.2.1.2.2.2.2.1,r27.2.1.2.2.2.2.2.1,r27.2.1.2.2.2.2.2.2.1,r27.2.1.2.2.2.2.2.2.2.1,r27.2.1.2.2.2.2.2.2.2.2.1,r27.2.1.2.2.2.2.2.2.2.2.2.1,r27.2.1.2.2.2.2.2.2.2.2.2.2.1,())])++[(a2.1,a2.2.1,r30.2.1.1,r30.2.1.2.1,r30.2.1.2.2.1,r30.2.1.2.2.2.1,r30.2.1.2.2.2.2.1,r30.2.1.2.2.2.2.2.1,r30.2.1.2.2.2.2.2.2.1,r30.2.1.2.2.2.2.2.2.2.1,r30.2.1.2.2.2.2.2.2.2.2.1,r30.2.1.2.2.2.2.2.2.2.2.2.1,r30.2.1.2.2.2.2.2.2.2.2.2.2.1,())]),()),((((([]:List Ay)++[r7])++[r28])++[r31]),()),(true,()))))) (
 .ob (Em (u11.1,u11.2.1,u12.1,()) a1 a2 a4) fun r32=>
 .ob (Dp r18.1 ((5:Int),()) a4) fun r33=>
 .br (!r32.2.1) (
 .leaf ((r1.1,r1.2.1,u10.1,r18.1.1,r18.1.2.1,u26.1,u26.2.1,u27.1,u27.2.1,u28.1,u28.2.1,u29.1,u29.2.1,u30.1,u30.2.1,u31.1,u31.2.1,u31.2.2.1,u11.1,u11.2.1,u12.1,u12.2.1,a1.1,u13.1,()),(([]:List Bc),()),((([]:List Ay)++[r7]),()),(false,()))) (
 .br (r33.2.2.1 != (0:Int)) (
 .leaf ((r1.1,r1.2.1,u10.1,r18.1.1,r18.1.2.1,u26.1,u26.2.1,u27.1,u27.2.1,u28.1,u28.2.1,u29.1,u29.2.1,u30.1,u30.2.1,u31.1,u31.2.1,u31.2.2.1,u11.1,u11.2.1,u12.1,u12.2.1,a1.1,u13.1,()),(([]:List Bc),()),((([]:List Ay)++[r7]),()),(false,()))) (
 Z8 a2 r33 r7 r1 r32 a1))))) (
 Tj r1 a1 a2 a4 r4 r7)) (
 Tj r1 a1 a2 a4 r4 r7)))))))
def Au2 (a0:Ak) (a1:YI) (a2:A7) (a3:Aq) (a4:YBs):Option (Ak×((List Bc)×Unit)×((List Ay)×Unit)×(Bool×Unit)):=(Au1 a0 a1 a2 a3 a4).val
def Au3 (a0:YBs) (a1:YI) (a2:Aq):Tree (Aq×(Bool×Unit)):=
 letI u1:=a2.2.2.2;.br (a2.1 != (2:Int)) (
 .leaf (((0:Int),(0:Int),([]:List YB),([]:List YB),(0:Int),([]:List YB),([]:List YB),(0:Int),(0:Int),([]:List YB),([]:List YB),()),(false,()))) (
 .ob (Dh a2) fun r1=>
 .br (!r1.1) (
 .leaf (((0:Int),(0:Int),([]:List YB),([]:List YB),(0:Int),([]:List YB),([]:List YB),(0:Int),(0:Int),([]:List YB),([]:List YB),()),(false,()))) (
 .ob (Aie a0 a1 (a2.2.2.1,()) (u1.1,()) (u1.2.1,()) (u1.2.2.1,())) fun r2=>
 .br ((r2.1.length:Int)==(0:Int)) (
 .leaf (((0:Int),(0:Int),([]:List YB),([]:List YB),(0:Int),([]:List YB),([]:List YB),(0:Int),(0:Int),([]:List YB),([]:List YB),()),(false,()))) (
 .ob (Bk (a2.2.2.1,())) fun r3=>
 .ob (Bk (u1.1,())) fun r4=>
 .ob (Bk (u1.2.2.1,())) fun r5=>
 .leaf (((3:Int),a1.1,r3.1,r4.1,u1.2.1,r5.1,r2.1,(0:Int),(0:Int),([]:List YB),([]:List YB),()),(true,())))))
def Au4 (a0:YBs) (a1:YI) (a2:Aq):Option (Aq×(Bool×Unit)):=(Au3 a0 a1 a2).val
end
end Go.Proofs.YtnbbbaplphcebaaGreat

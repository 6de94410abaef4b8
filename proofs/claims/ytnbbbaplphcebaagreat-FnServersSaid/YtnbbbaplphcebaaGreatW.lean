/-
  What the functions of the seat answer, as plain terms (printed by a program, proved in the texts P); nothing is assumed.
-/
import Derived.Test.YtnbbbaplphcebaaGreatW0
namespace Go.Proofs.YtnbbbaplphcebaaGreat
open Go.RowKit IntKind
set_option linter.unusedVariables false
set_option maxRecDepth 100000
set_option maxHeartbeats 4000000
noncomputable section
def Nz (x2:(List YB)×(List YB)×Int×(List YB)×(List YB)×Int×Unit):Option (((List YB)×(List YB)×Int×(List YB)×(List YB)×Int×Unit)⊕((Int×(List YB)×Unit))):=
 letI u1:=x2.2.2;Tree.val <|
 .br (decide ((x2.2.2.2.1.length:Int)<u1.1)) (
 .ob (Eu ([(u1.2.2.1,()),(x2.2.1,()),([((u8.wrap (u1.2.2.2.1)),())],())],())) fun r3=>
 .ob (Vs (x2.1,()) r3) fun r4=>
 .chk (decide (x2.2.2.2.1.length+r4.1.length<=4294967296)) <|
 .leaf (.inl (x2.1,x2.2.1,u1.1,(u1.2.1++r4.1),r4.1,(i64.wrap (u1.2.2.2.1+(1:Int))),()))) (
 .leaf (.inr (u1.1,u1.2.1,())))
def Ao7 (a0:YBs) (a1:YBs) (a2:YI):Tree (YBs×(Bool×Unit)):=
 .ob (Bg a2 ((0:Int),()) ((8160:Int),())) fun r1=>
 .br (!r1.1) (
 .leaf ((([]:List YB),()),(false,()))) (
 .br (decide ((a1.1.length:Int)>(100:Int))) (
 .leaf ((([]:List YB),()),(false,()))) (
 .br (decide ((a0.1.length:Int)>(1048576:Int))) (
 .leaf ((([]:List YB),()),(false,()))) (
 .ob (Ay Nz (a0.1,a1.1,a2.1,([]:List YB),([]:List YB),(1:Int),())) fun o5=>
 .chk (decide ((0:Int)<=o5.1)) <|
 .chk (decide (o5.1<=(o5.2.1.length:Int))) <|
 .ob (Bk (((o5.2.1.take (o5.1).toNat).drop ((0:Int)).toNat),())) fun r6=>
 .leaf (r6,(true,())))))
def Ap4 (a0:YBs) (a1:YBs) (a2:YI):Option (YBs×(Bool×Unit)):=(Ao7 a0 a1 a2).val
def Ao8 (a0:YBs) (a1:ByteArray×Unit):Tree (YBs):=
 .chk (decide (a1.1.size<=4294967296)) <|
 .ob (Ap4 a0 ((Kf a1.1),()) ((32:Int),())) fun r1=>
 .leaf r1.1
def Mt (a0:YBs) (a1:ByteArray×Unit):Option (YBs):=(Ao8 a0 a1).val
def Ac0 (a0:YBs):Tree (YBs):=
 .ob (Wa a0) fun r1=>
 .br (!r1.1) (
 .leaf (([]:List YB),())) (
 .ob (Abo ([((114:Int),()),((111:Int),()),((97:Int),()),((109:Int),())],()) a0) fun r2=>
 .ob (Mt r2 ((Da [102,105,110,105,115,104]),())) fun r3=>
 .leaf r3)
def Vd (a0:YBs):Option (YBs):=(Ac0 a0).val
def Ac2 (a0:YI) (a1:YBs) (a2:YBs) (a3:YI) (a4:YBs):Tree (YBs):=
 .ob (Bg a0 ((1:Int),()) ((9:Int),())) fun r1=>
 .br (!r1.1) (
 .leaf (([]:List YB),())) (
 .ob (Dx a1) fun r2=>
 .br (!r2.1) (
 .leaf (([]:List YB),())) (
 .ob (Dx a2) fun r3=>
 .br (!r3.1) (
 .leaf (([]:List YB),())) (
 .ob (Bg a3 ((0:Int),()) ((1000000:Int),())) fun r4=>
 .br (!r4.1) (
 .leaf (([]:List YB),())) (
 .br ((a4.1.length:Int) != (16:Int)) (
 .leaf (([]:List YB),())) (
 .ob (Ff (([]:List YB),()) a3 ((4:Int),())) fun r5=>
 .ob (Eu ([([((102:Int),()),((u8.wrap (a0.1)),())],()),a1,a2,r5,a4],())) fun r6=>
 .leaf r6)))))
def Ve (a0:YI) (a1:YBs) (a2:YBs) (a3:YI) (a4:YBs):Option (YBs):=(Ac2 a0 a1 a2 a3 a4).val
def Auf (a0:YBs) (a1:YI) (a2:YBs) (a3:YBs) (a4:YI) (a5:YBs):Tree (YBs):=
 .ob (Vd a0) fun r1=>
 .ob (Ve a1 a2 a3 a4 a5) fun r2=>
 .br ((r1.1.length:Int)==(0:Int)) (
 .leaf (([]:List YB),())) (
 .br ((r2.1.length:Int)==(0:Int)) (
 .leaf (([]:List YB),())) (
 .ob (Aek r1 r2) fun r3=>
 .leaf r3))
def Aif (a0:YBs) (a1:YI) (a2:YBs) (a3:YBs) (a4:YI) (a5:YBs):Option (YBs):=(Auf a0 a1 a2 a3 a4 a5).val
def Aj6 (a0:YBs) (a1:Ar):Tree ((Bool×Unit)):=
 letI u1:=a1.2.2.2;.br (a1.1==(3:Int)) (
 .ob (Db a1) fun r1=>
 .br r1.1 (
 .ob (Aif a0 (a1.2.1,()) (a1.2.2.1,()) (u1.1,()) (u1.2.1,()) (u1.2.2.1,())) fun r2=>
 .ob (Qq (u1.2.2.2.1,()) r2) fun r3=>
 .leaf r3) (
 .leaf (false,()))) (
 .leaf (false,()))
def Akn (a0:YBs) (a1:Ar):Option ((Bool×Unit)):=(Aj6 a0 a1).val
def Af4 (a0:A6):Tree (Bn):=
 .leaf (a0.1,a0.2.1,([]:List A8),())
def Auz (a0:A6):Option (Bn):=(Af4 a0).val
def Aj7 (a0:YBs) (a1:YBs) (a2:YBs):Tree (YBs):=
 .ob (Wa a0) fun r1=>
 .br (!r1.1) (
 .leaf (([]:List YB),())) (
 .ob (Dx a1) fun r2=>
 .br (!r2.1) (
 .leaf (([]:List YB),())) (
 .ob (Dx a2) fun r3=>
 .br (!r3.1) (
 .leaf (([]:List YB),())) (
 .ob (Eu ([a1,a2],())) fun r4=>
 .ob (Abo r4 a0) fun r5=>
 .leaf r5)))
def Ako (a0:YBs) (a1:YBs) (a2:YBs):Option (YBs):=(Aj7 a0 a1 a2).val
def Af5 (a0:YBs):Tree (YBs):=
 .br ((a0.1.length:Int) != (32:Int)) (
 .leaf (([]:List YB),())) (
 .ob (Mt a0 ((Da [101,112,111,99,104]),())) fun r1=>
 .leaf r1)
def Agv (a0:YBs):Option (YBs):=(Af5 a0).val
def Qk (x3:Int×(List YB)×Int×Unit):Option ((Int×(List YB)×Int×Unit)⊕(YBs)):=
 Tree.val <|
 .br (decide (x3.2.2.1<x3.1)) (
 .ob (Mt (x3.2.1,()) ((Da [114,101,107,101,121]),())) fun r4=>
 .leaf (.inl (x3.1,r4.1,(i64.wrap (x3.2.2.1+(1:Int))),()))) (
 .leaf (.inr (x3.2.1,())))
def Aui (a0:YBs) (a1:YI):Tree (YBs):=
 .ob (Bg a1 ((0:Int),()) ((64:Int),())) fun r1=>
 .br (!r1.1) (
 .leaf (([]:List YB),())) (
 .ob (Bk a0) fun r2=>
 .ob (Ay Qk (a1.1,r2.1,(0:Int),())) fun o5=>
 .leaf o5)
def Au0 (a0:YBs) (a1:YI):Option (YBs):=(Aui a0 a1).val
def Af6 (a0:YBs) (a1:YBs) (a2:YBs) (a3:YI):Tree (YBs):=
 .ob (Ako a0 a1 a2) fun r1=>
 .ob (Agv r1) fun r2=>
 .br ((r2.1.length:Int)==(0:Int)) (
 .leaf (([]:List YB),())) (
 .ob (Au0 r2 a3) fun r3=>
 .leaf r3)
def Xn (a0:YBs) (a1:YBs) (a2:YBs) (a3:YI):Option (YBs):=(Af6 a0 a1 a2 a3).val
def Ao9:Tree (Dk):=
 .leaf ((-1:Int),(List.replicate ((32:Int)).toNat ((0:Int),())),())
def Ad4:Option (Dk):=(Ao9).val
def Ah9 (a0:YI) (a1:YBs):Tree (YEp):=
 .ob (Bg a0 ((0:Int),()) ((4294967295:Int),())) fun r1=>
 .br (!r1.1) (
 .leaf ((0:Int),([]:List YB),(0:Int),(0:Int),([]:List YI),())) (
 .br ((a1.1.length:Int) != (32:Int)) (
 .leaf ((0:Int),([]:List YB),(0:Int),(0:Int),([]:List YI),())) (
 .ob (Bk a1) fun r2=>
 .ob Ad4 fun r3=>
 .leaf (a0.1,r2.1,(0:Int),r3.1,r3.2.1,())))
def On (a0:YI) (a1:YBs):Option (YEp):=(Ah9 a0 a1).val
def Abj (a0:YI) (a1:YBs) (a2:YBs):Tree (Ap):=
 .ob (Pa a0) fun r1=>
 .br (!r1.1) (
 .leaf ((0:Int),([]:List YB),(0:Int),([]:List YB),(0:Int),(0:Int),([]:List YI),(0:Int),([]:List YB),(0:Int),(0:Int),([]:List YI),false,(0:Int),([]:List YB),())) (
 .ob (Dx a1) fun r2=>
 .br (!r2.1) (
 .leaf ((0:Int),([]:List YB),(0:Int),([]:List YB),(0:Int),(0:Int),([]:List YI),(0:Int),([]:List YB),(0:Int),(0:Int),([]:List YI),false,(0:Int),([]:List YB),())) (
 .br ((a2.1.length:Int) != (32:Int)) (
 .leaf ((0:Int),([]:List YB),(0:Int),([]:List YB),(0:Int),(0:Int),([]:List YI),(0:Int),([]:List YB),(0:Int),(0:Int),([]:List YI),false,(0:Int),([]:List YB),())) (
 .ob (Bk a1) fun r3=>
 .ob (On ((0:Int),()) a2) fun r4=>
 .leaf (a0.1,r3.1,r4.1,r4.2.1,r4.2.2.1,r4.2.2.2.1,r4.2.2.2.2.1,(0:Int),([]:List YB),(0:Int),(0:Int),([]:List YI),false,(0:Int),([]:List YB),()))))
def Us (a0:YI) (a1:YBs) (a2:YBs):Option (Ap):=(Abj a0 a1 a2).val
def Aj8 (a0:YBs) (a1:YI) (a2:A6) (a3:Ar):Tree (Ak):=
 letI u1:=a3.2.2;.ob (Wa a0) fun r1=>
 .br (!r1.1) (
 .leaf ((0:Int),([]:List YB),([]:List YB),(0:Int),([]:List YB),(0:Int),([]:List YB),(0:Int),(0:Int),([]:List YI),(0:Int),([]:List YB),(0:Int),(0:Int),([]:List YI),false,(0:Int),([]:List YB),(0:Int),(0:Int),([]:List A8),(0:Int),(0:Int),false,())) (
 .ob (Bg a1 ((0:Int),()) ((1000000:Int),())) fun r2=>
 .br (!r2.1) (
 .leaf ((0:Int),([]:List YB),([]:List YB),(0:Int),([]:List YB),(0:Int),([]:List YB),(0:Int),(0:Int),([]:List YI),(0:Int),([]:List YB),(0:Int),(0:Int),([]:List YI),false,(0:Int),([]:List YB),(0:Int),(0:Int),([]:List A8),(0:Int),(0:Int),false,())) (
 .ob (Fu a2) fun r3=>
 .br (!r3.1) (
 .leaf ((0:Int),([]:List YB),([]:List YB),(0:Int),([]:List YB),(0:Int),([]:List YB),(0:Int),(0:Int),([]:List YI),(0:Int),([]:List YB),(0:Int),(0:Int),([]:List YI),false,(0:Int),([]:List YB),(0:Int),(0:Int),([]:List A8),(0:Int),(0:Int),false,())) (
 .br (a3.1 != (3:Int)) (
 .leaf ((0:Int),([]:List YB),([]:List YB),(0:Int),([]:List YB),(0:Int),([]:List YB),(0:Int),(0:Int),([]:List YI),(0:Int),([]:List YB),(0:Int),(0:Int),([]:List YI),false,(0:Int),([]:List YB),(0:Int),(0:Int),([]:List A8),(0:Int),(0:Int),false,())) (
 .ob (Db a3) fun r4=>
 .br (!r4.1) (
 .leaf ((0:Int),([]:List YB),([]:List YB),(0:Int),([]:List YB),(0:Int),([]:List YB),(0:Int),(0:Int),([]:List YI),(0:Int),([]:List YB),(0:Int),(0:Int),([]:List YI),false,(0:Int),([]:List YB),(0:Int),(0:Int),([]:List A8),(0:Int),(0:Int),false,())) (
 .ob (Bk (u1.1,())) fun r5=>
 .ob (Bk (u1.2.1,())) fun r6=>
 .ob (Auz a2) fun r7=>
 .ob (Xn a0 (u1.1,()) (u1.2.1,()) ((0:Int),())) fun r8=>
 .ob (Us ((1:Int),()) (u1.2.1,()) r8) fun r9=>letI u2:=r9.2.2.2;letI u3:=u2.2.2.2;letI u4:=u3.2.2.2.2;
 .leaf (a3.2.1,r5.1,r6.1,r9.1,r9.2.1,r9.2.2.1,u2.1,u2.2.1,u2.2.2.1,u3.1,u3.2.1,u3.2.2.1,u3.2.2.2.1,u4.1,u4.2.1,u4.2.2.1,u4.2.2.2.1,u4.2.2.2.2.1,r7.1,r7.2.1,r7.2.2.1,u1.2.2.1,a1.1,false,()))))))
def Abp (a0:YBs) (a1:YI) (a2:A6) (a3:Ar):Option (Ak):=(Aj8 a0 a1 a2 a3).val
def Abk (a0:Cj) (a1:Ak):Tree (Cj×YI):=
 .ob (Qp a0) fun r1=>
 .ob (V9 a0) fun r2=>
 .br (!r2.1) (
 .leaf (r1,((1:Int),()))) (
 .ob (Pb a1) fun r3=>
 .br (!r3.1) (
 .leaf (r1,((1:Int),()))) (
 .br a1.2.2.2.2.2.2.2.2.2.2.2.2.2.2.2.2.2.2.2.2.2.2.2.1 (
 .leaf (r1,((1:Int),()))) (
 .ob (Mr a0 (a1.2.2.1,())) fun r4=>
 .br (decide (r4.1≥(0:Int))) (
 .leaf (r1,((3:Int),()))) (
 .ob (Vq a0) fun r5=>
 .br (r5.1==a0.1) (
 .leaf (r1,((7:Int),()))) (
 .br ((a0.2.1.length:Int)==(12:Int)) (
 .leaf (r1,((7:Int),()))) (
 .ob (Jb a1) fun r6=>
 .chk (decide (r1.2.1.length+[r6].length<=4294967296)) <|
 .leaf ((r1.1,(r1.2.1++[r6]),()),((0:Int),()))))))))
def Ut (a0:Cj) (a1:Ak):Option (Cj×YI):=(Abk a0 a1).val
def A0i (a0:YBs) (a1:YBs) (a2:YBs):Tree (Ax):=
 .ob (Bk a0) fun r1=>
 .ob (Bk a1) fun r2=>
 .ob (Bk a2) fun r3=>
 .leaf ((16:Int),(0:Int),(0:Int),([]:List YB),r2.1,(0:Int),(0:Int),r3.1,r1.1,(0:Int),(0:Int),(0:Int),())
def Agw (a0:YBs) (a1:YBs) (a2:YBs):Option (Ax):=(A0i a0 a1 a2).val
def Ac4 (a0:YI):Tree (YBs):=
 .ob (Bg a0 ((0:Int),()) ((4294967295:Int),())) fun r1=>
 .br (!r1.1) (
 .leaf (([]:List YB),())) (
 .ob (Ff (([]:List YB),()) a0 ((4:Int),())) fun r2=>
 .leaf r2)
def Vf (a0:YI):Option (YBs):=(Ac4 a0).val
def Apb (a0:YI) (a1:YBs) (a2:YI) (a3:YI):Tree (YBs):=
 .ob (Pa a0) fun r1=>
 .br (!r1.1) (
 .leaf (([]:List YB),())) (
 .ob (Dx a1) fun r2=>
 .br (!r2.1) (
 .leaf (([]:List YB),())) (
 .ob (Bg a2 ((0:Int),()) ((4294967295:Int),())) fun r3=>
 .br (!r3.1) (
 .leaf (([]:List YB),())) (
 .ob (Bg a3 ((0:Int),()) ((281474976710655:Int),())) fun r4=>
 .br (!r4.1) (
 .leaf (([]:List YB),())) (
 .ob (Ff (([]:List YB),()) a2 ((4:Int),())) fun r5=>
 .ob (Ff (([]:List YB),()) a3 ((6:Int),())) fun r6=>
 .ob (Eu ([([((u8.wrap (a0.1)),())],()),a1,r5,r6],())) fun r7=>
 .leaf r7))))
def Xo (a0:YI) (a1:YBs) (a2:YI) (a3:YI):Option (YBs):=(Apb a0 a1 a2 a3).val
def Aka (a0:YBs) (a1:YBs) (a2:YI):Tree (YBs):=
 .ob (Bg a2 ((0:Int),()) ((6:Int),())) fun r1=>
 .br (!r1.1) (
 .leaf (([]:List YB),())) (
 .br (decide ((a1.1.length:Int)>(100:Int))) (
 .leaf (([]:List YB),())) (
 .ob (Eu ([([((115:Int),())],()),a1],())) fun r2=>
 .ob (Ff r2 a2 ((4:Int),())) fun r3=>
 .ob (Vs a0 r3) fun r4=>
 .leaf r4))
def Akp (a0:YBs) (a1:YBs) (a2:YI):Option (YBs):=(Aka a0 a1 a2).val
def N0 (x2:(List YB)×(List YB)×Int×(List YB)×Int×Unit):Option (((List YB)×(List YB)×Int×(List YB)×Int×Unit)⊕((Int×(List YB)×Unit))):=
 letI u1:=x2.2.2;Tree.val <|
 .br (decide ((x2.2.2.2.1.length:Int)<u1.1)) (
 .ob (Akp (x2.1,()) (x2.2.1,()) (u1.2.2.1,())) fun r3=>
 .chk (decide (x2.2.2.2.1.length+r3.1.length<=4294967296)) <|
 .leaf (.inl (x2.1,x2.2.1,u1.1,(u1.2.1++r3.1),(i64.wrap (u1.2.2.1+(1:Int))),()))) (
 .leaf (.inr (u1.1,u1.2.1,())))
def Apc (a0:YBs) (a1:YBs) (a2:YI):Tree (YBs):=
 .ob (Bg a2 ((0:Int),()) ((200:Int),())) fun r1=>
 .br (!r1.1) (
 .leaf (([]:List YB),())) (
 .br (decide ((a1.1.length:Int)>(100:Int))) (
 .leaf (([]:List YB),())) (
 .br (decide ((a0.1.length:Int)>(1048576:Int))) (
 .leaf (([]:List YB),())) (
 .ob (Ay N0 (a0.1,a1.1,a2.1,([]:List YB),(0:Int),())) fun o4=>
 .chk (decide ((0:Int)<=o4.1)) <|
 .chk (decide (o4.1<=(o4.2.1.length:Int))) <|
 .ob (Bk (((o4.2.1.take (o4.1).toNat).drop ((0:Int)).toNat),())) fun r5=>
 .leaf r5)))
def Ap5 (a0:YBs) (a1:YBs) (a2:YI):Option (YBs):=(Apc a0 a1 a2).val
def V8 (x2:(List YB)×(List YB)×(List YB)×Int×Int×Unit):Option (((List YB)×(List YB)×(List YB)×Int×Int×Unit)⊕(YBs)):=
 letI u1:=x2.2.2.2;Tree.val <|
 .br (decide (u1.2.1<u1.1)) (
 .ob (idx x2.2.2.1 u1.2.1) fun e3=>
 .ob (idx x2.1 u1.2.1) fun e4=>
 .chk (decide (x2.2.1.length+[((u8.wrap ((BitVec.ofInt (u8.bits) (e3.1) ^^^ BitVec.ofInt (u8.bits) (e4.1)).toNat:Nat)),())].length<=4294967296)) <|
 .leaf (.inl (x2.1,(x2.2.1++[((u8.wrap ((BitVec.ofInt (u8.bits) (e3.1) ^^^ BitVec.ofInt (u8.bits) (e4.1)).toNat:Nat)),())]),x2.2.2.1,u1.1,(i64.wrap (u1.2.1+(1:Int))),()))) (
 .leaf (.inr (x2.2.1,())))
def A5s (a0:YBs) (a1:YBs) (a2:YBs):Tree (YBs):=
 .br (decide ((a2.1.length:Int)>(200:Int))) (
 .leaf (([]:List YB),())) (
 .br (decide ((a1.1.length:Int)>(100:Int))) (
 .leaf (([]:List YB),())) (
 .br (decide ((a0.1.length:Int)>(1048576:Int))) (
 .leaf (([]:List YB),())) (
 .ob (Ap5 a0 a1 ((a2.1.length:Int),())) fun r1=>
 .ob (Ay V8 (a2.1,([]:List YB),r1.1,(r1.1.length:Int),(0:Int),())) fun o5=>
 .leaf o5)))
def Awm (a0:YBs) (a1:YBs) (a2:YBs):Option (YBs):=(A5s a0 a1 a2).val
def Af7 (a0:YI) (a1:Ar):Tree (YBs):=
 letI u1:=a1.2.2.2.2.2.2.2;.ob (Pa a0) fun r1=>
 .br (!r1.1) (
 .leaf (([]:List YB),())) (
 .ob (Ms (a1.1,())) fun r2=>
 .br (!r2.1) (
 .leaf (([]:List YB),())) (
 .ob (Db a1) fun r3=>
 .br (!r3.1) (
 .leaf (([]:List YB),())) (
 .ob (Xo a0 (a1.2.2.2.1,()) (u1.1,()) (u1.2.1,())) fun r4=>
 .ob (Eu ([([((116:Int),())],()),r4,([((u8.wrap (a1.1)),())],()),(u1.2.2.1,())],())) fun r5=>
 .leaf r5)))
def Ll (a0:YI) (a1:Ar):Option (YBs):=(Af7 a0 a1).val
def A0j (a0:YBs) (a1:YI) (a2:YBs) (a3:YI) (a4:YI) (a5:YI) (a6:YBs):Tree (Ar×(Bool×Unit)):=
 .ob (Bk a2) fun r1=>
 .ob (Bk a6) fun r2=>
 .br ((a0.1.length:Int) != (32:Int)) (
 .leaf (((0:Int),(0:Int),([]:List YB),([]:List YB),(0:Int),([]:List YB),([]:List YB),(0:Int),(0:Int),([]:List YB),([]:List YB),()),(false,()))) (
 .ob (Pa a1) fun r3=>
 .br (!r3.1) (
 .leaf (((0:Int),(0:Int),([]:List YB),([]:List YB),(0:Int),([]:List YB),([]:List YB),(0:Int),(0:Int),([]:List YB),([]:List YB),()),(false,()))) (
 .ob (Ms a5) fun r4=>
 .br (!r4.1) (
 .leaf (((0:Int),(0:Int),([]:List YB),([]:List YB),(0:Int),([]:List YB),([]:List YB),(0:Int),(0:Int),([]:List YB),([]:List YB),()),(false,()))) (
 .ob (Db (a5.1,(0:Int),([]:List YB),r1.1,(0:Int),([]:List YB),([]:List YB),a3.1,a4.1,r2.1,(List.replicate ((16:Int)).toNat ((0:Int),())),())) fun r5=>
 .br (!r5.1) (
 .leaf (((0:Int),(0:Int),([]:List YB),([]:List YB),(0:Int),([]:List YB),([]:List YB),(0:Int),(0:Int),([]:List YB),([]:List YB),()),(false,()))) (
 .ob (Xo a1 a2 a3 a4) fun r6=>
 .ob (Awm a0 r6 a6) fun r7=>
 .ob (Ll a1 (a5.1,(0:Int),([]:List YB),r1.1,(0:Int),([]:List YB),([]:List YB),a3.1,a4.1,r7.1,(List.replicate ((16:Int)).toNat ((0:Int),())),())) fun r8=>
 .ob (Aek a0 r8) fun r9=>
 .leaf ((a5.1,(0:Int),([]:List YB),r1.1,(0:Int),([]:List YB),([]:List YB),a3.1,a4.1,r7.1,r9.1,()),(true,()))))))
def Agx (a0:YBs) (a1:YI) (a2:YBs) (a3:YI) (a4:YI) (a5:YI) (a6:YBs):Option (Ar×(Bool×Unit)):=(A0j a0 a1 a2 a3 a4 a5 a6).val
def Apd (a0:YEp) (a1:YI) (a2:YBs) (a3:YI) (a4:YBs):Tree (YEp×Ar×YI):=
 letI u1:=a0.2.2;.ob (Tf a0) fun r1=>letI u2:=r1.2.2;
 .ob (Z1 a0) fun r2=>
 .br (!r2.1) (
 .leaf (r1,((0:Int),(0:Int),([]:List YB),([]:List YB),(0:Int),([]:List YB),([]:List YB),(0:Int),(0:Int),([]:List YB),([]:List YB),()),((1:Int),()))) (
 .ob (Agx (a0.2.1,()) a1 a2 (a0.1,()) ((0:Int),()) a3 a4) fun r3=>
 .br (!r3.2.1) (
 .leaf (r1,((0:Int),(0:Int),([]:List YB),([]:List YB),(0:Int),([]:List YB),([]:List YB),(0:Int),(0:Int),([]:List YB),([]:List YB),()),((1:Int),()))) (
 .br (a3.1==(4:Int)) (
 .br (decide (u1.1≥(281474976709656:Int))) (
 .leaf (r1,((0:Int),(0:Int),([]:List YB),([]:List YB),(0:Int),([]:List YB),([]:List YB),(0:Int),(0:Int),([]:List YB),([]:List YB),()),((4:Int),()))) (
 .br (u1.1==(281474976710656:Int)) (
 .leaf (r1,((0:Int),(0:Int),([]:List YB),([]:List YB),(0:Int),([]:List YB),([]:List YB),(0:Int),(0:Int),([]:List YB),([]:List YB),()),((5:Int),()))) (
 .ob (Agx (a0.2.1,()) a1 a2 (a0.1,()) (u1.1,()) a3 a4) fun r4=>
 .leaf ((r1.1,r1.2.1,(i64.wrap (u2.1+(1:Int))),u2.2.1,u2.2.2.1,()),r4.1,((0:Int),()))))) (
 .br (u1.1==(281474976710656:Int)) (
 .leaf (r1,((0:Int),(0:Int),([]:List YB),([]:List YB),(0:Int),([]:List YB),([]:List YB),(0:Int),(0:Int),([]:List YB),([]:List YB),()),((5:Int),()))) (
 .ob (Agx (a0.2.1,()) a1 a2 (a0.1,()) (u1.1,()) a3 a4) fun r5=>
 .leaf ((r1.1,r1.2.1,(i64.wrap (u2.1+(1:Int))),u2.2.1,u2.2.2.1,()),r5.1,((0:Int),()))))))
def Ap6 (a0:YEp) (a1:YI) (a2:YBs) (a3:YI) (a4:YBs):Option (YEp×Ar×YI):=(Apd a0 a1 a2 a3 a4).val
def Af9 (a0:Ap) (a1:YI) (a2:YBs):Tree (Ap×Ar×YI):=
 letI u1:=a0.2.2.2;.ob (Id a0) fun r1=>letI u2:=r1.2.2.2.2.2.2.2;letI u3:=u2.2.2.2;
 .ob (Ki a0) fun r2=>
 .br (!r2.1) (
 .leaf (r1,((0:Int),(0:Int),([]:List YB),([]:List YB),(0:Int),([]:List YB),([]:List YB),(0:Int),(0:Int),([]:List YB),([]:List YB),()),((1:Int),()))) (
 .ob (Ap6 (a0.2.2.1,u1.1,u1.2.1,u1.2.2.1,u1.2.2.2.1,()) (a0.1,()) (a0.2.1,()) a1 a2) fun r3=>
 .leaf ((r1.1,r1.2.1,r3.1.1,r3.1.2.1,r3.1.2.2.1,r3.1.2.2.2.1,r3.1.2.2.2.2.1,u2.1,u2.2.1,u2.2.2.1,u3.1,u3.2.1,u3.2.2.1,u3.2.2.2.1,u3.2.2.2.2.1,()),r3.2.1,r3.2.2))
def Cn (a0:Ap) (a1:YI) (a2:YBs):Option (Ap×Ar×YI):=(Af9 a0 a1 a2).val
def A5u (a0:Ap):Tree (Ap×Ar×YI):=
 .ob (Ki a0) fun r1=>
 .br (!r1.1) (
 .ob (Id a0) fun r2=>
 .leaf (r2,((0:Int),(0:Int),([]:List YB),([]:List YB),(0:Int),([]:List YB),([]:List YB),(0:Int),(0:Int),([]:List YB),([]:List YB),()),((6:Int),()))) (
 .br (a0.1 != (1:Int)) (
 .ob (Id a0) fun r3=>
 .leaf (r3,((0:Int),(0:Int),([]:List YB),([]:List YB),(0:Int),([]:List YB),([]:List YB),(0:Int),(0:Int),([]:List YB),([]:List YB),()),((6:Int),()))) (
 .ob (Vf (a0.2.2.1,())) fun r4=>
 .ob (Cn a0 ((8:Int),()) r4) fun r5=>
 .leaf (r5.1,r5.2.1,r5.2.2)))
def Ael (a0:Ap):Option (Ap×Ar×YI):=(A5u a0).val
def Ape (a0:Ap) (a1:Ar):Tree (Ax):=
 .ob (Ll (a0.1,()) a1) fun r1=>
 .ob (Ap3 (a0.2.2.2.1,()) r1) fun r2=>
 .leaf r2
def Ie (a0:Ap) (a1:Ar):Option (Ax):=(Ape a0 a1).val
def Abl (a0:Ak):Tree (Ak×((List Bc)×Unit)×((List Ax)×Unit)):=
 letI u1:=a0.2.2.2;letI u2:=u1.2.2;letI u3:=u2.2.2.2;letI u4:=u3.2.2.2;letI u5:=u4.2.2.2;letI u6:=u5.2.2.2;.ob (Jb a0) fun r1=>letI u7:=r1.2.2.2.2.2.2.2.2.2.2.2.2.2.2.2.2.2.2;
 .ob (Pb a0) fun r2=>
 .br (!r2.1) (
 .leaf (r1,(([]:List Bc),()),(([]:List Ax),()))) (
 .br u6.2.2.2.2.2.2.1 (
 .leaf (r1,(([]:List Bc),()),(([]:List Ax),()))) (
 .br (u2.1 != (0:Int)) (
 .leaf (r1,(([]:List Bc),()),(([]:List Ax),()))) (
 .ob (Ael (u1.1,u1.2.1,u2.1,u2.2.1,u2.2.2.1,u3.1,u3.2.1,u3.2.2.1,u4.1,u4.2.1,u4.2.2.1,u5.1,u5.2.1,u5.2.2.1,u6.1,())) fun r3=>letI u8:=r3.1.2.2.2;letI u9:=u8.2.2.2;letI u10:=u9.2.2.2.2;
 .br (r3.2.2.1 != (0:Int)) (
 .leaf (r1,(([]:List Bc),()),(([]:List Ax),()))) (
 .ob (Ie r3.1 r3.2.1) fun r4=>
 .leaf ((r1.1,r1.2.1,r1.2.2.1,r3.1.1,r3.1.2.1,r3.1.2.2.1,u8.1,u8.2.1,u8.2.2.1,u9.1,u9.2.1,u9.2.2.1,u9.2.2.2.1,u10.1,u10.2.1,u10.2.2.1,u10.2.2.2.1,u10.2.2.2.2.1,u7.1,u7.2.1,u7.2.2.1,u7.2.2.2.1,u7.2.2.2.2.1,u7.2.2.2.2.2.1,()),([(u6.2.1,u6.2.2.1,r3.2.1.1,r3.2.1.2.1,r3.2.1.2.2.1,r3.2.1.2.2.2.1,r3.2.1.2.2.2.2.1,r3.2.1.2.2.2.2.2.1,r3.2.1.2.2.2.2.2.2.1,r3.2.1.2.2.2.2.2.2.2.1,r3.2.1.2.2.2.2.2.2.2.2.1,r3.2.1.2.2.2.2.2.2.2.2.2.1,r3.2.1.2.2.2.2.2.2.2.2.2.2.1,())],()),([r4],()))))))
def Nh (a0:Ak):Option (Ak×((List Bc)×Unit)×((List Ax)×Unit)):=(Abl a0).val
def Akd (a0:Cj) (a1:YI) (a2:Ak):Tree (Cj×(Bool×Unit)):=
 .ob (Qp a0) fun r1=>
 .ob (V9 a0) fun r2=>
 .br (!r2.1) (
 .leaf (r1,(false,()))) (
 .br (decide (a1.1<(0:Int))) (
 .leaf (r1,(false,()))) (
 .br (decide (a1.1≥(a0.2.1.length:Int))) (
 .leaf (r1,(false,()))) (
 .ob (Jb a2) fun r3=>
 .ob (idx r1.2.1 a1.1) fun e4=>
 let q5:=(r1.2.1.set (a1.1).toNat r3)
 .ob (V9 (r1.1,q5,())) fun r6=>
 .br (!r6.1) (
 .ob (Qp a0) fun r7=>
 .leaf (r7,(false,()))) (
 .leaf ((r1.1,q5,()),(true,()))))))
def I3 (a0:Cj) (a1:YI) (a2:Ak):Option (Cj×(Bool×Unit)):=(Akd a0 a1 a2).val
def Zv (a0:Bs) (a1:YI) (a2:A6) (a3:Ar):Tree (Bs×((List Bc)×Unit)×((List Ax)×Unit)):=
 letI u1:=a0.2.2;letI u2:=u1.2.2;letI u3:=u2.2.2;letI u4:=a3.2.2;.ob (Auy (a0.2.1,()) a1 a2 a3) fun r1=>
 .br (r1.1 != (0:Int)) (
 .leaf (a0,(([]:List Bc),()),(([]:List Ax),()))) (
 .br (decide (a3.2.1>(a0.1.length:Int))) (
 .leaf (a0,(([]:List Bc),()),(([]:List Ax),()))) (
 .ob (idx a0.1 (i64.wrap (a3.2.1-(1:Int)))) fun e2=>
 .ob (Akn e2 a3) fun r3=>
 .br (!r3.1) (
 .leaf (a0,(([]:List Bc),()),(([]:List Ax),()))) (
 .ob (Mr (u2.1,u2.2.1,()) (u4.2.1,())) fun r4=>
 .br (decide (r4.1<(0:Int))) (
 .ob (idx a0.1 (i64.wrap (a3.2.1-(1:Int)))) fun e5=>
 .ob (Abp e5 a1 a2 a3) fun r6=>
 .ob (Ut (u2.1,u2.2.1,()) r6) fun r7=>
 .br (r7.2.1 != (0:Int)) (
 .leaf (a0,(([]:List Bc),()),(([]:List Ax),()))) (
 .ob (Ry a2 (a3.2.1,()) (u4.1,()) (u4.2.1,()) (u4.2.2.1,())) fun r8=>
 .ob (Agw (a0.2.1,()) (u4.2.1,()) r8) fun r9=>
 .ob (Vd e5) fun r10=>
 .ob (Ve (a3.2.1,()) (u4.1,()) (u4.2.1,()) (u4.2.2.1,()) (u4.2.2.2.1,())) fun r11=>
 .ob (Agw r10 (u4.2.1,()) r11) fun r12=>
 .ob (Bk (u4.1,())) fun r13=>
 .ob (Bk (u4.2.1,())) fun r14=>
 .ob (Bk (r6.2.2.2.2.2.2.1,())) fun r15=>
 .chk (decide (([]:List Ax).length+[r9,r12,((4:Int),a3.2.1,(0:Int),r13.1,r14.1,(0:Int),(0:Int),([]:List YB),r15.1,a2.1,a2.2.1,a1.1,())].length<=4294967296)) <|
 .ob (Mr r7.1 (u4.2.1,())) fun r16=>
 .ob (idx r7.1.2.1 r16.1) fun e17=>
 .br e17.2.2.2.2.2.2.2.2.2.2.2.2.2.2.2.2.2.2.2.2.2.2.2.1 (
 .leaf ((a0.1,a0.2.1,u1.1,u1.2.1,r7.1.1,r7.1.2.1,u3.1,()),(([]:List Bc),()),((([]:List Ax)++[r9,r12,((4:Int),a3.2.1,(0:Int),r13.1,r14.1,(0:Int),(0:Int),([]:List YB),r15.1,a2.1,a2.2.1,a1.1,())]),()))) (
 .br (e17.1 != a3.2.1) (
 .leaf ((a0.1,a0.2.1,u1.1,u1.2.1,r7.1.1,r7.1.2.1,u3.1,()),(([]:List Bc),()),((([]:List Ax)++[r9,r12,((4:Int),a3.2.1,(0:Int),r13.1,r14.1,(0:Int),(0:Int),([]:List YB),r15.1,a2.1,a2.2.1,a1.1,())]),()))) (
 .ob (Cf (e17.2.1,()) (u4.1,())) fun r18=>
 .br (!r18.1) (
 .leaf ((a0.1,a0.2.1,u1.1,u1.2.1,r7.1.1,r7.1.2.1,u3.1,()),(([]:List Bc),()),((([]:List Ax)++[r9,r12,((4:Int),a3.2.1,(0:Int),r13.1,r14.1,(0:Int),(0:Int),([]:List YB),r15.1,a2.1,a2.2.1,a1.1,())]),()))) (
 .ob (Nh e17) fun r19=>
 .ob (I3 r7.1 r16 r19.1) fun r20=>
 .chk (decide ((([]:List Ax)++[r9,r12,((4:Int),a3.2.1,(0:Int),r13.1,r14.1,(0:Int),(0:Int),([]:List YB),r15.1,a2.1,a2.2.1,a1.1,())]).length+r19.2.2.1.length<=4294967296)) <|
 .leaf ((a0.1,a0.2.1,u1.1,u1.2.1,r20.1.1,r20.1.2.1,u3.1,()),r19.2.1,(((([]:List Ax)++[r9,r12,((4:Int),a3.2.1,(0:Int),r13.1,r14.1,(0:Int),(0:Int),([]:List YB),r15.1,a2.1,a2.2.1,a1.1,())])++r19.2.2.1),()))))))) (
 .ob (Mr (u2.1,u2.2.1,()) (u4.2.1,())) fun r21=>
 .ob (idx u2.2.1 r21.1) fun e22=>
 .br e22.2.2.2.2.2.2.2.2.2.2.2.2.2.2.2.2.2.2.2.2.2.2.2.1 (
 .leaf (a0,(([]:List Bc),()),(([]:List Ax),()))) (
 .br (e22.1 != a3.2.1) (
 .leaf (a0,(([]:List Bc),()),(([]:List Ax),()))) (
 .ob (Cf (e22.2.1,()) (u4.1,())) fun r23=>
 .br (!r23.1) (
 .leaf (a0,(([]:List Bc),()),(([]:List Ax),()))) (
 .ob (Nh e22) fun r24=>
 .ob (I3 (u2.1,u2.2.1,()) r21 r24.1) fun r25=>
 .chk (decide (([]:List Ax).length+r24.2.2.1.length<=4294967296)) <|
 .leaf ((a0.1,a0.2.1,u1.1,u1.2.1,r25.1.1,r25.1.2.1,u3.1,()),r24.2.1,((([]:List Ax)++r24.2.2.1),())))))))))
def Z2 (a0:Bs) (a1:YI) (a2:A6) (a3:Ar):Option (Bs×((List Bc)×Unit)×((List Ax)×Unit)):=(Zv a0 a1 a2 a3).val
def Apf (a0:Dk) (a1:YI):Tree ((Bool×Unit)):=
 .ob (Aid a0) fun r1=>
 .br (!r1.1) (
 .leaf (false,())) (
 .ob (Bg a1 ((0:Int),()) ((281474976710655:Int),())) fun r2=>
 .br (!r2.1) (
 .leaf (false,())) (
 .br (decide (a1.1>a0.1)) (
 .leaf (true,())) (
 .br (decide (a1.1≥(i64.wrap ((i64.wrap (a0.1-(1024:Int)))+(1:Int))))) (
 .ob (Xm a0 a1) fun r3=>
 .leaf ((!r3.1),())) (
 .leaf (false,())))))
def Ap7 (a0:Dk) (a1:YI):Option ((Bool×Unit)):=(Apf a0 a1).val
def N4 (x3:Int×Int×Int×(List YI)×Int×(List YI)×Int×(List YI)×Unit):Option ((Int×Int×Int×(List YI)×Int×(List YI)×Int×(List YI)×Unit)⊕((Int×Int×(List YI)×Int×(List YI)×Int×(List YI)×Unit))):=
 letI u1:=x3.2.2;letI u2:=u1.2.2;letI u3:=u2.2.2;Tree.val <|
 .br (decide (x3.2.1<x3.1)) (
 .chk (decide ((0:Int)<=x3.2.1)) <|
 .chk (decide ((0:Int)<=(x3.2.1%(1024:Int)))) <|
 .ob (idx u3.2.1 ((x3.2.1%(1024:Int))/(32:Int))) fun e4=>
 .chk (decide ((0:Int)<=x3.2.1)) <|
 .chk (decide ((0:Int)<=(x3.2.1%(32:Int)))) <|
 .ob (idx u3.2.1 ((x3.2.1%(1024:Int))/(32:Int))) fun e5=>
 let q6:=(x3.2.2.2.2.2.2.2.1.set (((x3.2.1%(1024:Int))/(32:Int))).toNat ((i64.wrap ((BitVec.ofInt (i64.bits) (e4.1) &&& ~~~ BitVec.ofInt (i64.bits) ((i64.wrap ((1:Int)*2^(min ((x3.2.1%(32:Int))).toNat i64.bits))))).toNat:Nat)),()))
 .leaf (.inl (x3.1,(i64.wrap (x3.2.1+(1:Int))),u1.1,u1.2.1,u2.1,u2.2.1,u3.1,q6,()))) (
 .leaf (.inr (x3.1,u1.1,u1.2.1,u2.1,u2.2.1,u3.1,u3.2.1,())))
def Apg (a0:Dk) (a1:YI):Tree (Dk×(Bool×Unit)):=
 .ob (Abn a0) fun r1=>
 .ob (Ap7 a0 a1) fun r2=>
 .br (!r2.1) (
 .leaf (r1,(false,()))) (
 .ob (Ay N4 (a1.1,(if (i64.wrap (a0.1+(1:Int)))<(i64.wrap ((i64.wrap (a1.1-(1024:Int)))+(1:Int)))then(i64.wrap ((i64.wrap (a1.1-(1024:Int)))+(1:Int)))else(i64.wrap (a0.1+(1:Int)))),a0.1,a0.2.1,(0:Int),([]:List YI),r1.1,r1.2.1,())) fun o7=>
 .chk (decide ((0:Int)<=o7.1)) <|
 .chk (decide ((0:Int)<=(o7.1%(1024:Int)))) <|
 .ob (idx o7.2.2.2.2.2.2.1 ((o7.1%(1024:Int))/(32:Int))) fun e8=>
 .chk (decide ((0:Int)<=o7.1)) <|
 .chk (decide ((0:Int)<=(o7.1%(32:Int)))) <|
 .ob (idx o7.2.2.2.2.2.2.1 ((o7.1%(1024:Int))/(32:Int))) fun e9=>
 let q10:=(o7.2.2.2.2.2.2.1.set (((o7.1%(1024:Int))/(32:Int))).toNat ((i64.wrap ((BitVec.ofInt (i64.bits) (e8.1) ||| BitVec.ofInt (i64.bits) ((i64.wrap ((1:Int)*2^(min ((o7.1%(32:Int))).toNat i64.bits))))).toNat:Nat)),()))
 .leaf (((if o7.2.1<o7.1 then o7.1 else o7.2.1),q10,()),(true,())))
def Ap8 (a0:Dk) (a1:YI):Option (Dk×(Bool×Unit)):=(Apg a0 a1).val
def Aph (a0:YBs) (a1:YI) (a2:Ar):Tree (YBs×(Bool×Unit)):=
 letI u1:=a2.2.2.2.2.2.2.2;.ob (Ll a1 a2) fun r1=>
 .br ((a0.1.length:Int) != (32:Int)) (
 .leaf ((([]:List YB),()),(false,()))) (
 .br ((r1.1.length:Int)==(0:Int)) (
 .leaf ((([]:List YB),()),(false,()))) (
 .ob (Aek a0 r1) fun r2=>
 .ob (Qq (u1.2.2.2.1,()) r2) fun r3=>
 .br (!r3.1) (
 .leaf ((([]:List YB),()),(false,()))) (
 .ob (Xo a1 (a2.2.2.2.1,()) (u1.1,()) (u1.2.1,())) fun r4=>
 .ob (Awm a0 r4 (u1.2.2.1,())) fun r5=>
 .leaf (r5,(true,())))))
def Ap9 (a0:YBs) (a1:YI) (a2:Ar):Option (YBs×(Bool×Unit)):=(Aph a0 a1 a2).val
def Api (a0:YEp) (a1:YI) (a2:Ar):Tree (YEp×YBs×YI):=
 letI u1:=a2.2.2.2.2.2.2.2;.ob (Tf a0) fun r1=>
 .ob (Z1 a0) fun r2=>
 .br (!r2.1) (
 .leaf (r1,(([]:List YB),()),((1:Int),()))) (
 .ob (Ll a1 a2) fun r3=>
 .br ((r3.1.length:Int)==(0:Int)) (
 .leaf (r1,(([]:List YB),()),((1:Int),()))) (
 .br (u1.1 != a0.1) (
 .leaf (r1,(([]:List YB),()),((1:Int),()))) (
 .ob (Ap8 (a0.2.2.2.1,a0.2.2.2.2.1,()) (u1.2.1,())) fun r4=>
 .br (!r4.2.1) (
 .leaf (r1,(([]:List YB),()),((3:Int),()))) (
 .ob (Ap9 (a0.2.1,()) a1 a2) fun r5=>
 .br (!r5.2.1) (
 .leaf (r1,(([]:List YB),()),((2:Int),()))) (
 .leaf ((r1.1,r1.2.1,r1.2.2.1,r4.1.1,r4.1.2.1,()),r5.1,((0:Int),())))))))
def I4 (a0:YEp) (a1:YI) (a2:Ar):Option (YEp×YBs×YI):=(Api a0 a1 a2).val
def Z3 (a0:Ap) (r1:Ap) (r8:YEp×YBs×YI) (a1:YI):Tree (Ap×YBs×YI):=
 letI u1:=r1.2.2.2.2.2.2.2;letI u2:=u1.2.2;letI u3:=u2.2.2;letI u4:=r8.1.2.2;.br (a0.2.2.2.2.2.2.2.2.2.2.2.2.2.1==(-1:Int)) (
 .leaf ((r1.1,r1.2.1,r8.1.1,r8.1.2.1,u4.1,u4.2.1,u4.2.2.1,u1.1,u1.2.1,u2.1,u2.2.1,u3.1,u3.2.1,(i64.wrap (a1.1+(5:Int))),u3.2.2.2.1,()),r8.2.1,((0:Int),()))) (
 .leaf ((r1.1,r1.2.1,r8.1.1,r8.1.2.1,u4.1,u4.2.1,u4.2.2.1,u1.1,u1.2.1,u2.1,u2.2.1,u3.1,u3.2.1,u3.2.2.1,u3.2.2.2.1,()),r8.2.1,((0:Int),())))
def N9 (a0:Ap) (r1:Ap) (r8:YEp×YBs×YI) (a1:YI):Tree (Ap×YBs×YI):=
 letI u1:=r1.2.2.2.2.2.2.2;letI u2:=u1.2.2.2;.br a0.2.2.2.2.2.2.2.2.2.2.2.2.1 (
 Z3 a0 r1 r8 a1) (
 .leaf ((r1.1,r1.2.1,r8.1.1,r8.1.2.1,r8.1.2.2.1,r8.1.2.2.2.1,r8.1.2.2.2.2.1,u1.1,u1.2.1,u1.2.2.1,u2.1,u2.2.1,u2.2.2.1,u2.2.2.2.1,u2.2.2.2.2.1,()),r8.2.1,((0:Int),())))
def Z4 (a2:Ar) (a0:Ap) (r1:Ap) (r8:YEp×YBs×YI) (a1:YI):Tree (Ap×YBs×YI):=
 letI u1:=r1.2.2;letI u2:=u1.2.2;letI u3:=u2.2.2.2.2.2.2.2.2;letI u4:=r8.1.2.2;.br (a2.2.2.2.2.2.2.2.1==a0.2.2.2.2.2.2.2.1) (
 .leaf ((r1.1,r1.2.1,u1.1,u1.2.1,u2.1,u2.2.1,u2.2.2.1,r8.1.1,r8.1.2.1,u4.1,u4.2.1,u4.2.2.1,u3.1,u3.2.1,u3.2.2.1,()),r8.2.1,((0:Int),()))) (
 .leaf ((r1.1,r1.2.1,r8.1.1,r8.1.2.1,u4.1,u4.2.1,u4.2.2.1,u1.1,u1.2.1,u2.1,u2.2.1,u2.2.2.1,true,(i64.wrap (a1.1+(5:Int))),([]:List YB),()),r8.2.1,((0:Int),())))
def K9 (a2:Ar) (a0:Ap) (r1:Ap) (r8:YEp×YBs×YI) (a1:YI):Tree (Ap×YBs×YI):=
 .br (a2.2.2.2.2.2.2.2.1==a0.2.2.1) (
 N9 a0 r1 r8 a1) (
 Z4 a2 a0 r1 r8 a1)
def Tg (r8:YEp×YBs×YI) (r1:Ap) (a2:Ar) (a0:Ap) (a1:YI):Tree (Ap×YBs×YI):=
 .br (r8.2.2.1 != (0:Int)) (
 .leaf (r1,(([]:List YB),()),r8.2.2)) (
 K9 a2 a0 r1 r8 a1)
def Al8 (r7:YEp) (a0:Ap) (a2:Ar) (r1:Ap) (a1:YI):Tree (Ap×YBs×YI):=
 .ob (I4 r7 ((i64.wrap ((1:Int)-a0.1)),()) a2) fun r8=>
 Tg r8 r1 a2 a0 a1
def Z5 (a0:Ap) (a2:Ar) (r1:Ap) (a1:YI):Tree (Ap×YBs×YI):=
 .ob (On ((i64.wrap (a0.2.2.1+(1:Int))),()) (a0.2.2.2.2.2.2.2.2.2.2.2.2.2.2.1,())) fun r7=>
 Al8 r7 a0 a2 r1 a1
def Th (a0:Ap) (a2:Ar) (r1:Ap) (a1:YI):Tree (Ap×YBs×YI):=
 letI u1:=a0.2.2.2.2.2.2.2;.ob (I4 (u1.1,u1.2.1,u1.2.2.1,u1.2.2.2.1,u1.2.2.2.2.1,()) ((i64.wrap ((1:Int)-a0.1)),()) a2) fun r9=>
 Tg r9 r1 a2 a0 a1
def Al9 (a2:Ar) (a0:Ap) (r1:Ap) (a1:YI):Tree (Ap×YBs×YI):=
 .br (a2.2.2.2.2.2.2.2.1==(i64.wrap (a0.2.2.1+(1:Int)))) (
 Z5 a0 a2 r1 a1) (
 Th a0 a2 r1 a1)
def Qx (a0:Ap) (a2:Ar) (r1:Ap) (a1:YI):Tree (Ap×YBs×YI):=
 letI u1:=a0.2.2.2;.ob (I4 (a0.2.2.1,u1.1,u1.2.1,u1.2.2.1,u1.2.2.2.1,()) ((i64.wrap ((1:Int)-a0.1)),()) a2) fun r12=>
 Tg r12 r1 a2 a0 a1
def Xp (a2:Ar) (a0:Ap) (r1:Ap) (a1:YI):Tree (Ap×YBs×YI):=
 .br (a2.2.2.2.2.2.2.2.1==(i64.wrap (a0.2.2.1+(1:Int)))) (
 Z5 a0 a2 r1 a1) (
 Qx a0 a2 r1 a1)
def Jw (a2:Ar) (a0:Ap) (r1:Ap) (a1:YI):Tree (Ap×YBs×YI):=
 .br (a2.2.2.2.2.2.2.2.1==a0.2.2.2.2.2.2.2.1) (
 Al9 a2 a0 r1 a1) (
 Xp a2 a0 r1 a1)
def Aig (a1:YI) (a0:Ap) (r1:Ap) (a2:Ar):Tree (Ap×YBs×YI):=
 .br (decide (a1.1>a0.2.2.2.2.2.2.2.2.2.2.2.2.2.1)) (
 .leaf (r1,(([]:List YB),()),((9:Int),()))) (
 Jw a2 a0 r1 a1)
def Aih (a0:Ap) (a1:YI) (r1:Ap) (a2:Ar):Tree (Ap×YBs×YI):=
 .br (a0.2.2.2.2.2.2.2.2.2.2.2.2.2.1 != (-1:Int)) (
 Aig a1 a0 r1 a2) (
 Jw a2 a0 r1 a1)
def Jx (a2:Ar) (a0:Ap) (a1:YI) (r1:Ap):Tree (Ap×YBs×YI):=
 .br (a2.2.2.2.2.2.2.2.1==a0.2.2.2.2.2.2.2.1) (
 Aih a0 a1 r1 a2) (
 Jw a2 a0 r1 a1)
def Mu (a2:Ar) (a0:Ap) (r1:Ap) (a1:YI):Tree (Ap×YBs×YI):=
 .br (a2.2.2.2.2.2.2.2.1==a0.2.2.2.2.2.2.2.1) (
 Th a0 a2 r1 a1) (
 Qx a0 a2 r1 a1)
def Aii (a1:YI) (a0:Ap) (r1:Ap) (a2:Ar):Tree (Ap×YBs×YI):=
 .br (decide (a1.1>a0.2.2.2.2.2.2.2.2.2.2.2.2.2.1)) (
 .leaf (r1,(([]:List YB),()),((9:Int),()))) (
 Mu a2 a0 r1 a1)
def Aij (a0:Ap) (a1:YI) (r1:Ap) (a2:Ar):Tree (Ap×YBs×YI):=
 .br (a0.2.2.2.2.2.2.2.2.2.2.2.2.2.1 != (-1:Int)) (
 Aii a1 a0 r1 a2) (
 Mu a2 a0 r1 a1)
def Qy (a2:Ar) (a0:Ap) (a1:YI) (r1:Ap):Tree (Ap×YBs×YI):=
 .br (a2.2.2.2.2.2.2.2.1==a0.2.2.2.2.2.2.2.1) (
 Aij a0 a1 r1 a2) (
 Mu a2 a0 r1 a1)
def Qz (a2:Ar) (a0:Ap) (r1:Ap) (r76:YEp×YBs×YI) (a1:YI):Tree (Ap×YBs×YI):=
 letI u1:=r1.2.2.2;.br (a2.2.2.2.2.2.2.2.1==a0.2.2.1) (
 N9 a0 r1 r76 a1) (
 .leaf ((r1.1,r1.2.1,r76.1.1,r76.1.2.1,r76.1.2.2.1,r76.1.2.2.2.1,r76.1.2.2.2.2.1,r1.2.2.1,u1.1,u1.2.1,u1.2.2.1,u1.2.2.2.1,true,(i64.wrap (a1.1+(5:Int))),([]:List YB),()),r76.2.1,((0:Int),())))
def Xq (r76:YEp×YBs×YI) (r1:Ap) (a2:Ar) (a0:Ap) (a1:YI):Tree (Ap×YBs×YI):=
 .br (r76.2.2.1 != (0:Int)) (
 .leaf (r1,(([]:List YB),()),r76.2.2)) (
 Qz a2 a0 r1 r76 a1)
def Aik (r75:YEp) (a0:Ap) (a2:Ar) (r1:Ap) (a1:YI):Tree (Ap×YBs×YI):=
 .ob (I4 r75 ((i64.wrap ((1:Int)-a0.1)),()) a2) fun r76=>
 Xq r76 r1 a2 a0 a1
def Ail (a0:Ap) (a2:Ar) (r1:Ap) (a1:YI):Tree (Ap×YBs×YI):=
 .ob (On ((i64.wrap (a0.2.2.1+(1:Int))),()) (a0.2.2.2.2.2.2.2.2.2.2.2.2.2.2.1,())) fun r75=>
 Aik r75 a0 a2 r1 a1
def Q0 (a0:Ap) (a2:Ar) (r1:Ap) (a1:YI):Tree (Ap×YBs×YI):=
 letI u1:=a0.2.2.2;.ob (I4 (a0.2.2.1,u1.1,u1.2.1,u1.2.2.1,u1.2.2.2.1,()) ((i64.wrap ((1:Int)-a0.1)),()) a2) fun r77=>
 Xq r77 r1 a2 a0 a1
def Q1 (a2:Ar) (a0:Ap) (r1:Ap) (a1:YI):Tree (Ap×YBs×YI):=
 .br (a2.2.2.2.2.2.2.2.1==(i64.wrap (a0.2.2.1+(1:Int)))) (
 Ail a0 a2 r1 a1) (
 Q0 a0 a2 r1 a1)
def Aga (a0:Ap) (a1:YI) (a2:Ar):Tree (Ap×YBs×YI):=
 letI u1:=a0.2.2;letI u2:=u1.2.2.2.2.2;letI u3:=a2.2.2.2;letI u4:=u3.2.2.2.2;.ob (Id a0) fun r1=>
 .ob (Ki a0) fun r2=>
 .br (!r2.1) (
 .leaf (r1,(([]:List YB),()),((1:Int),()))) (
 .ob (Bg a1 ((0:Int),()) ((1000000:Int),())) fun r3=>
 .br (!r3.1) (
 .leaf (r1,(([]:List YB),()),((1:Int),()))) (
 .ob (Ms (a2.1,())) fun r4=>
 .br (!r4.1) (
 .leaf (r1,(([]:List YB),()),((1:Int),()))) (
 .ob (Db a2) fun r5=>
 .br (!r5.1) (
 .leaf (r1,(([]:List YB),()),((1:Int),()))) (
 .br u2.2.2.2.2.2.1 (
 .br (decide ((a0.2.2.2.2.2.2.2.2.2.2.2.2.2.2.1.length:Int)>(0:Int))) (
 .ob (Vt (u3.1,()) (a0.2.1,())) fun r6=>
 .br (r6.1 != (0:Int)) (
 .leaf (r1,(([]:List YB),()),((8:Int),()))) (
 .br (!(u4.1==u1.1)) (
 .br (!(u4.1==u2.1)) (
 .br (!(u4.1==(i64.wrap (u1.1+(1:Int))))) (
 .leaf (r1,(([]:List YB),()),((8:Int),()))) (
 Jx a2 a0 a1 r1)) (
 Jx a2 a0 a1 r1)) (
 Jx a2 a0 a1 r1))) (
 .ob (Vt (u3.1,()) (a0.2.1,())) fun r61=>
 .br (r61.1 != (0:Int)) (
 .leaf (r1,(([]:List YB),()),((8:Int),()))) (
 .br (!(u4.1==u1.1)) (
 .br (!(u4.1==u2.1)) (
 .leaf (r1,(([]:List YB),()),((8:Int),()))) (
 Qy a2 a0 a1 r1)) (
 Qy a2 a0 a1 r1)))) (
 .br (decide ((a0.2.2.2.2.2.2.2.2.2.2.2.2.2.2.1.length:Int)>(0:Int))) (
 .ob (Vt (u3.1,()) (a0.2.1,())) fun r74=>
 .br (r74.1 != (0:Int)) (
 .leaf (r1,(([]:List YB),()),((8:Int),()))) (
 .br (!(u4.1==u1.1)) (
 .br (!(u4.1==(i64.wrap (u1.1+(1:Int))))) (
 .leaf (r1,(([]:List YB),()),((8:Int),()))) (
 Q1 a2 a0 r1 a1)) (
 Q1 a2 a0 r1 a1))) (
 .ob (Vt (u3.1,()) (a0.2.1,())) fun r81=>
 .br (r81.1 != (0:Int)) (
 .leaf (r1,(([]:List YB),()),((8:Int),()))) (
 .br (!(u4.1==u1.1)) (
 .leaf (r1,(([]:List YB),()),((8:Int),()))) (
 Q0 a0 a2 r1 a1))))))))
def Oa (a0:Ap) (a1:YI) (a2:Ar):Option (Ap×YBs×YI):=(Aga a0 a1 a2).val
def Apj (a0:Ap) (a1:YI):Tree (YBs×(Bool×Unit)):=
 letI u1:=a0.2.2;letI u2:=u1.2.2.2.2.2;letI u3:=u2.2.2.2.2.2;.ob (Ki a0) fun r1=>
 .br (!r1.1) (
 .leaf ((([]:List YB),()),(false,()))) (
 .br u3.1 (
 .br (a1.1==u2.1) (
 .ob (Bk (u2.2.1,())) fun r2=>
 .leaf (r2,(true,()))) (
 .br (a1.1==u1.1) (
 .ob (Bk (u1.2.1,())) fun r3=>
 .leaf (r3,(true,()))) (
 .br (decide ((a0.2.2.2.2.2.2.2.2.2.2.2.2.2.2.1.length:Int)>(0:Int))) (
 .br (a1.1==(i64.wrap (u1.1+(1:Int)))) (
 .ob (Bk (u3.2.2.1,())) fun r4=>
 .leaf (r4,(true,()))) (
 .leaf ((([]:List YB),()),(false,())))) (
 .leaf ((([]:List YB),()),(false,())))))) (
 .br (a1.1==u1.1) (
 .ob (Bk (u1.2.1,())) fun r5=>
 .leaf (r5,(true,()))) (
 .br (decide ((a0.2.2.2.2.2.2.2.2.2.2.2.2.2.2.1.length:Int)>(0:Int))) (
 .br (a1.1==(i64.wrap (u1.1+(1:Int)))) (
 .ob (Bk (u3.2.2.1,())) fun r6=>
 .leaf (r6,(true,()))) (
 .leaf ((([]:List YB),()),(false,())))) (
 .leaf ((([]:List YB),()),(false,()))))))
def Xr (a0:Ap) (a1:YI):Option (YBs×(Bool×Unit)):=(Apj a0 a1).val
def Rq (x1:(List A8)×Int×Int×Int×Int×Unit):Option (((List A8)×Int×Int×Int×Int×Unit)⊕(YI⊕(Unit))):=
 letI u1:=x1.2.2;Tree.val <|
 .br (decide (u1.1<x1.2.1)) (
 .ob (idx x1.1 u1.1) fun e2=>
 .br (and (e2.1==u1.2.1) (and (e2.2.1==u1.2.2.1) true)) (
 .leaf (.inr (.inl (u1.1,())))) (
 .leaf (.inl (x1.1,x1.2.1,(i64.wrap (u1.1+(1:Int))),u1.2.1,u1.2.2.1,())))) (
 .leaf (.inr (.inr ())))
def Apl (a0:Bn) (a1:A6):Tree (YI):=
 .ob (Ay Rq (a0.2.2.1,(a0.2.2.1.length:Int),(0:Int),a1.1,a1.2.1,())) fun o3=>
 .sm o3 (fun o4=>
 .leaf o4) (fun o5=>
 .leaf ((-1:Int),()))
def Ad5 (a0:Bn) (a1:A6):Option (YI):=(Apl a0 a1).val
def Adu (a0:Bn) (a1:YI) (a2:A6) (a3:YBs):Tree (Bn×(Bool×Unit)):=
 .ob (Fe a0) fun r1=>
 .ob (Ad5 a0 a2) fun r2=>
 .ob (Ur a0) fun r3=>
 .br (!r3.1) (
 .leaf (r1,(false,()))) (
 .ob (Bg a1 ((0:Int),()) ((1000000:Int),())) fun r4=>
 .br (!r4.1) (
 .leaf (r1,(false,()))) (
 .br (decide (r2.1<(0:Int))) (
 .leaf (r1,(false,()))) (
 .ob (idx a0.2.2.1 r2.1) fun e5=>
 .ob (Cf a3 (e5.2.2.1,())) fun r6=>
 .br (!r6.1) (
 .leaf (r1,(false,()))) (
 .ob (idx a0.2.2.1 r2.1) fun e7=>
 .br (decide (a1.1>e7.2.2.2.1)) (
 .leaf (r1,(false,()))) (
 .chk (decide ((0:Int)<=r2.1)) <|
 .chk (decide (r2.1<=(r1.2.2.1.length:Int))) <|
 .chk (decide ((0:Int)<=(i64.wrap (r2.1+(1:Int))))) <|
 .chk (decide ((i64.wrap (r2.1+(1:Int)))<=(r1.2.2.1.length:Int))) <|
 .chk (decide ((r1.2.2.1.length:Int)<=(r1.2.2.1.length:Int))) <|
 .chk (decide (((r1.2.2.1.take (r2.1).toNat).drop ((0:Int)).toNat).length+((r1.2.2.1.take ((r1.2.2.1.length:Int)).toNat).drop ((i64.wrap (r2.1+(1:Int)))).toNat).length<=4294967296)) <|
 .chk (Nat.ble ((r1.2.2.1.take (r2.1).toNat).drop ((0:Int)).toNat).length (((i64.wrap (r2.1+(1:Int)))).toNat)) <|
 .chk (Nat.blt 0 r1.2.2.1.length) <|
 .leaf ((a2.1,a2.2.1,(((r1.2.2.1.take (r2.1).toNat).drop ((0:Int)).toNat)++((r1.2.2.1.take ((r1.2.2.1.length:Int)).toNat).drop ((i64.wrap (r2.1+(1:Int)))).toNat)),()),(true,())))))))
def Pc (a0:Bn) (a1:YI) (a2:A6) (a3:YBs):Option (Bn×(Bool×Unit)):=(Adu a0 a1 a2 a3).val
def A0k (a0:Ap):Tree (Ap×(Bool×Unit)):=
 .ob (Id a0) fun r1=>letI u1:=r1.2.2.2;
 .ob (Ki a0) fun r2=>
 .br (!r2.1) (
 .leaf (r1,(false,()))) (
 .br (a0.1 != (1:Int)) (
 .leaf (r1,(false,()))) (
 .br (a0.2.2.1==(4294967295:Int)) (
 .leaf (r1,(false,()))) (
 .ob (Mt (a0.2.2.2.1,()) ((Da [114,101,107,101,121]),())) fun r3=>
 .ob (On ((i64.wrap (a0.2.2.1+(1:Int))),()) r3) fun r4=>
 .leaf ((r1.1,r1.2.1,r4.1,r4.2.1,r4.2.2.1,r4.2.2.2.1,r4.2.2.2.2.1,r1.2.2.1,u1.1,u1.2.1,u1.2.2.1,u1.2.2.2.1,true,(-1:Int),u1.2.2.2.2.2.2.2.2.2.2.2.1,()),(true,())))))
def A0p (a0:Ap):Option (Ap×(Bool×Unit)):=(A0k a0).val
def Ac5 (a0:Ap) (a1:YI) (a2:YBs):Tree (Ap×YI):=
 .ob (Id a0) fun r1=>
 .ob (Ki a0) fun r2=>
 .br (!r2.1) (
 .leaf (r1,((6:Int),()))) (
 .br (a0.1 != (1:Int)) (
 .leaf (r1,((6:Int),()))) (
 .ob (Bg a1 ((0:Int),()) ((4294967294:Int),())) fun r3=>
 .br (!r3.1) (
 .leaf (r1,((6:Int),()))) (
 .ob (Vf ((i64.wrap (a1.1+(1:Int))),())) fun r4=>
 .ob (Cf a2 r4) fun r5=>
 .br (!r5.1) (
 .leaf (r1,((6:Int),()))) (
 .br (a1.1==(i64.wrap (a0.2.2.1-(1:Int)))) (
 .leaf (r1,((0:Int),()))) (
 .ob (A0p a0) fun r6=>
 .br (a1.1 != a0.2.2.1) (
 .leaf (r1,((6:Int),()))) (
 .br (!r6.2.1) (
 .leaf (r1,((6:Int),()))) (
 .leaf (r6.1,((0:Int),())))))))))
def P3 (a0:Ap) (a1:YI) (a2:YBs):Option (Ap×YI):=(Ac5 a0 a1 a2).val
def Vb (a0:Ak) (a1:YI) (a2:YBs):Tree (Ak×((List Bc)×Unit)×((List Ax)×Unit)):=
 letI u1:=a0.2.2;letI u2:=u1.2.2.2;letI u3:=u2.2.2.2;letI u4:=u3.2.2.2;letI u5:=u4.2.2.2;letI u6:=u5.2.2.2.2;letI u7:=u6.2.2;letI u8:=u7.2.2;.ob (P3 (u1.2.1,u1.2.2.1,u2.1,u2.2.1,u2.2.2.1,u3.1,u3.2.1,u3.2.2.1,u4.1,u4.2.1,u4.2.2.1,u5.1,u5.2.1,u5.2.2.1,u5.2.2.2.1,()) a1 a2) fun r1=>letI u9:=r1.1.2.2;letI u10:=u9.2.2;letI u11:=u10.2.2;letI u12:=u11.2.2;letI u13:=u12.2.2;letI u14:=u13.2.2;
 .br (r1.2.1 != (0:Int)) (
 .leaf (a0,(([]:List Bc),()),(([]:List Ax),()))) (
 .br (u9.1 != u2.1) (
 .ob (Bk (u1.1,())) fun r2=>
 .ob (Bk (u9.2.1,())) fun r3=>
 .chk (decide (([]:List Ax).length+[((10:Int),(0:Int),(1:Int),([]:List YB),r2.1,u9.1,(0:Int),([]:List YB),r3.1,(0:Int),(0:Int),(0:Int),())].length<=4294967296)) <|
 .ob (Ael r1.1) fun r4=>letI u15:=r4.1.2.2.2;letI u16:=u15.2.2.2;letI u17:=u16.2.2.2.2;
 .br (r4.2.2.1 != (0:Int)) (
 .leaf ((a0.1,a0.2.1,u1.1,r1.1.1,r1.1.2.1,u9.1,u9.2.1,u10.1,u10.2.1,u11.1,u11.2.1,u12.1,u12.2.1,u13.1,u13.2.1,u14.1,u14.2.1,u14.2.2.1,u6.1,u6.2.1,u7.1,u7.2.1,u8.1,u8.2.1,()),(([]:List Bc),()),((([]:List Ax)++[((10:Int),(0:Int),(1:Int),([]:List YB),r2.1,u9.1,(0:Int),([]:List YB),r3.1,(0:Int),(0:Int),(0:Int),())]),()))) (
 .ob (Ie r4.1 r4.2.1) fun r5=>
 .chk (decide ((([]:List Ax)++[((10:Int),(0:Int),(1:Int),([]:List YB),r2.1,u9.1,(0:Int),([]:List YB),r3.1,(0:Int),(0:Int),(0:Int),())]).length+[r5].length<=4294967296)) <|
 .leaf ((a0.1,a0.2.1,u1.1,r4.1.1,r4.1.2.1,r4.1.2.2.1,u15.1,u15.2.1,u15.2.2.1,u16.1,u16.2.1,u16.2.2.1,u16.2.2.2.1,u17.1,u17.2.1,u17.2.2.1,u17.2.2.2.1,u17.2.2.2.2.1,u6.1,u6.2.1,u7.1,u7.2.1,u8.1,u8.2.1,()),([(u6.1,u6.2.1,r4.2.1.1,r4.2.1.2.1,r4.2.1.2.2.1,r4.2.1.2.2.2.1,r4.2.1.2.2.2.2.1,r4.2.1.2.2.2.2.2.1,r4.2.1.2.2.2.2.2.2.1,r4.2.1.2.2.2.2.2.2.2.1,r4.2.1.2.2.2.2.2.2.2.2.1,r4.2.1.2.2.2.2.2.2.2.2.2.1,r4.2.1.2.2.2.2.2.2.2.2.2.2.1,())],()),(((([]:List Ax)++[((10:Int),(0:Int),(1:Int),([]:List YB),r2.1,u9.1,(0:Int),([]:List YB),r3.1,(0:Int),(0:Int),(0:Int),())])++[r5]),())))) (
 .ob (Ael r1.1) fun r6=>letI u18:=r6.1.2.2.2;letI u19:=u18.2.2.2;letI u20:=u19.2.2.2.2;
 .br (r6.2.2.1 != (0:Int)) (
 .leaf ((a0.1,a0.2.1,u1.1,r1.1.1,r1.1.2.1,u9.1,u9.2.1,u10.1,u10.2.1,u11.1,u11.2.1,u12.1,u12.2.1,u13.1,u13.2.1,u14.1,u14.2.1,u14.2.2.1,u6.1,u6.2.1,u7.1,u7.2.1,u8.1,u8.2.1,()),(([]:List Bc),()),(([]:List Ax),()))) (
 .ob (Ie r6.1 r6.2.1) fun r7=>
 .chk (decide (([]:List Ax).length+[r7].length<=4294967296)) <|
 .leaf ((a0.1,a0.2.1,u1.1,r6.1.1,r6.1.2.1,r6.1.2.2.1,u18.1,u18.2.1,u18.2.2.1,u19.1,u19.2.1,u19.2.2.1,u19.2.2.2.1,u20.1,u20.2.1,u20.2.2.1,u20.2.2.2.1,u20.2.2.2.2.1,u6.1,u6.2.1,u7.1,u7.2.1,u8.1,u8.2.1,()),([(u6.1,u6.2.1,r6.2.1.1,r6.2.1.2.1,r6.2.1.2.2.1,r6.2.1.2.2.2.1,r6.2.1.2.2.2.2.1,r6.2.1.2.2.2.2.2.1,r6.2.1.2.2.2.2.2.2.1,r6.2.1.2.2.2.2.2.2.2.1,r6.2.1.2.2.2.2.2.2.2.2.1,r6.2.1.2.2.2.2.2.2.2.2.2.1,r6.2.1.2.2.2.2.2.2.2.2.2.2.1,())],()),((([]:List Ax)++[r7]),())))))
def Vg (a0:Ak) (a1:YI) (a2:YBs):Option (Ak×((List Bc)×Unit)×((List Ax)×Unit)):=(Vb a0 a1 a2).val
def Ft (x2:Int×(List A8)×Int×Int×Int×Int×(List A8)×Int×Int×(List A8)×Unit):Option ((Int×(List A8)×Int×Int×Int×Int×(List A8)×Int×Int×(List A8)×Unit)⊕((Int×Int×(List A8)×Int×Int×(List A8)×Unit))):=
 letI u1:=x2.2.2.2;letI u2:=u1.2.2;letI u3:=u2.2.2;Tree.val <|
 .br (decide (u1.1<x2.2.2.1)) (
 .chk (Nat.beq (Int.toNat u1.1) (Int.toNat u1.1)) <|
 .ob (idx x2.2.1 u1.1) fun e3=>
 .br (decide (e3.2.2.2.1≥x2.1)) (
 .chk (decide (x2.2.2.2.2.2.2.2.2.2.1.length+[e3].length<=4294967296)) <|
 .chk (Nat.ble (Int.toNat u1.1+1) (Int.toNat (i64.wrap (u1.1+(1:Int))))) <|
 .leaf (.inl (x2.1,x2.2.1,x2.2.2.1,(i64.wrap (u1.1+(1:Int))),u1.2.1,u2.1,u2.2.1,u3.1,u3.2.1,(u3.2.2.1++[e3]),()))) (
 .chk (Nat.ble (Int.toNat u1.1+1) (Int.toNat (i64.wrap (u1.1+(1:Int))))) <|
 .leaf (.inl (x2.1,x2.2.1,x2.2.2.1,(i64.wrap (u1.1+(1:Int))),u1.2.1,u2.1,u2.2.1,u3.1,u3.2.1,u3.2.2.1,())))) (
 .leaf (.inr (u1.2.1,u2.1,u2.2.1,u3.1,u3.2.1,u3.2.2.1,())))
def Mo (a0:Bn) (a1:YI):Tree (Bn):=
 .ob (Fe a0) fun r1=>
 .ob (Ay Ft (a1.1,r1.2.2.1,(r1.2.2.1.length:Int),(0:Int),(0:Int),(0:Int),([]:List A8),a0.1,a0.2.1,([]:List A8),())) fun o4=>
 .leaf (o4.2.2.2.1,o4.2.2.2.2.1,o4.2.2.2.2.2.1,())
def Rz (a0:Bn) (a1:YI):Option (Bn):=(Mo a0 a1).val
def Ab5 (a0:Bn) (a1:YI) (a2:A6) (a3:YBs):Tree (Bn×(Bool×Unit)):=
 .ob (Ur a0) fun r1=>
 .br (!r1.1) (
 .ob (Fe a0) fun r2=>
 .leaf (r2,(false,()))) (
 .ob (Bg a1 ((0:Int),()) ((1000000:Int),())) fun r3=>
 .br (!r3.1) (
 .ob (Fe a0) fun r4=>
 .leaf (r4,(false,()))) (
 .ob (Fu a2) fun r5=>
 .br (!r5.1) (
 .ob (Fe a0) fun r6=>
 .leaf (r6,(false,()))) (
 .ob (Dx a3) fun r7=>
 .br (!r7.1) (
 .ob (Fe a0) fun r8=>
 .leaf (r8,(false,()))) (
 .br (and (a2.1==a0.1) (and (a2.2.1==a0.2.1) true)) (
 .ob (Fe a0) fun r9=>
 .leaf (r9,(false,()))) (
 .ob (Rz a0 a1) fun r10=>
 .ob (Ad5 r10 a2) fun r11=>
 .br (decide (r11.1≥(0:Int))) (
 .ob (Fe a0) fun r12=>
 .leaf (r12,(false,()))) (
 .br ((r10.2.2.1.length:Int)==(3:Int)) (
 .ob (Fe a0) fun r13=>
 .leaf (r13,(false,()))) (
 .ob (Bk a3) fun r14=>
 .chk (decide (r10.2.2.1.length+[(a2.1,a2.2.1,r14.1,(i64.wrap (a1.1+(6:Int))),())].length<=4294967296)) <|
 .leaf ((r10.1,r10.2.1,(r10.2.2.1++[(a2.1,a2.2.1,r14.1,(i64.wrap (a1.1+(6:Int))),())]),()),(true,())))))))))
def Dh (a0:Bn) (a1:YI) (a2:A6) (a3:YBs):Option (Bn×(Bool×Unit)):=(Ab5 a0 a1 a2 a3).val
def Xe (a0:Ak) (a1:YI) (a2:A6) (a3:Ar) (a4:YBs):Tree (Ak×((List Bc)×Unit)×((List Ax)×Unit)×(Bool×Unit)):=
 letI u1:=a0.2.2;letI u2:=u1.2.2;letI u3:=u2.2.2;letI u4:=u3.2.2;letI u5:=u4.2.2;letI u6:=u5.2.2;letI u7:=u6.2.2;letI u8:=u7.2.2.2;letI u9:=a3.2.2.2.2.2.2.2;.ob (Jb a0) fun r1=>letI u10:=r1.2.2;letI u11:=u10.2.2.2.2.2.2.2.2.2.2.2.2.2.2.2.2;letI u12:=u11.2.2;letI u13:=u12.2.2.2;
 .ob (Pb a0) fun r2=>
 .br (!r2.1) (
 .leaf (r1,(([]:List Bc),()),(([]:List Ax),()),(false,()))) (
 .br u8.2.2.2.2.2.2.1 (
 .leaf (r1,(([]:List Bc),()),(([]:List Ax),()),(false,()))) (
 .ob (Fu a2) fun r3=>
 .br (!r3.1) (
 .leaf (r1,(([]:List Bc),()),(([]:List Ax),()),(false,()))) (
 .ob (Oa (u1.2.1,u2.1,u2.2.1,u3.1,u3.2.1,u4.1,u4.2.1,u5.1,u5.2.1,u6.1,u6.2.1,u7.1,u7.2.1,u7.2.2.1,u8.1,()) a1 a3) fun r4=>letI u14:=r4.1.2.2;letI u15:=u14.2.2;letI u16:=u15.2.2;letI u17:=u16.2.2;letI u18:=u17.2.2;letI u19:=u18.2.2;letI u20:=u19.2.2;
 .br (r4.2.2.1 != (0:Int)) (
 .leaf (r1,(([]:List Bc),()),(([]:List Ax),()),(false,()))) (
 .ob (Xr (u1.2.1,u2.1,u2.2.1,u3.1,u3.2.1,u4.1,u4.2.1,u5.1,u5.2.1,u6.1,u6.2.1,u7.1,u7.2.1,u7.2.2.1,u8.1,()) (u9.1,())) fun r5=>
 .ob (Ll ((0:Int),()) a3) fun r6=>
 .ob (Agw r5.1 (u1.1,()) r6) fun r7=>
 .br (a3.1==(4:Int)) (
 .ob (Bk (u1.1,())) fun r8=>
 .chk (decide ([r7].length+[((6:Int),(0:Int),(0:Int),([]:List YB),r8.1,u9.1,u9.2.1,r4.2.1.1,([]:List YB),(0:Int),(0:Int),a1.1,())].length<=4294967296)) <|
 .ob (Dh (u11.1,u11.2.1,u12.1,()) a1 a2 a4) fun r9=>
 .ob (Cn r4.1 ((5:Int),()) a4) fun r10=>letI u21:=r10.1.2.2.2;letI u22:=u21.2.2.2;letI u23:=u22.2.2.2.2;
 .br (!r9.2.1) (
 .leaf ((r1.1,r1.2.1,u10.1,r4.1.1,r4.1.2.1,u14.1,u14.2.1,u15.1,u15.2.1,u16.1,u16.2.1,u17.1,u17.2.1,u18.1,u18.2.1,u19.1,u19.2.1,u20.1,u11.1,u11.2.1,u12.1,u12.2.1,a1.1,u13.1,()),(([]:List Bc),()),(([r7]++[((6:Int),(0:Int),(0:Int),([]:List YB),r8.1,u9.1,u9.2.1,r4.2.1.1,([]:List YB),(0:Int),(0:Int),a1.1,())]),()),(false,()))) (
 .br (r10.2.2.1 != (0:Int)) (
 .leaf ((r1.1,r1.2.1,u10.1,r4.1.1,r4.1.2.1,u14.1,u14.2.1,u15.1,u15.2.1,u16.1,u16.2.1,u17.1,u17.2.1,u18.1,u18.2.1,u19.1,u19.2.1,u20.1,u11.1,u11.2.1,u12.1,u12.2.1,a1.1,u13.1,()),(([]:List Bc),()),(([r7]++[((6:Int),(0:Int),(0:Int),([]:List YB),r8.1,u9.1,u9.2.1,r4.2.1.1,([]:List YB),(0:Int),(0:Int),a1.1,())]),()),(false,()))) (
 .chk (decide (([]:List Bc).length+[(a2.1,a2.2.1,r10.2.1.1,r10.2.1.2.1,r10.2.1.2.2.1,r10.2.1.2.2.2.1,r10.2.1.2.2.2.2.1,r10.2.1.2.2.2.2.2.1,r10.2.1.2.2.2.2.2.2.1,r10.2.1.2.2.2.2.2.2.2.1,r10.2.1.2.2.2.2.2.2.2.2.1,r10.2.1.2.2.2.2.2.2.2.2.2.1,r10.2.1.2.2.2.2.2.2.2.2.2.2.1,())].length<=4294967296)) <|
 .ob (Ie r10.1 r10.2.1) fun r11=>
 .chk (decide (([r7]++[((6:Int),(0:Int),(0:Int),([]:List YB),r8.1,u9.1,u9.2.1,r4.2.1.1,([]:List YB),(0:Int),(0:Int),a1.1,())]).length+[r11].length<=4294967296)) <|
 .leaf ((r1.1,r1.2.1,u10.1,r10.1.1,r10.1.2.1,r10.1.2.2.1,u21.1,u21.2.1,u21.2.2.1,u22.1,u22.2.1,u22.2.2.1,u22.2.2.2.1,u23.1,u23.2.1,u23.2.2.1,u23.2.2.2.1,u23.2.2.2.2.1,r9.1.1,r9.1.2.1,r9.1.2.2.1,u12.2.1,a1.1,u13.1,()),((([]:List Bc)++[(a2.1,a2.2.1,r10.2.1.1,r10.2.1.2.1,r10.2.1.2.2.1,r10.2.1.2.2.2.1,r10.2.1.2.2.2.2.1,r10.2.1.2.2.2.2.2.1,r10.2.1.2.2.2.2.2.2.1,r10.2.1.2.2.2.2.2.2.2.1,r10.2.1.2.2.2.2.2.2.2.2.1,r10.2.1.2.2.2.2.2.2.2.2.2.1,r10.2.1.2.2.2.2.2.2.2.2.2.2.1,())]),()),((([r7]++[((6:Int),(0:Int),(0:Int),([]:List YB),r8.1,u9.1,u9.2.1,r4.2.1.1,([]:List YB),(0:Int),(0:Int),a1.1,())])++[r11]),()),(true,()))))) (
 .br (a3.1==(6:Int)) (
 .ob (Pc (u8.2.1,u8.2.2.1,u8.2.2.2.1,()) a1 a2 r4.2.1) fun r12=>
 .br r12.2.1 (
 .ob (Bk (u1.1,())) fun r13=>
 .chk (decide ([r7].length+[((9:Int),(0:Int),(0:Int),([]:List YB),r13.1,(0:Int),(0:Int),r4.2.1.1,([]:List YB),a2.1,a2.2.1,a1.1,())].length<=4294967296)) <|
 .ob (Dh r12.1 a1 a2 a4) fun r14=>
 .ob (Cn r4.1 ((5:Int),()) a4) fun r15=>letI u24:=r15.1.2.2.2;letI u25:=u24.2.2.2;letI u26:=u25.2.2.2.2;
 .br (!r14.2.1) (
 .leaf ((r1.1,r1.2.1,u10.1,r4.1.1,r4.1.2.1,u14.1,u14.2.1,u15.1,u15.2.1,u16.1,u16.2.1,u17.1,u17.2.1,u18.1,u18.2.1,u19.1,u19.2.1,u20.1,r12.1.1,r12.1.2.1,r12.1.2.2.1,u12.2.1,a1.1,u13.1,()),(([]:List Bc),()),(([r7]++[((9:Int),(0:Int),(0:Int),([]:List YB),r13.1,(0:Int),(0:Int),r4.2.1.1,([]:List YB),a2.1,a2.2.1,a1.1,())]),()),(false,()))) (
 .br (r15.2.2.1 != (0:Int)) (
 .leaf ((r1.1,r1.2.1,u10.1,r4.1.1,r4.1.2.1,u14.1,u14.2.1,u15.1,u15.2.1,u16.1,u16.2.1,u17.1,u17.2.1,u18.1,u18.2.1,u19.1,u19.2.1,u20.1,r12.1.1,r12.1.2.1,r12.1.2.2.1,u12.2.1,a1.1,u13.1,()),(([]:List Bc),()),(([r7]++[((9:Int),(0:Int),(0:Int),([]:List YB),r13.1,(0:Int),(0:Int),r4.2.1.1,([]:List YB),a2.1,a2.2.1,a1.1,())]),()),(false,()))) (
 .chk (decide (([]:List Bc).length+[(a2.1,a2.2.1,r15.2.1.1,r15.2.1.2.1,r15.2.1.2.2.1,r15.2.1.2.2.2.1,r15.2.1.2.2.2.2.1,r15.2.1.2.2.2.2.2.1,r15.2.1.2.2.2.2.2.2.1,r15.2.1.2.2.2.2.2.2.2.1,r15.2.1.2.2.2.2.2.2.2.2.1,r15.2.1.2.2.2.2.2.2.2.2.2.1,r15.2.1.2.2.2.2.2.2.2.2.2.2.1,())].length<=4294967296)) <|
 .ob (Ie r15.1 r15.2.1) fun r16=>
 .chk (decide (([r7]++[((9:Int),(0:Int),(0:Int),([]:List YB),r13.1,(0:Int),(0:Int),r4.2.1.1,([]:List YB),a2.1,a2.2.1,a1.1,())]).length+[r16].length<=4294967296)) <|
 .leaf ((r1.1,r1.2.1,u10.1,r15.1.1,r15.1.2.1,r15.1.2.2.1,u24.1,u24.2.1,u24.2.2.1,u25.1,u25.2.1,u25.2.2.1,u25.2.2.2.1,u26.1,u26.2.1,u26.2.2.1,u26.2.2.2.1,u26.2.2.2.2.1,r14.1.1,r14.1.2.1,r14.1.2.2.1,u12.2.1,a1.1,u13.1,()),((([]:List Bc)++[(a2.1,a2.2.1,r15.2.1.1,r15.2.1.2.1,r15.2.1.2.2.1,r15.2.1.2.2.2.1,r15.2.1.2.2.2.2.1,r15.2.1.2.2.2.2.2.1,r15.2.1.2.2.2.2.2.2.1,r15.2.1.2.2.2.2.2.2.2.1,r15.2.1.2.2.2.2.2.2.2.2.1,r15.2.1.2.2.2.2.2.2.2.2.2.1,r15.2.1.2.2.2.2.2.2.2.2.2.2.1,())]),()),((([r7]++[((9:Int),(0:Int),(0:Int),([]:List YB),r13.1,(0:Int),(0:Int),r4.2.1.1,([]:List YB),a2.1,a2.2.1,a1.1,())])++[r16]),()),(true,()))))) (
 .ob (Dh (u11.1,u11.2.1,u12.1,()) a1 a2 a4) fun r17=>
 .ob (Cn r4.1 ((5:Int),()) a4) fun r18=>letI u27:=r18.1.2.2.2;letI u28:=u27.2.2.2;letI u29:=u28.2.2.2.2;
 .br (!r17.2.1) (
 .leaf ((r1.1,r1.2.1,u10.1,r4.1.1,r4.1.2.1,u14.1,u14.2.1,u15.1,u15.2.1,u16.1,u16.2.1,u17.1,u17.2.1,u18.1,u18.2.1,u19.1,u19.2.1,u20.1,u11.1,u11.2.1,u12.1,u12.2.1,a1.1,u13.1,()),(([]:List Bc),()),([r7],()),(false,()))) (
 .br (r18.2.2.1 != (0:Int)) (
 .leaf ((r1.1,r1.2.1,u10.1,r4.1.1,r4.1.2.1,u14.1,u14.2.1,u15.1,u15.2.1,u16.1,u16.2.1,u17.1,u17.2.1,u18.1,u18.2.1,u19.1,u19.2.1,u20.1,u11.1,u11.2.1,u12.1,u12.2.1,a1.1,u13.1,()),(([]:List Bc),()),([r7],()),(false,()))) (
 .chk (decide (([]:List Bc).length+[(a2.1,a2.2.1,r18.2.1.1,r18.2.1.2.1,r18.2.1.2.2.1,r18.2.1.2.2.2.1,r18.2.1.2.2.2.2.1,r18.2.1.2.2.2.2.2.1,r18.2.1.2.2.2.2.2.2.1,r18.2.1.2.2.2.2.2.2.2.1,r18.2.1.2.2.2.2.2.2.2.2.1,r18.2.1.2.2.2.2.2.2.2.2.2.1,r18.2.1.2.2.2.2.2.2.2.2.2.2.1,())].length<=4294967296)) <|
 .ob (Ie r18.1 r18.2.1) fun r19=>
 .chk (decide ([r7].length+[r19].length<=4294967296)) <|
 .leaf ((r1.1,r1.2.1,u10.1,r18.1.1,r18.1.2.1,r18.1.2.2.1,u27.1,u27.2.1,u27.2.2.1,u28.1,u28.2.1,u28.2.2.1,u28.2.2.2.1,u29.1,u29.2.1,u29.2.2.1,u29.2.2.2.1,u29.2.2.2.2.1,r17.1.1,r17.1.2.1,r17.1.2.2.1,u12.2.1,a1.1,u13.1,()),((([]:List Bc)++[(a2.1,a2.2.1,r18.2.1.1,r18.2.1.2.1,r18.2.1.2.2.1,r18.2.1.2.2.2.1,r18.2.1.2.2.2.2.1,r18.2.1.2.2.2.2.2.1,r18.2.1.2.2.2.2.2.2.1,r18.2.1.2.2.2.2.2.2.2.1,r18.2.1.2.2.2.2.2.2.2.2.1,r18.2.1.2.2.2.2.2.2.2.2.2.1,r18.2.1.2.2.2.2.2.2.2.2.2.2.1,())]),()),(([r7]++[r19]),()),(true,())))))) (
 .br (a3.1==(7:Int)) (
 .ob (Vg (r1.1,r1.2.1,u10.1,r4.1.1,r4.1.2.1,u14.1,u14.2.1,u15.1,u15.2.1,u16.1,u16.2.1,u17.1,u17.2.1,u18.1,u18.2.1,u19.1,u19.2.1,u20.1,u11.1,u11.2.1,u12.1,u12.2.1,a1.1,u13.1,()) (u9.1,()) r4.2.1) fun r20=>letI u30:=r20.1.2.2.2;letI u31:=u30.2.2.2;letI u32:=u31.2.2.2;letI u33:=u32.2.2.2;letI u34:=u33.2.2.2;letI u35:=u34.2.2.2.2;
 .chk (decide (([]:List Bc).length+r20.2.1.1.length<=4294967296)) <|
 .chk (decide ([r7].length+r20.2.2.1.length<=4294967296)) <|
 .ob (Dh (u34.2.2.2.1,u35.1,u35.2.1,()) a1 a2 a4) fun r21=>
 .ob (Cn (u30.1,u30.2.1,u30.2.2.1,u31.1,u31.2.1,u31.2.2.1,u32.1,u32.2.1,u32.2.2.1,u33.1,u33.2.1,u33.2.2.1,u34.1,u34.2.1,u34.2.2.1,()) ((5:Int),()) a4) fun r22=>letI u36:=r22.1.2.2.2;letI u37:=u36.2.2.2;letI u38:=u37.2.2.2.2;
 .br (!r21.2.1) (
 .leaf (r20.1,((([]:List Bc)++r20.2.1.1),()),(([r7]++r20.2.2.1),()),(false,()))) (
 .br (r22.2.2.1 != (0:Int)) (
 .leaf (r20.1,((([]:List Bc)++r20.2.1.1),()),(([r7]++r20.2.2.1),()),(false,()))) (
 .chk (decide ((([]:List Bc)++r20.2.1.1).length+[(a2.1,a2.2.1,r22.2.1.1,r22.2.1.2.1,r22.2.1.2.2.1,r22.2.1.2.2.2.1,r22.2.1.2.2.2.2.1,r22.2.1.2.2.2.2.2.1,r22.2.1.2.2.2.2.2.2.1,r22.2.1.2.2.2.2.2.2.2.1,r22.2.1.2.2.2.2.2.2.2.2.1,r22.2.1.2.2.2.2.2.2.2.2.2.1,r22.2.1.2.2.2.2.2.2.2.2.2.2.1,())].length<=4294967296)) <|
 .ob (Ie r22.1 r22.2.1) fun r23=>
 .chk (decide (([r7]++r20.2.2.1).length+[r23].length<=4294967296)) <|
 .leaf ((r20.1.1,r20.1.2.1,r20.1.2.2.1,r22.1.1,r22.1.2.1,r22.1.2.2.1,u36.1,u36.2.1,u36.2.2.1,u37.1,u37.2.1,u37.2.2.1,u37.2.2.2.1,u38.1,u38.2.1,u38.2.2.1,u38.2.2.2.1,u38.2.2.2.2.1,r21.1.1,r21.1.2.1,r21.1.2.2.1,u35.2.2.1,u35.2.2.2.1,u35.2.2.2.2.1,()),(((([]:List Bc)++r20.2.1.1)++[(a2.1,a2.2.1,r22.2.1.1,r22.2.1.2.1,r22.2.1.2.2.1,r22.2.1.2.2.2.1,r22.2.1.2.2.2.2.1,r22.2.1.2.2.2.2.2.1,r22.2.1.2.2.2.2.2.2.1,r22.2.1.2.2.2.2.2.2.2.1,r22.2.1.2.2.2.2.2.2.2.2.1,r22.2.1.2.2.2.2.2.2.2.2.2.1,r22.2.1.2.2.2.2.2.2.2.2.2.2.1,())]),()),((([r7]++r20.2.2.1)++[r23]),()),(true,()))))) (
 .ob (Dh (u11.1,u11.2.1,u12.1,()) a1 a2 a4) fun r24=>
 .ob (Cn r4.1 ((5:Int),()) a4) fun r25=>letI u39:=r25.1.2.2.2;letI u40:=u39.2.2.2;letI u41:=u40.2.2.2.2;
 .br (!r24.2.1) (
 .leaf ((r1.1,r1.2.1,u10.1,r4.1.1,r4.1.2.1,u14.1,u14.2.1,u15.1,u15.2.1,u16.1,u16.2.1,u17.1,u17.2.1,u18.1,u18.2.1,u19.1,u19.2.1,u20.1,u11.1,u11.2.1,u12.1,u12.2.1,a1.1,u13.1,()),(([]:List Bc),()),([r7],()),(false,()))) (
 .br (r25.2.2.1 != (0:Int)) (
 .leaf ((r1.1,r1.2.1,u10.1,r4.1.1,r4.1.2.1,u14.1,u14.2.1,u15.1,u15.2.1,u16.1,u16.2.1,u17.1,u17.2.1,u18.1,u18.2.1,u19.1,u19.2.1,u20.1,u11.1,u11.2.1,u12.1,u12.2.1,a1.1,u13.1,()),(([]:List Bc),()),([r7],()),(false,()))) (
 .chk (decide (([]:List Bc).length+[(a2.1,a2.2.1,r25.2.1.1,r25.2.1.2.1,r25.2.1.2.2.1,r25.2.1.2.2.2.1,r25.2.1.2.2.2.2.1,r25.2.1.2.2.2.2.2.1,r25.2.1.2.2.2.2.2.2.1,r25.2.1.2.2.2.2.2.2.2.1,r25.2.1.2.2.2.2.2.2.2.2.1,r25.2.1.2.2.2.2.2.2.2.2.2.1,r25.2.1.2.2.2.2.2.2.2.2.2.2.1,())].length<=4294967296)) <|
 .ob (Ie r25.1 r25.2.1) fun r26=>
 .chk (decide ([r7].length+[r26].length<=4294967296)) <|
 .leaf ((r1.1,r1.2.1,u10.1,r25.1.1,r25.1.2.1,r25.1.2.2.1,u39.1,u39.2.1,u39.2.2.1,u40.1,u40.2.1,u40.2.2.1,u40.2.2.2.1,u41.1,u41.2.1,u41.2.2.1,u41.2.2.2.1,u41.2.2.2.2.1,r24.1.1,r24.1.2.1,r24.1.2.2.1,u12.2.1,a1.1,u13.1,()),((([]:List Bc)++[(a2.1,a2.2.1,r25.2.1.1,r25.2.1.2.1,r25.2.1.2.2.1,r25.2.1.2.2.2.1,r25.2.1.2.2.2.2.1,r25.2.1.2.2.2.2.2.1,r25.2.1.2.2.2.2.2.2.1,r25.2.1.2.2.2.2.2.2.2.1,r25.2.1.2.2.2.2.2.2.2.2.1,r25.2.1.2.2.2.2.2.2.2.2.2.1,r25.2.1.2.2.2.2.2.2.2.2.2.2.1,())]),()),(([r7]++[r26]),()),(true,())))))))))))
def Lm (a0:Ak) (a1:YI) (a2:A6) (a3:Ar) (a4:YBs):Option (Ak×((List Bc)×Unit)×((List Ax)×Unit)×(Bool×Unit)):=(Xe a0 a1 a2 a3 a4).val
def Tz (a0:Bs) (a1:YI) (a2:A6) (a3:Ar):Tree (Bs×((List Bc)×Unit)×((List Ax)×Unit)):=
 letI u1:=a0.2.2;letI u2:=u1.2.2.2;.ob (Mr (u1.2.2.1,u2.1,()) (a3.2.2.2.1,())) fun r1=>
 .br (decide (r1.1<(0:Int))) (
 .leaf (a0,(([]:List Bc),()),(([]:List Ax),()))) (
 .ob (idx u2.1 r1.1) fun e2=>
 .br e2.2.2.2.2.2.2.2.2.2.2.2.2.2.2.2.2.2.2.2.2.2.2.2.1 (
 .leaf (a0,(([]:List Bc),()),(([]:List Ax),()))) (
 .ob (Ap1 (u1.1,u1.2.1,())) fun r3=>
 .ob (Ad1 a0 a2 ((51:Int),())) fun r4=>
 .br (!r4.1) (
 .ob (idx u2.1 r1.1) fun e5=>
 .ob (Lm e5 a1 a2 a3 (([]:List YB),())) fun r6=>
 .ob (I3 (u1.2.2.1,u2.1,()) r1 r6.1) fun r7=>
 .br r6.2.2.2.1 (
 .ob (Bk (a3.2.2.2.1,())) fun r8=>
 .ob (Bk (([]:List YB),())) fun r9=>
 .ob (N8 (([]:List YB),())) fun r10=>
 .chk (decide ([r10].length+r6.2.2.1.1.length<=4294967296)) <|
 .chk (decide (([r10]++r6.2.2.1.1).length+[((7:Int),(0:Int),(0:Int),([]:List YB),r8.1,(0:Int),(0:Int),r9.1,([]:List YB),a2.1,a2.2.1,a1.1,())].length<=4294967296)) <|
 .leaf ((a0.1,a0.2.1,r3.1.1,r3.1.2.1,r7.1.1,r7.1.2.1,u2.2.1,()),r6.2.1,((([r10]++r6.2.2.1.1)++[((7:Int),(0:Int),(0:Int),([]:List YB),r8.1,(0:Int),(0:Int),r9.1,([]:List YB),a2.1,a2.2.1,a1.1,())]),()))) (
 .leaf ((a0.1,a0.2.1,u1.1,u1.2.1,r7.1.1,r7.1.2.1,u2.2.1,()),r6.2.1,r6.2.2.1))) (
 .ob (idx u2.1 r1.1) fun e11=>
 .ob (Lm e11 a1 a2 a3 r3.2) fun r12=>
 .ob (I3 (u1.2.2.1,u2.1,()) r1 r12.1) fun r13=>
 .br r12.2.2.2.1 (
 .ob (Bk (a3.2.2.2.1,())) fun r14=>
 .ob (Bk r3.2) fun r15=>
 .ob (N8 r3.2) fun r16=>
 .chk (decide ([r16].length+r12.2.2.1.1.length<=4294967296)) <|
 .chk (decide (([r16]++r12.2.2.1.1).length+[((7:Int),(0:Int),(0:Int),([]:List YB),r14.1,(0:Int),(0:Int),r15.1,([]:List YB),a2.1,a2.2.1,a1.1,())].length<=4294967296)) <|
 .leaf ((a0.1,a0.2.1,r3.1.1,r3.1.2.1,r13.1.1,r13.1.2.1,u2.2.1,()),r12.2.1,((([r16]++r12.2.2.1.1)++[((7:Int),(0:Int),(0:Int),([]:List YB),r14.1,(0:Int),(0:Int),r15.1,([]:List YB),a2.1,a2.2.1,a1.1,())]),()))) (
 .leaf ((a0.1,a0.2.1,u1.1,u1.2.1,r13.1.1,r13.1.2.1,u2.2.1,()),r12.2.1,r12.2.2.1)))))
def T4 (a0:Bs) (a1:YI) (a2:A6) (a3:Ar):Option (Bs×((List Bc)×Unit)×((List Ax)×Unit)):=(Tz a0 a1 a2 a3).val
def Apn (a0:Ar):Tree (YI):=
 .ob (El a0) fun r1=>
 .leaf ((r1.1.length:Int),())
def Xs (a0:Ar):Option (YI):=(Apn a0).val
def Auo (a0:(List Am)×Unit) (a1:A6) (a2:YI):Tree (((List Am)×Unit)×(Bool×Unit)):=
 .ob (Mq a0) fun r1=>
 .ob (N7 a0 a1) fun r2=>
 .ob (Mh a0) fun r3=>
 .br (!r3.1) (
 .leaf (r1,(false,()))) (
 .br (decide (r2.1<(0:Int))) (
 .leaf (r1,(false,()))) (
 .ob (Kt a0 a1) fun r4=>
 .ob (Bg a2 ((0:Int),()) r4) fun r5=>
 .br (!r5.1) (
 .leaf (r1,(false,()))) (
 .ob (idx r1.1 r2.1) fun e6=>
 .ob (idx r1.1 r2.1) fun e7=>
 let q8:=(r1.1.set (r2.1).toNat (e7.1,e7.2.1,e7.2.2.1,(i64.wrap (e6.2.2.2.1+a2.1)),()))
 .leaf ((q8,()),(true,())))))
def Au1 (a0:(List Am)×Unit) (a1:A6) (a2:YI):Option (((List Am)×Unit)×(Bool×Unit)):=(Auo a0 a1 a2).val
def D5 (x7:(List Ax)×(List Bc)×(List Bc)×Int×Int×(List YBs)×(List YB)×(List YB)×Int×Int×(List Ak)×(List Am)×(List YBs)×(List YB)×(List YB)×Int×Int×(List Ak)×(List Am)×Unit):Option (((List Ax)×(List Bc)×(List Bc)×Int×Int×(List YBs)×(List YB)×(List YB)×Int×Int×(List Ak)×(List Am)×(List YBs)×(List YB)×(List YB)×Int×Int×(List Ak)×(List Am)×Unit)⊕(((List Ax)×(List Bc)×(List YBs)×(List YB)×(List YB)×Int×Int×(List Ak)×(List Am)×(List YBs)×(List YB)×(List YB)×Int×Int×(List Ak)×(List Am)×Unit))):=
 letI u1:=x7.2.2;letI u2:=u1.2.2;letI u3:=u2.2.2;letI u4:=u3.2.2;letI u5:=u4.2.2;letI u6:=u5.2.2;letI u7:=u6.2.2;letI u8:=u7.2.2;Tree.val <|
 .br (decide (u2.1<u1.2.1)) (
 .chk (Nat.beq (Int.toNat u2.1) (Int.toNat u2.1)) <|
 .ob (idx u1.1 u2.1) fun e8=>letI u9:=e8.2.2.2;letI u10:=u9.2.2.2;letI u11:=u10.2.2.2;
 .ob (Vr (u8.1,u8.2.1,()) (e8.1,e8.2.1,())) fun r9=>
 .br (!r9.1) (
 .ob (Xs (e8.2.2.1,u9.1,u9.2.1,u9.2.2.1,u10.1,u10.2.1,u10.2.2.1,u11.1,u11.2.1,u11.2.2.1,u11.2.2.2.1,())) fun r10=>
 .ob (Au1 (u8.2.2.1,()) (e8.1,e8.2.1,()) r10) fun r11=>
 .br (!r11.2.1) (
 .chk (Nat.ble (Int.toNat u2.1+1) (Int.toNat (i64.wrap (u2.1+(1:Int))))) <|
 .leaf (.inl (x7.1,x7.2.1,u1.1,u1.2.1,(i64.wrap (u2.1+(1:Int))),u2.2.1,u3.1,u3.2.1,u4.1,u4.2.1,u5.1,u5.2.1,u6.1,u6.2.1,u7.1,u7.2.1,u8.1,u8.2.1,u8.2.2.1,()))) (
 .chk (decide (x7.2.1.length+[e8].length<=4294967296)) <|
 .chk (Nat.ble (Int.toNat u2.1+1) (Int.toNat (i64.wrap (u2.1+(1:Int))))) <|
 .leaf (.inl (x7.1,(x7.2.1++[e8]),u1.1,u1.2.1,(i64.wrap (u2.1+(1:Int))),u2.2.1,u3.1,u3.2.1,u4.1,u4.2.1,u5.1,u5.2.1,u6.1,u6.2.1,u7.1,u7.2.1,u8.1,u8.2.1,r11.1.1,())))) (
 .chk (decide (x7.2.1.length+[e8].length<=4294967296)) <|
 .chk (Nat.ble (Int.toNat u2.1+1) (Int.toNat (i64.wrap (u2.1+(1:Int))))) <|
 .leaf (.inl (x7.1,(x7.2.1++[e8]),u1.1,u1.2.1,(i64.wrap (u2.1+(1:Int))),u2.2.1,u3.1,u3.2.1,u4.1,u4.2.1,u5.1,u5.2.1,u6.1,u6.2.1,u7.1,u7.2.1,u8.1,u8.2.1,u8.2.2.1,())))) (
 .leaf (.inr (x7.1,x7.2.1,u2.2.1,u3.1,u3.2.1,u4.1,u4.2.1,u5.1,u5.2.1,u6.1,u6.2.1,u7.1,u7.2.1,u8.1,u8.2.1,u8.2.2.1,())))
def Ta (a0:Bs) (a1:YI) (a2:A6) (a3:YBs):Tree (Bs×((List Bc)×Unit)×((List Ax)×Unit)):=
 .ob (Zz a0) fun r1=>letI u1:=r1.2.2;letI u2:=u1.2.2;
 .ob (Rv a0) fun r2=>
 .br (!r2.1) (
 .leaf (r1,(([]:List Bc),()),(([]:List Ax),()))) (
 .ob (Bg a1 ((0:Int),()) ((1000000:Int),())) fun r3=>
 .br (!r3.1) (
 .leaf (r1,(([]:List Bc),()),(([]:List Ax),()))) (
 .ob (Fu a2) fun r4=>
 .br (!r4.1) (
 .leaf (r1,(([]:List Bc),()),(([]:List Ax),()))) (
 .ob (A0o (a0.2.2.2.2.2.2.1,()) a2 ((a3.1.length:Int),())) fun r5=>
 .ob (Rw a3) fun r6=>
 .br (!r6.2.1) (
 .ob (Ay D5 (([]:List Ax),([]:List Bc),([]:List Bc),(([]:List Bc).length:Int),(0:Int),([]:List YBs),([]:List YB),([]:List YB),(0:Int),(0:Int),([]:List Ak),([]:List Am),r1.1,r1.2.1,u1.1,u1.2.1,u2.1,u2.2.1,r5.1,())) fun o12=>letI u3:=o12.2.2.2.2.2.2.2.2.2;letI u4:=u3.2.2.2;
 .leaf ((u3.1,u3.2.1,u3.2.2.1,u4.1,u4.2.1,u4.2.2.1,u4.2.2.2.1,()),(o12.2.1,()),(o12.1,()))) (
 .br (r6.1.1==(1:Int)) (
 .ob (Agu (r1.1,r1.2.1,u1.1,u1.2.1,u2.1,u2.2.1,r5.1,()) a1 a2 r6.1) fun r13=>letI u5:=r13.1.2.2.2;
 .ob (Ay D5 (r13.2.2.1,([]:List Bc),r13.2.1.1,(r13.2.1.1.length:Int),(0:Int),([]:List YBs),([]:List YB),([]:List YB),(0:Int),(0:Int),([]:List Ak),([]:List Am),r13.1.1,r13.1.2.1,r13.1.2.2.1,u5.1,u5.2.1,u5.2.2.1,u5.2.2.2.1,())) fun o14=>letI u6:=o14.2.2.2.2.2.2.2.2.2;letI u7:=u6.2.2.2;
 .leaf ((u6.1,u6.2.1,u6.2.2.1,u7.1,u7.2.1,u7.2.2.1,u7.2.2.2.1,()),(o14.2.1,()),(o14.1,()))) (
 .br (r6.1.1==(3:Int)) (
 .ob (Z2 (r1.1,r1.2.1,u1.1,u1.2.1,u2.1,u2.2.1,r5.1,()) a1 a2 r6.1) fun r15=>letI u8:=r15.1.2.2.2;
 .ob (Ay D5 (r15.2.2.1,([]:List Bc),r15.2.1.1,(r15.2.1.1.length:Int),(0:Int),([]:List YBs),([]:List YB),([]:List YB),(0:Int),(0:Int),([]:List Ak),([]:List Am),r15.1.1,r15.1.2.1,r15.1.2.2.1,u8.1,u8.2.1,u8.2.2.1,u8.2.2.2.1,())) fun o16=>letI u9:=o16.2.2.2.2.2.2.2.2.2;letI u10:=u9.2.2.2;
 .leaf ((u9.1,u9.2.1,u9.2.2.1,u10.1,u10.2.1,u10.2.2.1,u10.2.2.2.1,()),(o16.2.1,()),(o16.1,()))) (
 .ob (Ms (r6.1.1,())) fun r17=>
 .br r17.1 (
 .ob (T4 (r1.1,r1.2.1,u1.1,u1.2.1,u2.1,u2.2.1,r5.1,()) a1 a2 r6.1) fun r18=>letI u11:=r18.1.2.2.2;
 .ob (Ay D5 (r18.2.2.1,([]:List Bc),r18.2.1.1,(r18.2.1.1.length:Int),(0:Int),([]:List YBs),([]:List YB),([]:List YB),(0:Int),(0:Int),([]:List Ak),([]:List Am),r18.1.1,r18.1.2.1,r18.1.2.2.1,u11.1,u11.2.1,u11.2.2.1,u11.2.2.2.1,())) fun o19=>letI u12:=o19.2.2.2.2.2.2.2.2.2;letI u13:=u12.2.2.2;
 .leaf ((u12.1,u12.2.1,u12.2.2.1,u13.1,u13.2.1,u13.2.2.1,u13.2.2.2.1,()),(o19.2.1,()),(o19.1,()))) (
 .ob (Ay D5 (([]:List Ax),([]:List Bc),([]:List Bc),(([]:List Bc).length:Int),(0:Int),([]:List YBs),([]:List YB),([]:List YB),(0:Int),(0:Int),([]:List Ak),([]:List Am),r1.1,r1.2.1,u1.1,u1.2.1,u2.1,u2.2.1,r5.1,())) fun o20=>letI u14:=o20.2.2.2.2.2.2.2.2.2;letI u15:=u14.2.2.2;
 .leaf ((u14.1,u14.2.1,u14.2.2.1,u15.1,u15.2.1,u15.2.2.1,u15.2.2.2.1,()),(o20.2.1,()),(o20.1,())))))))))
def Z6 (a0:Bs) (a1:YI) (a2:A6) (a3:YBs):Option (Bs×((List Bc)×Unit)×((List Ax)×Unit)):=(Ta a0 a1 a2 a3).val
def N5 (x1:(List Bc)×Int×Unit):Option (((List Bc)×Int×Unit)⊕((Bool×Unit)⊕(Unit))):=
 Tree.val <|
 .br (decide (x1.2.1<(x1.1.length:Int))) (
 .ob (idx x1.1 x1.2.1) fun e2=>letI u1:=e2.2.2.2;letI u2:=u1.2.2.2;letI u3:=u2.2.2.2;
 .ob (Db (e2.2.2.1,u1.1,u1.2.1,u1.2.2.1,u2.1,u2.2.1,u2.2.2.1,u3.1,u3.2.1,u3.2.2.1,u3.2.2.2.1,())) fun r3=>
 .br (!r3.1) (
 .leaf (.inr (.inl (false,())))) (
 .ob (idx x1.1 x1.2.1) fun e4=>
 .ob (Fu (e4.1,e4.2.1,())) fun r5=>
 .br (!r5.1) (
 .leaf (.inr (.inl (false,())))) (
 .leaf (.inl (x1.1,(i64.wrap (x1.2.1+(1:Int))),()))))) (
 .leaf (.inr (.inr ())))
def Apo (a0:(List Bc)×Unit):Tree ((Bool×Unit)):=
 .ob (Ay N5 (a0.1,(0:Int),())) fun o6=>
 .sm o6 (fun o7=>
 .leaf o7) (fun o8=>
 .leaf (true,()))
def Aqa (a0:(List Bc)×Unit):Option ((Bool×Unit)):=(Apo a0).val
def Ake (a0:YBs) (a1:YI):Tree ((Bool×Unit)):=
 .br ((a0.1.length:Int)==(0:Int)) (
 .leaf (true,())) (
 .leaf (((a0.1.length:Int)==a1.1),()))
def Uu (a0:YBs) (a1:YI):Option ((Bool×Unit)):=(Ake a0 a1).val
def App (a0:Ax):Tree ((Bool×Unit)):=
 letI u1:=a0.2.2.2;letI u2:=u1.2.2.2.2.2;.ob (Bg (a0.1,()) ((1:Int),()) ((17:Int),())) fun r1=>
 .br r1.1 (
 .ob (Bg (a0.2.1,()) ((0:Int),()) ((9:Int),())) fun r2=>
 .br r2.1 (
 .ob (Bg (a0.2.2.1,()) ((0:Int),()) ((1:Int),())) fun r3=>
 .br r3.1 (
 .ob (Bg (u1.2.2.1,()) ((0:Int),()) ((4294967295:Int),())) fun r4=>
 .br r4.1 (
 .ob (Bg (u1.2.2.2.1,()) ((0:Int),()) ((281474976710655:Int),())) fun r5=>
 .br r5.1 (
 .ob (Bg (u2.2.2.2.1,()) ((0:Int),()) ((1000000:Int),())) fun r6=>
 .br r6.1 (
 .ob (Uu (u1.1,()) ((12:Int),())) fun r7=>
 .br r7.1 (
 .ob (Uu (u1.2.1,()) ((12:Int),())) fun r8=>
 .br r8.1 (
 .br (decide ((a0.2.2.2.2.2.2.2.1.length:Int)<=(100:Int))) (
 .ob (Uu (u2.1,()) ((32:Int),())) fun r9=>
 .br r9.1 (
 .ob (Fu (u2.2.1,u2.2.2.1,())) fun r10=>
 .leaf r10) (
 .leaf (false,()))) (
 .leaf (false,()))) (
 .leaf (false,()))) (
 .leaf (false,()))) (
 .leaf (false,()))) (
 .leaf (false,()))) (
 .leaf (false,()))) (
 .leaf (false,()))) (
 .leaf (false,()))) (
 .leaf (false,()))
def Aqb (a0:Ax):Option ((Bool×Unit)):=(App a0).val
def Mb (x1:(List Ax)×Int×Unit):Option (((List Ax)×Int×Unit)⊕((Bool×Unit)⊕(Unit))):=
 Tree.val <|
 .br (decide (x1.2.1<(x1.1.length:Int))) (
 .ob (idx x1.1 x1.2.1) fun e2=>
 .ob (Aqb e2) fun r3=>
 .br (!r3.1) (
 .leaf (.inr (.inl (false,())))) (
 .leaf (.inl (x1.1,(i64.wrap (x1.2.1+(1:Int))),())))) (
 .leaf (.inr (.inr ())))
def Akf (a0:(List Ax)×Unit):Tree ((Bool×Unit)):=
 .ob (Ay Mb (a0.1,(0:Int),())) fun o4=>
 .sm o4 (fun o5=>
 .leaf o5) (fun o6=>
 .leaf (true,()))
def Akq (a0:(List Ax)×Unit):Option ((Bool×Unit)):=(Akf a0).val
def Ho (x8:(List Bc)×Int×Int×Int×Int×(List YBs)×(List YB)×(List YB)×Int×Int×(List Ak)×(List Am)×(List YBs)×(List YB)×(List YB)×Int×Int×(List Ak)×(List Am)×Unit):Option (((List Bc)×Int×Int×Int×Int×(List YBs)×(List YB)×(List YB)×Int×Int×(List Ak)×(List Am)×(List YBs)×(List YB)×(List YB)×Int×Int×(List Ak)×(List Am)×Unit)⊕((Int×Int×Int×(List YBs)×(List YB)×(List YB)×Int×Int×(List Ak)×(List Am)×(List YBs)×(List YB)×(List YB)×Int×Int×(List Ak)×(List Am)×Unit))):=
 letI u1:=x8.2.2;letI u2:=u1.2.2;letI u3:=u2.2.2;letI u4:=u3.2.2;letI u5:=u4.2.2;letI u6:=u5.2.2;letI u7:=u6.2.2;letI u8:=u7.2.2;Tree.val <|
 .br (decide (u2.1<(x8.1.length:Int))) (
 .ob (idx x8.1 u2.1) fun e9=>
 .ob (Vr (u8.1,u8.2.1,()) (e9.1,e9.2.1,())) fun r10=>
 .br (!r10.1) (
 .ob (idx x8.1 u2.1) fun e11=>letI u9:=e11.2.2.2;letI u10:=u9.2.2.2;letI u11:=u10.2.2.2;
 .ob (Xs (e11.2.2.1,u9.1,u9.2.1,u9.2.2.1,u10.1,u10.2.1,u10.2.2.1,u11.1,u11.2.1,u11.2.2.1,u11.2.2.2.1,())) fun r12=>
 .leaf (.inl (x8.1,(i64.wrap (x8.2.1+r12.1)),u1.1,u1.2.1,(i64.wrap (u2.1+(1:Int))),u2.2.1,u3.1,u3.2.1,u4.1,u4.2.1,u5.1,u5.2.1,u6.1,u6.2.1,u7.1,u7.2.1,u8.1,u8.2.1,u8.2.2.1,()))) (
 .leaf (.inl (x8.1,x8.2.1,u1.1,u1.2.1,(i64.wrap (u2.1+(1:Int))),u2.2.1,u3.1,u3.2.1,u4.1,u4.2.1,u5.1,u5.2.1,u6.1,u6.2.1,u7.1,u7.2.1,u8.1,u8.2.1,u8.2.2.1,())))) (
 .leaf (.inr (x8.2.1,u1.1,u1.2.1,u2.2.1,u3.1,u3.2.1,u4.1,u4.2.1,u5.1,u5.2.1,u6.1,u6.2.1,u7.1,u7.2.1,u8.1,u8.2.1,u8.2.2.1,())))
def Hp (x14:Int×Int×Int×Int×(List YBs)×(List YB)×(List YB)×Int×Int×(List Ak)×(List Am)×(List YBs)×(List YB)×(List YB)×Int×Int×(List Ak)×(List Am)×Unit):Option ((Int×Int×Int×Int×(List YBs)×(List YB)×(List YB)×Int×Int×(List Ak)×(List Am)×(List YBs)×(List YB)×(List YB)×Int×Int×(List Ak)×(List Am)×Unit)⊕((Int×Int×Int×(List YBs)×(List YB)×(List YB)×Int×Int×(List Ak)×(List Am)×Unit))):=
 letI u1:=x14.2.2.2;letI u2:=u1.2.2.2;letI u3:=u2.2.2.2.2;letI u4:=u3.2.2;letI u5:=u4.2.2.2;Tree.val <|
 .br (decide (u1.1<(x14.2.2.2.2.2.2.2.2.2.2.1.length:Int))) (
 .ob (idx u3.1 u1.1) fun e15=>
 .leaf (.inl (x14.1,(i64.wrap (x14.2.1+e15.2.2.2.1)),x14.2.2.1,(i64.wrap (u1.1+(1:Int))),u1.2.1,u1.2.2.1,u2.1,u2.2.1,u2.2.2.1,u2.2.2.2.1,u3.1,u3.2.1,u4.1,u4.2.1,u4.2.2.1,u5.1,u5.2.1,u5.2.2.1,()))) (
 .leaf (.inr (x14.1,x14.2.1,x14.2.2.1,u3.2.1,u4.1,u4.2.1,u4.2.2.1,u5.1,u5.2.1,u5.2.2.1,())))
def Hq (x17:Int×Int×Int×Int×(List YBs)×(List YB)×(List YB)×Int×Int×(List Ak)×(List Am)×Unit):Option ((Int×Int×Int×Int×(List YBs)×(List YB)×(List YB)×Int×Int×(List Ak)×(List Am)×Unit)⊕((Bool×Unit)⊕(Int×Int×Int×Unit))):=
 letI u1:=x17.2.2.2;letI u2:=u1.2.2.2;letI u3:=u2.2.2.2;Tree.val <|
 .br (decide (u1.1<(x17.2.2.2.2.2.2.2.2.2.2.1.length:Int))) (
 .ob (idx u3.2.1 u1.1) fun e18=>
 .ob (idx u3.2.1 u1.1) fun e19=>
 .ob (idx u3.2.1 u1.1) fun e20=>
 .br (decide (e19.2.2.2.1>(i64.wrap ((3:Int)*e20.2.2.1)))) (
 .leaf (.inr (.inl (false,())))) (
 .leaf (.inl (x17.1,x17.2.1,(i64.wrap (x17.2.2.1+e18.2.2.2.1)),(i64.wrap (u1.1+(1:Int))),u1.2.1,u1.2.2.1,u2.1,u2.2.1,u2.2.2.1,u3.1,u3.2.1,())))) (
 .leaf (.inr (.inr (x17.1,x17.2.1,x17.2.2.1,()))))
def Md (a0:YBs):Tree ((Bool×Unit)):=
 .ob (Bg4 a0) fun r1=>
 .br r1.1 (
 .leaf (true,())) (
 .ob (K8 a0) fun r2=>letI u1:=r2.1.2.2.2;
 .ob (Z6 r2.1 r2.2.1 r2.2.2.1 r2.2.2.2) fun r3=>letI u2:=r3.1.2.2.2;
 .ob (Rv r2.1) fun r4=>
 .br (!r4.1) (
 .leaf (false,())) (
 .ob (Rv r3.1) fun r5=>
 .br (!r5.1) (
 .leaf (false,())) (
 .ob (Aqa r3.2.1) fun r6=>
 .br (!r6.1) (
 .leaf (false,())) (
 .ob (Akq r3.2.2) fun r7=>
 .br (!r7.1) (
 .leaf (false,())) (
 .ob (Ay Ho (r3.2.1.1,(0:Int),(0:Int),(0:Int),(0:Int),r2.1.1,r2.1.2.1,r2.1.2.2.1,u1.1,u1.2.1,u1.2.2.1,u1.2.2.2.1,r3.1.1,r3.1.2.1,r3.1.2.2.1,u2.1,u2.2.1,u2.2.2.1,u2.2.2.2.1,())) fun o13=>letI u3:=o13.2.2.2;letI u4:=u3.2.2.2;letI u5:=u4.2.2.2;letI u6:=u5.2.2.2;
 .ob (Ay Hp (o13.1,o13.2.1,o13.2.2.1,(0:Int),u3.1,u3.2.1,u3.2.2.1,u4.1,u4.2.1,u4.2.2.1,u5.1,u5.2.1,u5.2.2.1,u6.1,u6.2.1,u6.2.2.1,u6.2.2.2.1,u6.2.2.2.2.1,())) fun o16=>letI u7:=o16.2.2.2;letI u8:=u7.2.2.2;
 .ob (Ay Hq (o16.1,o16.2.1,o16.2.2.1,(0:Int),u7.1,u7.2.1,u7.2.2.1,u8.1,u8.2.1,u8.2.2.1,u8.2.2.2.1,())) fun o21=>
 .sm o21 (fun o22=>
 .leaf o22) (fun o23=>
 .leaf ((o23.2.2.1==(i64.wrap (o23.2.1+o23.1))),())))))))
def Ash (a0:YBs):Option ((Bool×Unit)):=(Md a0).val
def Bb4 (a0:Ak):Tree (Ak):=
 .ob (Pb a0) fun r1=>
 .br (!r1.1) (
 .ob (Jb a0) fun r2=>
 .leaf r2) (
 .ob (Bk (a0.2.1,())) fun r3=>
 .ob (Bk (a0.2.2.1,())) fun r4=>
 .leaf (a0.1,r3.1,r4.1,(0:Int),([]:List YB),(0:Int),([]:List YB),(0:Int),(0:Int),([]:List YI),(0:Int),([]:List YB),(0:Int),(0:Int),([]:List YI),false,(0:Int),([]:List YB),(0:Int),(0:Int),([]:List A8),a0.2.2.2.2.2.2.2.2.2.2.2.2.2.2.2.2.2.2.2.2.2.1,(0:Int),true,()))
def Bb5 (a0:Ak):Option (Ak):=(Bb4 a0).val
def A3g (a0:YI):Tree (Cj):=
 .ob (Bg a0 ((1:Int),()) ((6:Int),())) fun r1=>
 .br (!r1.1) (
 .leaf ((0:Int),([]:List Ak),())) (
 .leaf (a0.1,([]:List Ak),()))
def A3h (a0:YI):Option (Cj):=(A3g a0).val
def Ad6 (x1:Int×Int×(List Ak)×Int×Int×Unit):Option ((Int×Int×(List Ak)×Int×Int×Unit)⊕((Bool×Unit)⊕(Unit))):=
 letI u1:=x1.2.2;Tree.val <|
 .br (decide (x1.1<(x1.2.2.1.length:Int))) (
 .ob (idx u1.1 x1.1) fun e2=>
 .br (!e2.2.2.2.2.2.2.2.2.2.2.2.2.2.2.2.2.2.2.2.2.2.2.2.1) (
 .ob (idx u1.1 x1.1) fun e3=>letI u2:=e3.2.2.2.2.2.2.2.2.2.2.2.2.2.2.2.2.2.2;
 .br (and (u2.1==u1.2.1) (and (u2.2.1==u1.2.2.1) true)) (
 .leaf (.inr (.inl (true,())))) (
 .leaf (.inl ((i64.wrap (x1.1+(1:Int))),x1.2.1,u1.1,u1.2.1,u1.2.2.1,())))) (
 .leaf (.inl ((i64.wrap (x1.1+(1:Int))),x1.2.1,u1.1,u1.2.1,u1.2.2.1,())))) (
 .leaf (.inr (.inr ())))
def Bb6 (a0:Cj) (a1:A6):Tree ((Bool×Unit)):=
 .ob (Ay Ad6 ((0:Int),a0.1,a0.2.1,a1.1,a1.2.1,())) fun o4=>
 .sm o4 (fun o5=>
 .leaf o5) (fun o6=>
 .leaf (false,()))
def Bb7 (a0:Cj) (a1:A6):Option ((Bool×Unit)):=(Bb6 a0 a1).val
def Bb8 (a0:YBs) (a1:YBs):Tree (Ax):=
 .chk (decide (([]:List YB).length+a0.1.length<=4294967296)) <|
 .chk (decide (([]:List YB).length+a1.1.length<=4294967296)) <|
 .leaf ((15:Int),(0:Int),(0:Int),([]:List YB),([]:List YB),(0:Int),(0:Int),(([]:List YB)++a1.1),(([]:List YB)++a0.1),(0:Int),(0:Int),(0:Int),())
def A0q (a0:YBs) (a1:YBs):Option (Ax):=(Bb8 a0 a1).val
def Ad7 (x1:(List YB)×(List YB)×Int×Int×Unit):Option (((List YB)×(List YB)×Int×Int×Unit)⊕(YI)):=
 letI u1:=x1.2.2;Tree.val <|
 .br (decide (u1.2.1<(x1.1.length:Int))) (
 .ob (idx x1.1 u1.2.1) fun e2=>
 .ob (idx x1.2.1 u1.2.1) fun e3=>
 .leaf (.inl (x1.1,x1.2.1,(i64.wrap ((BitVec.ofInt (i64.bits) (u1.1) ||| BitVec.ofInt (i64.bits) ((i64.wrap ((u8.wrap ((BitVec.ofInt (u8.bits) (e2.1) ^^^ BitVec.ofInt (u8.bits) (e3.1)).toNat:Nat)))))).toNat:Nat)),(i64.wrap (u1.2.1+(1:Int))),()))) (
 .leaf (.inr (u1.1,())))
def Bb9 (a0:YBs) (a1:YBs):Tree (YI):=
 .br ((a0.1.length:Int) != (a1.1.length:Int)) (
 .leaf ((-1:Int),())) (
 .ob (Ay Ad7 (a0.1,a1.1,(0:Int),(0:Int),())) fun o4=>
 .leaf o4)
def A0r (a0:YBs) (a1:YBs):Option (YI):=(Bb9 a0 a1).val
def Ayx (a0:YBs) (a1:YBs):Tree ((Bool×Unit)):=
 .br ((a0.1.length:Int)==(16:Int)) (
 .ob (A0r a0 a1) fun r1=>
 .leaf ((r1.1==(0:Int)),())) (
 .leaf (false,()))
def Akr (a0:YBs) (a1:YBs):Option ((Bool×Unit)):=(Ayx a0 a1).val
def Bca (a0:YBs) (a1:YBs) (a2:YBs):Tree (Ax):=
 .chk (decide (([]:List YB).length+a0.1.length<=4294967296)) <|
 .chk (decide (([]:List YB).length+a1.1.length<=4294967296)) <|
 .chk (decide (([]:List YB).length+a2.1.length<=4294967296)) <|
 .leaf ((16:Int),(0:Int),(0:Int),([]:List YB),(([]:List YB)++a1.1),(0:Int),(0:Int),(([]:List YB)++a2.1),(([]:List YB)++a0.1),(0:Int),(0:Int),(0:Int),())
def A0s (a0:YBs) (a1:YBs) (a2:YBs):Option (Ax):=(Bca a0 a1 a2).val
def A3i (a0:YEp) (a1:YI) (a2:YBs) (a3:YI) (a4:YBs):Tree (YEp×Ar×YI):=
 letI u1:=a0.2.2;.ob (Td a0) fun r1=>letI u2:=r1.2.2.2;
 .ob (Vp a0) fun r2=>
 .br (!r2.1) (
 .leaf (r1,((0:Int),(0:Int),([]:List YB),([]:List YB),(0:Int),([]:List YB),([]:List YB),(0:Int),(0:Int),([]:List YB),([]:List YB),()),((1:Int),()))) (
 .ob (Te a1 a2 (a0.1,()) ((0:Int),())) fun r3=>
 .br ((r3.1.length:Int)==(0:Int)) (
 .leaf (r1,((0:Int),(0:Int),([]:List YB),([]:List YB),(0:Int),([]:List YB),([]:List YB),(0:Int),(0:Int),([]:List YB),([]:List YB),()),((1:Int),()))) (
 .ob (O8 a3) fun r4=>
 .br (!r4.1) (
 .leaf (r1,((0:Int),(0:Int),([]:List YB),([]:List YB),(0:Int),([]:List YB),([]:List YB),(0:Int),(0:Int),([]:List YB),([]:List YB),()),((1:Int),()))) (
 .ob (Xg a3 ((a4.1.length:Int),())) fun r5=>
 .br (!r5.1) (
 .leaf (r1,((0:Int),(0:Int),([]:List YB),([]:List YB),(0:Int),([]:List YB),([]:List YB),(0:Int),(0:Int),([]:List YB),([]:List YB),()),((1:Int),()))) (
 .br (a3.1==(4:Int)) (
 .br (decide (u1.1≥(281474976709656:Int))) (
 .leaf (r1,((0:Int),(0:Int),([]:List YB),([]:List YB),(0:Int),([]:List YB),([]:List YB),(0:Int),(0:Int),([]:List YB),([]:List YB),()),((4:Int),()))) (
 .br (u1.1==(281474976710656:Int)) (
 .leaf (r1,((0:Int),(0:Int),([]:List YB),([]:List YB),(0:Int),([]:List YB),([]:List YB),(0:Int),(0:Int),([]:List YB),([]:List YB),()),((5:Int),()))) (
 .ob (B0 (a0.2.1,()) a1 a2 (a0.1,()) (u1.1,()) a3 a4) fun r6=>
 .leaf ((r1.1,r1.2.1,(i64.wrap (u1.1+(1:Int))),u2.1,u2.2.1,()),r6.1,((0:Int),()))))) (
 .br (u1.1==(281474976710656:Int)) (
 .leaf (r1,((0:Int),(0:Int),([]:List YB),([]:List YB),(0:Int),([]:List YB),([]:List YB),(0:Int),(0:Int),([]:List YB),([]:List YB),()),((5:Int),()))) (
 .ob (B0 (a0.2.1,()) a1 a2 (a0.1,()) (u1.1,()) a3 a4) fun r7=>
 .leaf ((r1.1,r1.2.1,(i64.wrap (u1.1+(1:Int))),u2.1,u2.2.1,()),r7.1,((0:Int),()))))))))
def Aqc (a0:YEp) (a1:YI) (a2:YBs) (a3:YI) (a4:YBs):Option (YEp×Ar×YI):=(A3i a0 a1 a2 a3 a4).val
def Au2 (a0:Ap) (a1:YI) (a2:YBs):Tree (Ap×Ar×YI):=
 letI u1:=a0.2.2.2;.ob (I2 a0) fun r1=>letI u2:=r1.2.2.2.2.2.2.2;letI u3:=u2.2.2.2;
 .ob (Kg a0) fun r2=>
 .br (!r2.1) (
 .leaf (r1,((0:Int),(0:Int),([]:List YB),([]:List YB),(0:Int),([]:List YB),([]:List YB),(0:Int),(0:Int),([]:List YB),([]:List YB),()),((1:Int),()))) (
 .ob (Aqc (a0.2.2.1,u1.1,u1.2.1,u1.2.2.1,u1.2.2.2.1,()) (a0.1,()) (a0.2.1,()) a1 a2) fun r3=>
 .br (r3.2.2.1==(0:Int)) (
 .leaf ((r1.1,r1.2.1,r3.1.1,r3.1.2.1,r3.1.2.2.1,r3.1.2.2.2.1,r3.1.2.2.2.2.1,u2.1,u2.2.1,u2.2.2.1,u3.1,u3.2.1,u3.2.2.1,u3.2.2.2.1,u3.2.2.2.2.1,()),r3.2.1,r3.2.2)) (
 .leaf (r1,r3.2.1,r3.2.2)))
def Dq (a0:Ap) (a1:YI) (a2:YBs):Option (Ap×Ar×YI):=(Au2 a0 a1 a2).val
def Bg6 (a0:Ap):Tree (Ap×Ar×YI):=
 .ob (Kg a0) fun r1=>
 .br (!r1.1) (
 .ob (I2 a0) fun r2=>
 .leaf (r2,((0:Int),(0:Int),([]:List YB),([]:List YB),(0:Int),([]:List YB),([]:List YB),(0:Int),(0:Int),([]:List YB),([]:List YB),()),((6:Int),()))) (
 .br (a0.1 != (1:Int)) (
 .ob (I2 a0) fun r3=>
 .leaf (r3,((0:Int),(0:Int),([]:List YB),([]:List YB),(0:Int),([]:List YB),([]:List YB),(0:Int),(0:Int),([]:List YB),([]:List YB),()),((6:Int),()))) (
 .ob (Fd (a0.2.2.1,())) fun r4=>
 .ob (Dq a0 ((8:Int),()) r4) fun r5=>
 .leaf (r5.1,r5.2.1,r5.2.2)))
def Ama (a0:Ap):Option (Ap×Ar×YI):=(Bg6 a0).val
def Ayy (a0:Ap) (a1:Ar):Tree (Ax):=
 .ob (Lk (a0.1,()) a1) fun r1=>
 .ob (A0q (a0.2.2.2.1,()) r1) fun r2=>
 .leaf r2
def Hg (a0:Ap) (a1:Ar):Option (Ax):=(Ayy a0 a1).val
def Ayz (a0:Ak):Tree (Ak×((List Bc)×Unit)×((List Ax)×Unit)):=
 letI u1:=a0.2.2.2;letI u2:=u1.2.2;letI u3:=u2.2.2.2;letI u4:=u3.2.2.2;letI u5:=u4.2.2.2;letI u6:=u5.2.2.2;.ob (Nf a0) fun r1=>letI u7:=r1.2.2.2.2.2.2.2.2.2.2.2.2.2.2.2.2.2.2;
 .ob (O7 a0) fun r2=>
 .br (!r2.1) (
 .leaf (r1,(([]:List Bc),()),(([]:List Ax),()))) (
 .br u6.2.2.2.2.2.2.1 (
 .leaf (r1,(([]:List Bc),()),(([]:List Ax),()))) (
 .br (u2.1 != (0:Int)) (
 .leaf (r1,(([]:List Bc),()),(([]:List Ax),()))) (
 .ob (Ama (u1.1,u1.2.1,u2.1,u2.2.1,u2.2.2.1,u3.1,u3.2.1,u3.2.2.1,u4.1,u4.2.1,u4.2.2.1,u5.1,u5.2.1,u5.2.2.1,u6.1,())) fun r3=>letI u8:=r3.1.2.2.2;letI u9:=u8.2.2.2;letI u10:=u9.2.2.2.2;
 .br (r3.2.2.1 != (0:Int)) (
 .leaf (r1,(([]:List Bc),()),(([]:List Ax),()))) (
 .ob (Hg r3.1 r3.2.1) fun r4=>
 .leaf ((r1.1,r1.2.1,r1.2.2.1,r3.1.1,r3.1.2.1,r3.1.2.2.1,u8.1,u8.2.1,u8.2.2.1,u9.1,u9.2.1,u9.2.2.1,u9.2.2.2.1,u10.1,u10.2.1,u10.2.2.1,u10.2.2.2.1,u10.2.2.2.2.1,u7.1,u7.2.1,u7.2.2.1,u7.2.2.2.1,u7.2.2.2.2.1,u7.2.2.2.2.2.1,()),([(u6.2.1,u6.2.2.1,r3.2.1.1,r3.2.1.2.1,r3.2.1.2.2.1,r3.2.1.2.2.2.1,r3.2.1.2.2.2.2.1,r3.2.1.2.2.2.2.2.1,r3.2.1.2.2.2.2.2.2.1,r3.2.1.2.2.2.2.2.2.2.1,r3.2.1.2.2.2.2.2.2.2.2.1,r3.2.1.2.2.2.2.2.2.2.2.2.1,r3.2.1.2.2.2.2.2.2.2.2.2.2.1,())],()),([r4],()))))))
def Ay0 (a0:Ak):Option (Ak×((List Bc)×Unit)×((List Ax)×Unit)):=(Ayz a0).val
def A3j (a0:YBs) (a1:YI) (a2:Ar):Tree (YBs×(Bool×Unit)):=
 letI u1:=a2.2.2.2.2.2.2.2;.ob (Lk a1 a2) fun r1=>
 .br ((a0.1.length:Int) != (32:Int)) (
 .leaf ((([]:List YB),()),(false,()))) (
 .br ((r1.1.length:Int)==(0:Int)) (
 .leaf ((([]:List YB),()),(false,()))) (
 .ob (Aej a0 r1) fun r2=>
 .ob (Akr (u1.2.2.2.1,()) r2) fun r3=>
 .br (!r3.1) (
 .leaf ((([]:List YB),()),(false,()))) (
 .ob (Te a1 (a2.2.2.2.1,()) (u1.1,()) (u1.2.1,())) fun r4=>
 .ob (Awl a0 r4 (u1.2.2.1,())) fun r5=>
 .leaf (r5,(true,())))))
def Aqd (a0:YBs) (a1:YI) (a2:Ar):Option (YBs×(Bool×Unit)):=(A3j a0 a1 a2).val
def A3k (a0:YEp) (a1:YI) (a2:Ar):Tree (YEp×YBs×YI):=
 letI u1:=a0.2.2.2;letI u2:=a2.2.2.2.2.2.2.2;.ob (Td a0) fun r1=>
 .ob (Vp a0) fun r2=>
 .br (!r2.1) (
 .leaf (r1,(([]:List YB),()),((1:Int),()))) (
 .ob (Lk a1 a2) fun r3=>
 .br ((r3.1.length:Int)==(0:Int)) (
 .leaf (r1,(([]:List YB),()),((1:Int),()))) (
 .br (u2.1 != a0.1) (
 .leaf (r1,(([]:List YB),()),((1:Int),()))) (
 .ob (Adz (u1.1,u1.2.1,()) (u2.2.1,())) fun r4=>
 .br (!r4.1) (
 .leaf (r1,(([]:List YB),()),((3:Int),()))) (
 .ob (Aqd (a0.2.1,()) a1 a2) fun r5=>
 .br (!r5.2.1) (
 .leaf (r1,(([]:List YB),()),((2:Int),()))) (
 .ob (Xi (u1.1,u1.2.1,()) (u2.2.1,())) fun r6=>
 .leaf ((r1.1,r1.2.1,r1.2.2.1,r6.1.1,r6.1.2.1,()),r5.1,((0:Int),())))))))
def Mv (a0:YEp) (a1:YI) (a2:Ar):Option (YEp×YBs×YI):=(A3k a0 a1 a2).val
def Agy (a0:Ap) (a1:YI) (a2:Ar):Tree (Ap×YBs×YI):=
 letI u1:=a0.2.2;letI u2:=u1.2.2;letI u3:=u2.2.2.2;letI u4:=u3.2.2;letI u5:=u4.2.2;letI u6:=u5.2.2;letI u7:=a2.2.2.2.2.2.2.2;.ob (I2 a0) fun r1=>letI u8:=r1.2.2;letI u9:=u8.2.2;letI u10:=u9.2.2;letI u11:=u10.2.2;letI u12:=u11.2.2;letI u13:=u12.2.2;letI u14:=u13.2.2;
 .ob (Kg a0) fun r2=>
 .br (!r2.1) (
 .leaf (r1,(([]:List YB),()),((1:Int),()))) (
 .ob (Bt a1 ((0:Int),()) ((1000000:Int),())) fun r3=>
 .br (!r3.1) (
 .leaf (r1,(([]:List YB),()),((1:Int),()))) (
 .ob (Nd a2) fun r4=>
 .br (!r4.1) (
 .leaf (r1,(([]:List YB),()),((1:Int),()))) (
 .ob (O8 (a2.1,())) fun r5=>
 .br (!r5.1) (
 .leaf (r1,(([]:List YB),()),((1:Int),()))) (
 .ob (Tc (a2.2.2.2.1,()) (a0.2.1,())) fun r6=>
 .br (!r6.1) (
 .leaf (r1,(([]:List YB),()),((8:Int),()))) (
 .br (u7.1==u1.1) (
 .ob (Mv (u1.1,u1.2.1,u2.1,u2.2.1,u2.2.2.1,()) ((i64.wrap ((1:Int)-a0.1)),()) a2) fun r7=>letI u15:=r7.1.2.2;
 .br (r7.2.2.1 != (0:Int)) (
 .leaf (r1,(([]:List YB),()),r7.2.2)) (
 .br u5.2.1 (
 .br (u6.1==(-1:Int)) (
 .leaf ((r1.1,r1.2.1,r7.1.1,r7.1.2.1,u15.1,u15.2.1,u15.2.2.1,u10.2.1,u11.1,u11.2.1,u12.1,u12.2.1,u13.1,(i64.wrap (a1.1+(5:Int))),u14.1,()),r7.2.1,((0:Int),()))) (
 .leaf ((r1.1,r1.2.1,r7.1.1,r7.1.2.1,u15.1,u15.2.1,u15.2.2.1,u10.2.1,u11.1,u11.2.1,u12.1,u12.2.1,u13.1,u13.2.1,u14.1,()),r7.2.1,((0:Int),())))) (
 .leaf ((r1.1,r1.2.1,r7.1.1,r7.1.2.1,u15.1,u15.2.1,u15.2.2.1,u10.2.1,u11.1,u11.2.1,u12.1,u12.2.1,u13.1,u13.2.1,u14.1,()),r7.2.1,((0:Int),()))))) (
 .br u5.2.1 (
 .br (u7.1==u3.1) (
 .br (u6.1 != (-1:Int)) (
 .br (decide (a1.1>u6.1)) (
 .leaf (r1,(([]:List YB),()),((9:Int),()))) (
 .ob (Mv (u3.1,u3.2.1,u4.1,u4.2.1,u5.1,()) ((i64.wrap ((1:Int)-a0.1)),()) a2) fun r8=>
 .br (r8.2.2.1 != (0:Int)) (
 .leaf (r1,(([]:List YB),()),r8.2.2)) (
 .leaf ((r1.1,r1.2.1,u8.1,u8.2.1,u9.1,u9.2.1,u10.1,r8.1.1,r8.1.2.1,r8.1.2.2.1,r8.1.2.2.2.1,r8.1.2.2.2.2.1,u13.1,u13.2.1,u14.1,()),r8.2.1,((0:Int),()))))) (
 .ob (Mv (u3.1,u3.2.1,u4.1,u4.2.1,u5.1,()) ((i64.wrap ((1:Int)-a0.1)),()) a2) fun r9=>
 .br (r9.2.2.1 != (0:Int)) (
 .leaf (r1,(([]:List YB),()),r9.2.2)) (
 .leaf ((r1.1,r1.2.1,u8.1,u8.2.1,u9.1,u9.2.1,u10.1,r9.1.1,r9.1.2.1,r9.1.2.2.1,r9.1.2.2.2.1,r9.1.2.2.2.2.1,u13.1,u13.2.1,u14.1,()),r9.2.1,((0:Int),()))))) (
 .br (decide ((a0.2.2.2.2.2.2.2.2.2.2.2.2.2.2.1.length:Int)>(0:Int))) (
 .br (u7.1==(i64.wrap (u1.1+(1:Int)))) (
 .ob (Fm ((i64.wrap (u1.1+(1:Int))),()) (u6.2.1,())) fun r10=>
 .ob (Mv r10 ((i64.wrap ((1:Int)-a0.1)),()) a2) fun r11=>
 .br (r11.2.2.1 != (0:Int)) (
 .leaf (r1,(([]:List YB),()),r11.2.2)) (
 .leaf ((r1.1,r1.2.1,r11.1.1,r11.1.2.1,r11.1.2.2.1,r11.1.2.2.2.1,r11.1.2.2.2.2.1,u8.1,u8.2.1,u9.1,u9.2.1,u10.1,true,(i64.wrap (a1.1+(5:Int))),([]:List YB),()),r11.2.1,((0:Int),())))) (
 .leaf (r1,(([]:List YB),()),((8:Int),())))) (
 .leaf (r1,(([]:List YB),()),((8:Int),()))))) (
 .br (decide ((a0.2.2.2.2.2.2.2.2.2.2.2.2.2.2.1.length:Int)>(0:Int))) (
 .br (u7.1==(i64.wrap (u1.1+(1:Int)))) (
 .ob (Fm ((i64.wrap (u1.1+(1:Int))),()) (u6.2.1,())) fun r12=>
 .ob (Mv r12 ((i64.wrap ((1:Int)-a0.1)),()) a2) fun r13=>
 .br (r13.2.2.1 != (0:Int)) (
 .leaf (r1,(([]:List YB),()),r13.2.2)) (
 .leaf ((r1.1,r1.2.1,r13.1.1,r13.1.2.1,r13.1.2.2.1,r13.1.2.2.2.1,r13.1.2.2.2.2.1,u8.1,u8.2.1,u9.1,u9.2.1,u10.1,true,(i64.wrap (a1.1+(5:Int))),([]:List YB),()),r13.2.1,((0:Int),())))) (
 .leaf (r1,(([]:List YB),()),((8:Int),())))) (
 .leaf (r1,(([]:List YB),()),((8:Int),()))))))))))
def Ln (a0:Ap) (a1:YI) (a2:Ar):Option (Ap×YBs×YI):=(Agy a0 a1 a2).val
def A3l (a0:Ap) (a1:YI):Tree (YBs×(Bool×Unit)):=
 letI u1:=a0.2.2;letI u2:=u1.2.2.2.2.2;letI u3:=u2.2.2.2.2.2;.ob (Kg a0) fun r1=>
 .br (!r1.1) (
 .leaf ((([]:List YB),()),(false,()))) (
 .br u3.1 (
 .br (a1.1==u2.1) (
 .chk (decide (([]:List YB).length+a0.2.2.2.2.2.2.2.2.1.length<=4294967296)) <|
 .leaf (((([]:List YB)++u2.2.1),()),(true,()))) (
 .br (a1.1==u1.1) (
 .chk (decide (([]:List YB).length+a0.2.2.2.1.length<=4294967296)) <|
 .leaf (((([]:List YB)++u1.2.1),()),(true,()))) (
 .br (decide ((a0.2.2.2.2.2.2.2.2.2.2.2.2.2.2.1.length:Int)>(0:Int))) (
 .br (a1.1==(i64.wrap (u1.1+(1:Int)))) (
 .chk (decide (([]:List YB).length+a0.2.2.2.2.2.2.2.2.2.2.2.2.2.2.1.length<=4294967296)) <|
 .leaf (((([]:List YB)++u3.2.2.1),()),(true,()))) (
 .leaf ((([]:List YB),()),(false,())))) (
 .leaf ((([]:List YB),()),(false,())))))) (
 .br (a1.1==u1.1) (
 .chk (decide (([]:List YB).length+a0.2.2.2.1.length<=4294967296)) <|
 .leaf (((([]:List YB)++u1.2.1),()),(true,()))) (
 .br (decide ((a0.2.2.2.2.2.2.2.2.2.2.2.2.2.2.1.length:Int)>(0:Int))) (
 .br (a1.1==(i64.wrap (u1.1+(1:Int)))) (
 .chk (decide (([]:List YB).length+a0.2.2.2.2.2.2.2.2.2.2.2.2.2.2.1.length<=4294967296)) <|
 .leaf (((([]:List YB)++u3.2.2.1),()),(true,()))) (
 .leaf ((([]:List YB),()),(false,())))) (
 .leaf ((([]:List YB),()),(false,()))))))
def Ad8 (a0:Ap) (a1:YI):Option (YBs×(Bool×Unit)):=(A3l a0 a1).val
def R0 (x2:Int×Int×Int×(List A8)×Int×Int×Int×Int×(List YB)×Int×Unit):Option ((Int×Int×Int×(List A8)×Int×Int×Int×Int×(List YB)×Int×Unit)⊕((Bool×Int×Int×(List YB)×Int×Unit)⊕A8)):=
 letI u1:=x2.2.2.2;letI u2:=u1.2.2;letI u3:=u2.2.2;Tree.val <|
 .br (decide (x2.1<(x2.2.2.2.1.length:Int))) (
 .ob (idx u1.1 x2.1) fun e3=>
 .br (and (e3.1==u1.2.1) (and (e3.2.1==u2.1) true)) (
 .ob (idx u1.1 x2.1) fun e4=>
 .ob (Qm e4) fun r5=>
 .leaf (.inr (.inl (true,r5.1,r5.2.1,r5.2.2.1,r5.2.2.2.1,())))) (
 .leaf (.inl ((i64.wrap (x2.1+(1:Int))),x2.2.1,x2.2.2.1,u1.1,u1.2.1,u2.1,u2.2.1,u3.1,u3.2.1,u3.2.2.1,())))) (
 .leaf (.inr (.inr (u2.2.1,u3.1,u3.2.1,u3.2.2.1,()))))
def A3m (a0:Bn) (a1:A6):Tree (A8×(Bool×Unit)):=
 .ob (Ql a0) fun r1=>
 .br (!r1.1) (
 .leaf (((0:Int),(0:Int),([]:List YB),(0:Int),()),(false,()))) (
 .ob (Ay R0 ((0:Int),a0.1,a0.2.1,a0.2.2.1,a1.1,a1.2.1,(0:Int),(0:Int),([]:List YB),(0:Int),())) fun o6=>
 .sm o6 (fun o7=>
 .leaf ((o7.2.1,o7.2.2.1,o7.2.2.2.1,o7.2.2.2.2.1,()),(o7.1,()))) (fun o8=>
 .leaf (((0:Int),(0:Int),([]:List YB),(0:Int),()),(false,()))))
def A3n (a0:Bn) (a1:A6):Option (A8×(Bool×Unit)):=(A3m a0 a1).val
def R7 (x8:Int×Int×Int×(List A8)×Int×Int×Int×Int×(List A8)×Int×Int×(List A8)×Unit):Option ((Int×Int×Int×(List A8)×Int×Int×Int×Int×(List A8)×Int×Int×(List A8)×Unit)⊕((Int×Int×(List A8)×Int×Int×(List A8)×Unit))):=
 letI u1:=x8.2.2.2;letI u2:=u1.2.2;letI u3:=u2.2.2;letI u4:=u3.2.2;Tree.val <|
 .br (decide (x8.1<(x8.2.2.2.1.length:Int))) (
 .ob (idx u1.1 x8.1) fun e9=>
 .br (!(and (e9.1==u1.2.1) (and (e9.2.1==u2.1) true))) (
 .ob (idx u1.1 x8.1) fun e10=>
 .ob (Qm e10) fun r11=>
 .chk (decide (x8.2.2.2.2.2.2.2.2.2.2.2.1.length+[r11].length<=4294967296)) <|
 .leaf (.inl ((i64.wrap (x8.1+(1:Int))),x8.2.1,x8.2.2.1,u1.1,u1.2.1,u2.1,u2.2.1,u3.1,u3.2.1,u4.1,u4.2.1,(u4.2.2.1++[r11]),()))) (
 .leaf (.inl ((i64.wrap (x8.1+(1:Int))),x8.2.1,x8.2.2.1,u1.1,u1.2.1,u2.1,u2.2.1,u3.1,u3.2.1,u4.1,u4.2.1,u4.2.2.1,())))) (
 .leaf (.inr (u2.2.1,u3.1,u3.2.1,u4.1,u4.2.1,u4.2.2.1,())))
def A3o (a0:Bn) (a1:YI) (a2:A6) (a3:YBs):Tree (Bn×(Bool×Unit)):=
 .ob (A3n a0 a2) fun r1=>
 .br (!r1.2.1) (
 .ob (Ed a0) fun r2=>
 .leaf (r2,(false,()))) (
 .ob (Bt a1 ((0:Int),()) ((1000000:Int),())) fun r3=>
 .br (!r3.1) (
 .ob (Ed a0) fun r4=>
 .leaf (r4,(false,()))) (
 .ob (Tc (r1.1.2.2.1,()) a3) fun r5=>
 .br (!r5.1) (
 .ob (Ed a0) fun r6=>
 .leaf (r6,(false,()))) (
 .br (decide (a1.1>r1.1.2.2.2.1)) (
 .ob (Ed a0) fun r7=>
 .leaf (r7,(false,()))) (
 .ob (Ay R7 ((0:Int),a0.1,a0.2.1,a0.2.2.1,a2.1,a2.2.1,(0:Int),(0:Int),([]:List A8),a2.1,a2.2.1,([]:List A8),())) fun o12=>
 .leaf ((o12.2.2.2.1,o12.2.2.2.2.1,o12.2.2.2.2.2.1,()),(true,()))))))
def Ad9 (a0:Bn) (a1:YI) (a2:A6) (a3:YBs):Option (Bn×(Bool×Unit)):=(A3o a0 a1 a2 a3).val
def Bcb (a0:Ap):Tree (Ap×(Bool×Unit)):=
 .ob (I2 a0) fun r1=>letI u1:=r1.2.2.2;
 .ob (Kg a0) fun r2=>
 .br (!r2.1) (
 .leaf (r1,(false,()))) (
 .br (a0.1 != (1:Int)) (
 .leaf (r1,(false,()))) (
 .br (a0.2.2.1==(4294967295:Int)) (
 .leaf (r1,(false,()))) (
 .ob (Dp (a0.2.2.2.1,()) ((Da [114,101,107,101,121]),())) fun r3=>
 .ob (Fm ((i64.wrap (a0.2.2.1+(1:Int))),()) r3) fun r4=>
 .leaf ((r1.1,r1.2.1,r4.1,r4.2.1,r4.2.2.1,r4.2.2.2.1,r4.2.2.2.2.1,r1.2.2.1,u1.1,u1.2.1,u1.2.2.1,u1.2.2.2.1,true,(-1:Int),u1.2.2.2.2.2.2.2.2.2.2.2.1,()),(true,())))))
def A0t (a0:Ap):Option (Ap×(Bool×Unit)):=(Bcb a0).val
def Asi (a0:Ap) (a1:YI) (a2:YBs):Tree (Ap×YI):=
 .ob (I2 a0) fun r1=>
 .ob (Kg a0) fun r2=>
 .br (!r2.1) (
 .leaf (r1,((6:Int),()))) (
 .br (a0.1 != (1:Int)) (
 .leaf (r1,((6:Int),()))) (
 .ob (Bt a1 ((0:Int),()) ((4294967294:Int),())) fun r3=>
 .br (!r3.1) (
 .leaf (r1,((6:Int),()))) (
 .ob (Fd ((i64.wrap (a1.1+(1:Int))),())) fun r4=>
 .ob (Tc a2 r4) fun r5=>
 .br (!r5.1) (
 .leaf (r1,((6:Int),()))) (
 .br (a1.1==a0.2.2.1) (
 .ob (A0t a0) fun r6=>
 .br (!r6.2.1) (
 .leaf (r1,((6:Int),()))) (
 .leaf (r6.1,((0:Int),())))) (
 .br (a1.1==(i64.wrap (a0.2.2.1-(1:Int)))) (
 .leaf (r1,((0:Int),()))) (
 .leaf (r1,((6:Int),()))))))))
def Vh (a0:Ap) (a1:YI) (a2:YBs):Option (Ap×YI):=(Asi a0 a1 a2).val
def Amb (r7:Ax) (r17:Ax) (r1:Ak) (r16:Ap×Ar×YI) (r15:Bn×(Bool×Unit)) (a1:YI) (a2:A6):Tree (Ak×((List Bc)×Unit)×((List Ax)×Unit)×(Bool×Unit)):=
 letI u1:=r1.2.2.2.2.2.2.2.2.2.2.2.2.2.2.2.2.2.2.2.2.2;letI u2:=r16.1.2.2.2;letI u3:=u2.2.2.2;letI u4:=u3.2.2.2.2;.chk (decide ((([]:List Ax)++[r7]).length+[r17].length<=4294967296)) <|
 .leaf ((r1.1,r1.2.1,r1.2.2.1,r16.1.1,r16.1.2.1,r16.1.2.2.1,u2.1,u2.2.1,u2.2.2.1,u3.1,u3.2.1,u3.2.2.1,u3.2.2.2.1,u4.1,u4.2.1,u4.2.2.1,u4.2.2.2.1,u4.2.2.2.2.1,r15.1.1,r15.1.2.1,r15.1.2.2.1,u1.1,a1.1,u1.2.2.1,()),((([]:List Bc)++[(a2.1,a2.2.1,r16.2.1.1,r16.2.1.2.1,r16.2.1.2.2.1,r16.2.1.2.2.2.1,r16.2.1.2.2.2.2.1,r16.2.1.2.2.2.2.2.1,r16.2.1.2.2.2.2.2.2.1,r16.2.1.2.2.2.2.2.2.2.1,r16.2.1.2.2.2.2.2.2.2.2.1,r16.2.1.2.2.2.2.2.2.2.2.2.1,r16.2.1.2.2.2.2.2.2.2.2.2.2.1,())]),()),(((([]:List Ax)++[r7])++[r17]),()),(true,()))
def Amc (r16:Ap×Ar×YI) (r7:Ax) (r1:Ak) (r15:Bn×(Bool×Unit)) (a1:YI) (a2:A6):Tree (Ak×((List Bc)×Unit)×((List Ax)×Unit)×(Bool×Unit)):=
 .ob (Hg r16.1 r16.2.1) fun r17=>
 Amb r7 r17 r1 r16 r15 a1 a2
def Z7 (a2:A6) (r16:Ap×Ar×YI) (r7:Ax) (r1:Ak) (r15:Bn×(Bool×Unit)) (a1:YI):Tree (Ak×((List Bc)×Unit)×((List Ax)×Unit)×(Bool×Unit)):=
 .chk (decide (([]:List Bc).length+[(a2.1,a2.2.1,r16.2.1.1,r16.2.1.2.1,r16.2.1.2.2.1,r16.2.1.2.2.2.1,r16.2.1.2.2.2.2.1,r16.2.1.2.2.2.2.2.1,r16.2.1.2.2.2.2.2.2.1,r16.2.1.2.2.2.2.2.2.2.1,r16.2.1.2.2.2.2.2.2.2.2.1,r16.2.1.2.2.2.2.2.2.2.2.2.1,r16.2.1.2.2.2.2.2.2.2.2.2.2.1,())].length<=4294967296)) <|
 Amc r16 r7 r1 r15 a1 a2
def Amd (r16:Ap×Ar×YI) (r1:Ak) (r4:Ap×YBs×YI) (a1:YI) (r7:Ax) (a2:A6) (r15:Bn×(Bool×Unit)):Tree (Ak×((List Bc)×Unit)×((List Ax)×Unit)×(Bool×Unit)):=
 letI u1:=r1.2.2.2.2.2.2.2.2.2.2.2.2.2.2.2.2.2.2;letI u2:=r4.1.2.2.2;letI u3:=u2.2.2.2;letI u4:=u3.2.2.2.2;.br (r16.2.2.1 != (0:Int)) (
 .leaf ((r1.1,r1.2.1,r1.2.2.1,r4.1.1,r4.1.2.1,r4.1.2.2.1,u2.1,u2.2.1,u2.2.2.1,u3.1,u3.2.1,u3.2.2.1,u3.2.2.2.1,u4.1,u4.2.1,u4.2.2.1,u4.2.2.2.1,u4.2.2.2.2.1,u1.1,u1.2.1,u1.2.2.1,u1.2.2.2.1,a1.1,u1.2.2.2.2.2.1,()),(([]:List Bc),()),((([]:List Ax)++[r7]),()),(false,()))) (
 Z7 a2 r16 r7 r1 r15 a1)
def Ame (r15:Bn×(Bool×Unit)) (r1:Ak) (r4:Ap×YBs×YI) (a1:YI) (r7:Ax) (r16:Ap×Ar×YI) (a2:A6):Tree (Ak×((List Bc)×Unit)×((List Ax)×Unit)×(Bool×Unit)):=
 letI u1:=r1.2.2.2.2.2.2.2.2.2.2.2.2.2.2.2.2.2.2;letI u2:=r4.1.2.2.2;letI u3:=u2.2.2.2;letI u4:=u3.2.2.2.2;.br (!r15.2.1) (
 .leaf ((r1.1,r1.2.1,r1.2.2.1,r4.1.1,r4.1.2.1,r4.1.2.2.1,u2.1,u2.2.1,u2.2.2.1,u3.1,u3.2.1,u3.2.2.1,u3.2.2.2.1,u4.1,u4.2.1,u4.2.2.1,u4.2.2.2.1,u4.2.2.2.2.1,u1.1,u1.2.1,u1.2.2.1,u1.2.2.2.1,a1.1,u1.2.2.2.2.2.1,()),(([]:List Bc),()),((([]:List Ax)++[r7]),()),(false,()))) (
 Amd r16 r1 r4 a1 r7 a2 r15)
def Amf (r4:Ap×YBs×YI) (a4:YBs) (r15:Bn×(Bool×Unit)) (r1:Ak) (a1:YI) (r7:Ax) (a2:A6):Tree (Ak×((List Bc)×Unit)×((List Ax)×Unit)×(Bool×Unit)):=
 .ob (Dq r4.1 ((5:Int),()) a4) fun r16=>
 Ame r15 r1 r4 a1 r7 r16 a2
def Ti (r1:Ak) (a1:YI) (a2:A6) (a4:YBs) (r4:Ap×YBs×YI) (r7:Ax):Tree (Ak×((List Bc)×Unit)×((List Ax)×Unit)×(Bool×Unit)):=
 letI u1:=r1.2.2.2.2.2.2.2.2.2.2.2.2.2.2.2.2.2.2;.ob (Eo (u1.1,u1.2.1,u1.2.2.1,()) a1 a2 a4) fun r15=>
 Amf r4 a4 r15 r1 a1 r7 a2
def Au3 (a0:Ak) (a1:YI) (a2:A6) (a3:Ar) (a4:YBs):Tree (Ak×((List Bc)×Unit)×((List Ax)×Unit)×(Bool×Unit)):=
 letI u1:=a0.2.2;letI u2:=u1.2.2;letI u3:=u2.2.2;letI u4:=u3.2.2;letI u5:=u4.2.2;letI u6:=u5.2.2;letI u7:=u6.2.2;letI u8:=u7.2.2;letI u9:=a3.2.2.2.2.2.2.2;.ob (Nf a0) fun r1=>letI u10:=r1.2.2;letI u11:=u10.2.2.2.2.2.2.2.2.2.2.2.2.2.2.2.2;letI u12:=u11.2.2;letI u13:=u12.2.2.2;
 .ob (O7 a0) fun r2=>
 .br (!r2.1) (
 .leaf (r1,(([]:List Bc),()),(([]:List Ax),()),(false,()))) (
 .br u8.2.2.2.2.2.2.2.1 (
 .leaf (r1,(([]:List Bc),()),(([]:List Ax),()),(false,()))) (
 .ob (Hl a2) fun r3=>
 .br (!r3.1) (
 .leaf (r1,(([]:List Bc),()),(([]:List Ax),()),(false,()))) (
 .ob (Ln (u1.2.1,u2.1,u2.2.1,u3.1,u3.2.1,u4.1,u4.2.1,u5.1,u5.2.1,u6.1,u6.2.1,u7.1,u7.2.1,u8.1,u8.2.1,()) a1 a3) fun r4=>letI u14:=r4.1.2.2;letI u15:=u14.2.2;letI u16:=u15.2.2;letI u17:=u16.2.2;letI u18:=u17.2.2;letI u19:=u18.2.2;
 .br (r4.2.2.1 != (0:Int)) (
 .leaf (r1,(([]:List Bc),()),(([]:List Ax),()),(false,()))) (
 .ob (Ad8 (u1.2.1,u2.1,u2.2.1,u3.1,u3.2.1,u4.1,u4.2.1,u5.1,u5.2.1,u6.1,u6.2.1,u7.1,u7.2.1,u8.1,u8.2.1,()) (u9.1,())) fun r5=>
 .ob (Lk ((0:Int),()) a3) fun r6=>
 .ob (A0s r5.1 (u1.1,()) r6) fun r7=>
 .chk (decide (([]:List Ax).length+[r7].length<=4294967296)) <|
 .br (a3.1==(4:Int)) (
 .chk (decide (([]:List YB).length+a0.2.2.1.length<=4294967296)) <|
 .chk (decide (([]:List YB).length+r4.2.1.1.length<=4294967296)) <|
 .chk (decide ((([]:List Ax)++[r7]).length+[((6:Int),(0:Int),(0:Int),([]:List YB),(([]:List YB)++u1.1),u9.1,u9.2.1,(([]:List YB)++r4.2.1.1),([]:List YB),(0:Int),(0:Int),a1.1,())].length<=4294967296)) <|
 .ob (Eo (u11.1,u11.2.1,u12.1,()) a1 a2 a4) fun r8=>
 .ob (Dq r4.1 ((5:Int),()) a4) fun r9=>letI u20:=r9.1.2.2.2;letI u21:=u20.2.2.2;letI u22:=u21.2.2.2.2;
 .br (!r8.2.1) (
 .leaf ((r1.1,r1.2.1,u10.1,r4.1.1,r4.1.2.1,u14.1,u14.2.1,u15.1,u15.2.1,u16.1,u16.2.1,u17.1,u17.2.1,u18.1,u18.2.1,u19.1,u19.2.1,u19.2.2.1,u11.1,u11.2.1,u12.1,u12.2.1,a1.1,u13.1,()),(([]:List Bc),()),(((([]:List Ax)++[r7])++[((6:Int),(0:Int),(0:Int),([]:List YB),(([]:List YB)++u1.1),u9.1,u9.2.1,(([]:List YB)++r4.2.1.1),([]:List YB),(0:Int),(0:Int),a1.1,())]),()),(false,()))) (
 .br (r9.2.2.1 != (0:Int)) (
 .leaf ((r1.1,r1.2.1,u10.1,r4.1.1,r4.1.2.1,u14.1,u14.2.1,u15.1,u15.2.1,u16.1,u16.2.1,u17.1,u17.2.1,u18.1,u18.2.1,u19.1,u19.2.1,u19.2.2.1,u11.1,u11.2.1,u12.1,u12.2.1,a1.1,u13.1,()),(([]:List Bc),()),(((([]:List Ax)++[r7])++[((6:Int),(0:Int),(0:Int),([]:List YB),(([]:List YB)++u1.1),u9.1,u9.2.1,(([]:List YB)++r4.2.1.1),([]:List YB),(0:Int),(0:Int),a1.1,())]),()),(false,()))) (
 .chk (decide (([]:List Bc).length+[(a2.1,a2.2.1,r9.2.1.1,r9.2.1.2.1,r9.2.1.2.2.1,r9.2.1.2.2.2.1,r9.2.1.2.2.2.2.1,r9.2.1.2.2.2.2.2.1,r9.2.1.2.2.2.2.2.2.1,r9.2.1.2.2.2.2.2.2.2.1,r9.2.1.2.2.2.2.2.2.2.2.1,r9.2.1.2.2.2.2.2.2.2.2.2.1,r9.2.1.2.2.2.2.2.2.2.2.2.2.1,())].length<=4294967296)) <|
 .ob (Hg r9.1 r9.2.1) fun r10=>
 .chk (decide (((([]:List Ax)++[r7])++[((6:Int),(0:Int),(0:Int),([]:List YB),(([]:List YB)++u1.1),u9.1,u9.2.1,(([]:List YB)++r4.2.1.1),([]:List YB),(0:Int),(0:Int),a1.1,())]).length+[r10].length<=4294967296)) <|
 .leaf ((r1.1,r1.2.1,u10.1,r9.1.1,r9.1.2.1,r9.1.2.2.1,u20.1,u20.2.1,u20.2.2.1,u21.1,u21.2.1,u21.2.2.1,u21.2.2.2.1,u22.1,u22.2.1,u22.2.2.1,u22.2.2.2.1,u22.2.2.2.2.1,r8.1.1,r8.1.2.1,r8.1.2.2.1,u12.2.1,a1.1,u13.1,()),((([]:List Bc)++[(a2.1,a2.2.1,r9.2.1.1,r9.2.1.2.1,r9.2.1.2.2.1,r9.2.1.2.2.2.1,r9.2.1.2.2.2.2.1,r9.2.1.2.2.2.2.2.1,r9.2.1.2.2.2.2.2.2.1,r9.2.1.2.2.2.2.2.2.2.1,r9.2.1.2.2.2.2.2.2.2.2.1,r9.2.1.2.2.2.2.2.2.2.2.2.1,r9.2.1.2.2.2.2.2.2.2.2.2.2.1,())]),()),((((([]:List Ax)++[r7])++[((6:Int),(0:Int),(0:Int),([]:List YB),(([]:List YB)++u1.1),u9.1,u9.2.1,(([]:List YB)++r4.2.1.1),([]:List YB),(0:Int),(0:Int),a1.1,())])++[r10]),()),(true,()))))) (
 .br (a3.1==(6:Int)) (
 .ob (Ad9 (u11.1,u11.2.1,u12.1,()) a1 a2 r4.2.1) fun r11=>
 .br r11.2.1 (
 .chk (decide (([]:List YB).length+a0.2.2.1.length<=4294967296)) <|
 .chk (decide (([]:List YB).length+r4.2.1.1.length<=4294967296)) <|
 .chk (decide ((([]:List Ax)++[r7]).length+[((9:Int),(0:Int),(0:Int),([]:List YB),(([]:List YB)++u1.1),(0:Int),(0:Int),(([]:List YB)++r4.2.1.1),([]:List YB),a2.1,a2.2.1,a1.1,())].length<=4294967296)) <|
 .ob (Eo r11.1 a1 a2 a4) fun r12=>
 .ob (Dq r4.1 ((5:Int),()) a4) fun r13=>letI u23:=r13.1.2.2.2;letI u24:=u23.2.2.2;letI u25:=u24.2.2.2.2;
 .br (!r12.2.1) (
 .leaf ((r1.1,r1.2.1,u10.1,r4.1.1,r4.1.2.1,u14.1,u14.2.1,u15.1,u15.2.1,u16.1,u16.2.1,u17.1,u17.2.1,u18.1,u18.2.1,u19.1,u19.2.1,u19.2.2.1,r11.1.1,r11.1.2.1,r11.1.2.2.1,u12.2.1,a1.1,u13.1,()),(([]:List Bc),()),(((([]:List Ax)++[r7])++[((9:Int),(0:Int),(0:Int),([]:List YB),(([]:List YB)++u1.1),(0:Int),(0:Int),(([]:List YB)++r4.2.1.1),([]:List YB),a2.1,a2.2.1,a1.1,())]),()),(false,()))) (
 .br (r13.2.2.1 != (0:Int)) (
 .leaf ((r1.1,r1.2.1,u10.1,r4.1.1,r4.1.2.1,u14.1,u14.2.1,u15.1,u15.2.1,u16.1,u16.2.1,u17.1,u17.2.1,u18.1,u18.2.1,u19.1,u19.2.1,u19.2.2.1,r11.1.1,r11.1.2.1,r11.1.2.2.1,u12.2.1,a1.1,u13.1,()),(([]:List Bc),()),(((([]:List Ax)++[r7])++[((9:Int),(0:Int),(0:Int),([]:List YB),(([]:List YB)++u1.1),(0:Int),(0:Int),(([]:List YB)++r4.2.1.1),([]:List YB),a2.1,a2.2.1,a1.1,())]),()),(false,()))) (
 .chk (decide (([]:List Bc).length+[(a2.1,a2.2.1,r13.2.1.1,r13.2.1.2.1,r13.2.1.2.2.1,r13.2.1.2.2.2.1,r13.2.1.2.2.2.2.1,r13.2.1.2.2.2.2.2.1,r13.2.1.2.2.2.2.2.2.1,r13.2.1.2.2.2.2.2.2.2.1,r13.2.1.2.2.2.2.2.2.2.2.1,r13.2.1.2.2.2.2.2.2.2.2.2.1,r13.2.1.2.2.2.2.2.2.2.2.2.2.1,())].length<=4294967296)) <|
 .ob (Hg r13.1 r13.2.1) fun r14=>
 .chk (decide (((([]:List Ax)++[r7])++[((9:Int),(0:Int),(0:Int),([]:List YB),(([]:List YB)++u1.1),(0:Int),(0:Int),(([]:List YB)++r4.2.1.1),([]:List YB),a2.1,a2.2.1,a1.1,())]).length+[r14].length<=4294967296)) <|
 .leaf ((r1.1,r1.2.1,u10.1,r13.1.1,r13.1.2.1,r13.1.2.2.1,u23.1,u23.2.1,u23.2.2.1,u24.1,u24.2.1,u24.2.2.1,u24.2.2.2.1,u25.1,u25.2.1,u25.2.2.1,u25.2.2.2.1,u25.2.2.2.2.1,r12.1.1,r12.1.2.1,r12.1.2.2.1,u12.2.1,a1.1,u13.1,()),((([]:List Bc)++[(a2.1,a2.2.1,r13.2.1.1,r13.2.1.2.1,r13.2.1.2.2.1,r13.2.1.2.2.2.1,r13.2.1.2.2.2.2.1,r13.2.1.2.2.2.2.2.1,r13.2.1.2.2.2.2.2.2.1,r13.2.1.2.2.2.2.2.2.2.1,r13.2.1.2.2.2.2.2.2.2.2.1,r13.2.1.2.2.2.2.2.2.2.2.2.1,r13.2.1.2.2.2.2.2.2.2.2.2.2.1,())]),()),((((([]:List Ax)++[r7])++[((9:Int),(0:Int),(0:Int),([]:List YB),(([]:List YB)++u1.1),(0:Int),(0:Int),(([]:List YB)++r4.2.1.1),([]:List YB),a2.1,a2.2.1,a1.1,())])++[r14]),()),(true,()))))) (
 Ti r1 a1 a2 a4 r4 r7)) (
 .br (a3.1==(7:Int)) (
 .ob (Vh r4.1 (u9.1,()) r4.2.1) fun r18=>letI u26:=r18.1.2.2;letI u27:=u26.2.2;letI u28:=u27.2.2;letI u29:=u28.2.2;letI u30:=u29.2.2;letI u31:=u30.2.2;
 .br (r18.2.1==(0:Int)) (
 .br (u26.1 != u14.1) (
 .chk (decide (([]:List YB).length+a0.2.2.1.length<=4294967296)) <|
 .chk (decide (([]:List YB).length+r18.1.2.2.2.1.length<=4294967296)) <|
 .chk (decide ((([]:List Ax)++[r7]).length+[((10:Int),(0:Int),(1:Int),([]:List YB),(([]:List YB)++u1.1),u26.1,(0:Int),([]:List YB),(([]:List YB)++u26.2.1),(0:Int),(0:Int),(0:Int),())].length<=4294967296)) <|
 .ob (Ama r18.1) fun r19=>letI u32:=r19.1.2.2;letI u33:=u32.2.2;letI u34:=u33.2.2;letI u35:=u34.2.2;letI u36:=u35.2.2;letI u37:=u36.2.2;
 .br (r19.2.2.1==(0:Int)) (
 .chk (decide (([]:List Bc).length+[(u11.1,u11.2.1,r19.2.1.1,r19.2.1.2.1,r19.2.1.2.2.1,r19.2.1.2.2.2.1,r19.2.1.2.2.2.2.1,r19.2.1.2.2.2.2.2.1,r19.2.1.2.2.2.2.2.2.1,r19.2.1.2.2.2.2.2.2.2.1,r19.2.1.2.2.2.2.2.2.2.2.1,r19.2.1.2.2.2.2.2.2.2.2.2.1,r19.2.1.2.2.2.2.2.2.2.2.2.2.1,())].length<=4294967296)) <|
 .ob (Hg r19.1 r19.2.1) fun r20=>
 .chk (decide (((([]:List Ax)++[r7])++[((10:Int),(0:Int),(1:Int),([]:List YB),(([]:List YB)++u1.1),u26.1,(0:Int),([]:List YB),(([]:List YB)++u26.2.1),(0:Int),(0:Int),(0:Int),())]).length+[r20].length<=4294967296)) <|
 .ob (Eo (u11.1,u11.2.1,u12.1,()) a1 a2 a4) fun r21=>
 .ob (Dq r19.1 ((5:Int),()) a4) fun r22=>letI u38:=r22.1.2.2.2;letI u39:=u38.2.2.2;letI u40:=u39.2.2.2.2;
 .br (!r21.2.1) (
 .leaf ((r1.1,r1.2.1,u10.1,r19.1.1,r19.1.2.1,u32.1,u32.2.1,u33.1,u33.2.1,u34.1,u34.2.1,u35.1,u35.2.1,u36.1,u36.2.1,u37.1,u37.2.1,u37.2.2.1,u11.1,u11.2.1,u12.1,u12.2.1,a1.1,u13.1,()),((([]:List Bc)++[(u11.1,u11.2.1,r19.2.1.1,r19.2.1.2.1,r19.2.1.2.2.1,r19.2.1.2.2.2.1,r19.2.1.2.2.2.2.1,r19.2.1.2.2.2.2.2.1,r19.2.1.2.2.2.2.2.2.1,r19.2.1.2.2.2.2.2.2.2.1,r19.2.1.2.2.2.2.2.2.2.2.1,r19.2.1.2.2.2.2.2.2.2.2.2.1,r19.2.1.2.2.2.2.2.2.2.2.2.2.1,())]),()),((((([]:List Ax)++[r7])++[((10:Int),(0:Int),(1:Int),([]:List YB),(([]:List YB)++u1.1),u26.1,(0:Int),([]:List YB),(([]:List YB)++u26.2.1),(0:Int),(0:Int),(0:Int),())])++[r20]),()),(false,()))) (
 .br (r22.2.2.1 != (0:Int)) (
 .leaf ((r1.1,r1.2.1,u10.1,r19.1.1,r19.1.2.1,u32.1,u32.2.1,u33.1,u33.2.1,u34.1,u34.2.1,u35.1,u35.2.1,u36.1,u36.2.1,u37.1,u37.2.1,u37.2.2.1,u11.1,u11.2.1,u12.1,u12.2.1,a1.1,u13.1,()),((([]:List Bc)++[(u11.1,u11.2.1,r19.2.1.1,r19.2.1.2.1,r19.2.1.2.2.1,r19.2.1.2.2.2.1,r19.2.1.2.2.2.2.1,r19.2.1.2.2.2.2.2.1,r19.2.1.2.2.2.2.2.2.1,r19.2.1.2.2.2.2.2.2.2.1,r19.2.1.2.2.2.2.2.2.2.2.1,r19.2.1.2.2.2.2.2.2.2.2.2.1,r19.2.1.2.2.2.2.2.2.2.2.2.2.1,())]),()),((((([]:List Ax)++[r7])++[((10:Int),(0:Int),(1:Int),([]:List YB),(([]:List YB)++u1.1),u26.1,(0:Int),([]:List YB),(([]:List YB)++u26.2.1),(0:Int),(0:Int),(0:Int),())])++[r20]),()),(false,()))) (
 .chk (decide ((([]:List Bc)++[(u11.1,u11.2.1,r19.2.1.1,r19.2.1.2.1,r19.2.1.2.2.1,r19.2.1.2.2.2.1,r19.2.1.2.2.2.2.1,r19.2.1.2.2.2.2.2.1,r19.2.1.2.2.2.2.2.2.1,r19.2.1.2.2.2.2.2.2.2.1,r19.2.1.2.2.2.2.2.2.2.2.1,r19.2.1.2.2.2.2.2.2.2.2.2.1,r19.2.1.2.2.2.2.2.2.2.2.2.2.1,())]).length+[(a2.1,a2.2.1,r22.2.1.1,r22.2.1.2.1,r22.2.1.2.2.1,r22.2.1.2.2.2.1,r22.2.1.2.2.2.2.1,r22.2.1.2.2.2.2.2.1,r22.2.1.2.2.2.2.2.2.1,r22.2.1.2.2.2.2.2.2.2.1,r22.2.1.2.2.2.2.2.2.2.2.1,r22.2.1.2.2.2.2.2.2.2.2.2.1,r22.2.1.2.2.2.2.2.2.2.2.2.2.1,())].length<=4294967296)) <|
 .ob (Hg r22.1 r22.2.1) fun r23=>
 .chk (decide ((((([]:List Ax)++[r7])++[((10:Int),(0:Int),(1:Int),([]:List YB),(([]:List YB)++u1.1),u26.1,(0:Int),([]:List YB),(([]:List YB)++u26.2.1),(0:Int),(0:Int),(0:Int),())])++[r20]).length+[r23].length<=4294967296)) <|
 .leaf ((r1.1,r1.2.1,u10.1,r22.1.1,r22.1.2.1,r22.1.2.2.1,u38.1,u38.2.1,u38.2.2.1,u39.1,u39.2.1,u39.2.2.1,u39.2.2.2.1,u40.1,u40.2.1,u40.2.2.1,u40.2.2.2.1,u40.2.2.2.2.1,r21.1.1,r21.1.2.1,r21.1.2.2.1,u12.2.1,a1.1,u13.1,()),(((([]:List Bc)++[(u11.1,u11.2.1,r19.2.1.1,r19.2.1.2.1,r19.2.1.2.2.1,r19.2.1.2.2.2.1,r19.2.1.2.2.2.2.1,r19.2.1.2.2.2.2.2.1,r19.2.1.2.2.2.2.2.2.1,r19.2.1.2.2.2.2.2.2.2.1,r19.2.1.2.2.2.2.2.2.2.2.1,r19.2.1.2.2.2.2.2.2.2.2.2.1,r19.2.1.2.2.2.2.2.2.2.2.2.2.1,())])++[(a2.1,a2.2.1,r22.2.1.1,r22.2.1.2.1,r22.2.1.2.2.1,r22.2.1.2.2.2.1,r22.2.1.2.2.2.2.1,r22.2.1.2.2.2.2.2.1,r22.2.1.2.2.2.2.2.2.1,r22.2.1.2.2.2.2.2.2.2.1,r22.2.1.2.2.2.2.2.2.2.2.1,r22.2.1.2.2.2.2.2.2.2.2.2.1,r22.2.1.2.2.2.2.2.2.2.2.2.2.1,())]),()),(((((([]:List Ax)++[r7])++[((10:Int),(0:Int),(1:Int),([]:List YB),(([]:List YB)++u1.1),u26.1,(0:Int),([]:List YB),(([]:List YB)++u26.2.1),(0:Int),(0:Int),(0:Int),())])++[r20])++[r23]),()),(true,()))))) (
 .ob (Eo (u11.1,u11.2.1,u12.1,()) a1 a2 a4) fun r24=>
 .ob (Dq r18.1 ((5:Int),()) a4) fun r25=>letI u41:=r25.1.2.2.2;letI u42:=u41.2.2.2;letI u43:=u42.2.2.2.2;
 .br (!r24.2.1) (
 .leaf ((r1.1,r1.2.1,u10.1,r18.1.1,r18.1.2.1,u26.1,u26.2.1,u27.1,u27.2.1,u28.1,u28.2.1,u29.1,u29.2.1,u30.1,u30.2.1,u31.1,u31.2.1,u31.2.2.1,u11.1,u11.2.1,u12.1,u12.2.1,a1.1,u13.1,()),(([]:List Bc),()),(((([]:List Ax)++[r7])++[((10:Int),(0:Int),(1:Int),([]:List YB),(([]:List YB)++u1.1),u26.1,(0:Int),([]:List YB),(([]:List YB)++u26.2.1),(0:Int),(0:Int),(0:Int),())]),()),(false,()))) (
 .br (r25.2.2.1 != (0:Int)) (
 .leaf ((r1.1,r1.2.1,u10.1,r18.1.1,r18.1.2.1,u26.1,u26.2.1,u27.1,u27.2.1,u28.1,u28.2.1,u29.1,u29.2.1,u30.1,u30.2.1,u31.1,u31.2.1,u31.2.2.1,u11.1,u11.2.1,u12.1,u12.2.1,a1.1,u13.1,()),(([]:List Bc),()),(((([]:List Ax)++[r7])++[((10:Int),(0:Int),(1:Int),([]:List YB),(([]:List YB)++u1.1),u26.1,(0:Int),([]:List YB),(([]:List YB)++u26.2.1),(0:Int),(0:Int),(0:Int),())]),()),(false,()))) (
 .chk (decide (([]:List Bc).length+[(a2.1,a2.2.1,r25.2.1.1,r25.2.1.2.1,r25.2.1.2.2.1,r25.2.1.2.2.2.1,r25.2.1.2.2.2.2.1,r25.2.1.2.2.2.2.2.1,r25.2.1.2.2.2.2.2.2.1,r25.2.1.2.2.2.2.2.2.2.1,r25.2.1.2.2.2.2.2.2.2.2.1,r25.2.1.2.2.2.2.2.2.2.2.2.1,r25.2.1.2.2.2.2.2.2.2.2.2.2.1,())].length<=4294967296)) <|
 .ob (Hg r25.1 r25.2.1) fun r26=>
 .chk (decide (((([]:List Ax)++[r7])++[((10:Int),(0:Int),(1:Int),([]:List YB),(([]:List YB)++u1.1),u26.1,(0:Int),([]:List YB),(([]:List YB)++u26.2.1),(0:Int),(0:Int),(0:Int),())]).length+[r26].length<=4294967296)) <|
 .leaf ((r1.1,r1.2.1,u10.1,r25.1.1,r25.1.2.1,r25.1.2.2.1,u41.1,u41.2.1,u41.2.2.1,u42.1,u42.2.1,u42.2.2.1,u42.2.2.2.1,u43.1,u43.2.1,u43.2.2.1,u43.2.2.2.1,u43.2.2.2.2.1,r24.1.1,r24.1.2.1,r24.1.2.2.1,u12.2.1,a1.1,u13.1,()),((([]:List Bc)++[(a2.1,a2.2.1,r25.2.1.1,r25.2.1.2.1,r25.2.1.2.2.1,r25.2.1.2.2.2.1,r25.2.1.2.2.2.2.1,r25.2.1.2.2.2.2.2.1,r25.2.1.2.2.2.2.2.2.1,r25.2.1.2.2.2.2.2.2.2.1,r25.2.1.2.2.2.2.2.2.2.2.1,r25.2.1.2.2.2.2.2.2.2.2.2.1,r25.2.1.2.2.2.2.2.2.2.2.2.2.1,())]),()),((((([]:List Ax)++[r7])++[((10:Int),(0:Int),(1:Int),([]:List YB),(([]:List YB)++u1.1),u26.1,(0:Int),([]:List YB),(([]:List YB)++u26.2.1),(0:Int),(0:Int),(0:Int),())])++[r26]),()),(true,())))))) (
 .ob (Ama r18.1) fun r27=>letI u44:=r27.1.2.2;letI u45:=u44.2.2;letI u46:=u45.2.2;letI u47:=u46.2.2;letI u48:=u47.2.2;letI u49:=u48.2.2;
 .br (r27.2.2.1==(0:Int)) (
 .chk (decide (([]:List Bc).length+[(u11.1,u11.2.1,r27.2.1.1,r27.2.1.2.1,r27.2.1.2.2.1,r27.2.1.2.2.2.1,r27.2.1.2.2.2.2.1,r27.2.1.2.2.2.2.2.1,r27.2.1.2.2.2.2.2.2.1,r27.2.1.2.2.2.2.2.2.2.1,r27.2.1.2.2.2.2.2.2.2.2.1,r27.2.1.2.2.2.2.2.2.2.2.2.1,r27.2.1.2.2.2.2.2.2.2.2.2.2.1,())].length<=4294967296)) <|
 .ob (Hg r27.1 r27.2.1) fun r28=>
 .chk (decide ((([]:List Ax)++[r7]).length+[r28].length<=4294967296)) <|
 .ob (Eo (u11.1,u11.2.1,u12.1,()) a1 a2 a4) fun r29=>
 .ob (Dq r27.1 ((5:Int),()) a4) fun r30=>letI u50:=r30.1.2.2.2;letI u51:=u50.2.2.2;letI u52:=u51.2.2.2.2;
 .br (!r29.2.1) (
 .leaf ((r1.1,r1.2.1,u10.1,r27.1.1,r27.1.2.1,u44.1,u44.2.1,u45.1,u45.2.1,u46.1,u46.2.1,u47.1,u47.2.1,u48.1,u48.2.1,u49.1,u49.2.1,u49.2.2.1,u11.1,u11.2.1,u12.1,u12.2.1,a1.1,u13.1,()),((([]:List Bc)++[(u11.1,u11.2.1,r27.2.1.1,r27.2.1.2.1,r27.2.1.2.2.1,r27.2.1.2.2.2.1,r27.2.1.2.2.2.2.1,r27.2.1.2.2.2.2.2.1,r27.2.1.2.2.2.2.2.2.1,r27.2.1.2.2.2.2.2.2.2.1,r27.2.1.2.2.2.2.2.2.2.2.1,r27.2.1.2.2.2.2.2.2.2.2.2.1,r27.2.1.2.2.2.2.2.2.2.2.2.2.1,())]),()),(((([]:List Ax)++[r7])++[r28]),()),(false,()))) (
 .br (r30.2.2.1 != (0:Int)) (
 .leaf ((r1.1,r1.2.1,u10.1,r27.1.1,r27.1.2.1,u44.1,u44.2.1,u45.1,u45.2.1,u46.1,u46.2.1,u47.1,u47.2.1,u48.1,u48.2.1,u49.1,u49.2.1,u49.2.2.1,u11.1,u11.2.1,u12.1,u12.2.1,a1.1,u13.1,()),((([]:List Bc)++[(u11.1,u11.2.1,r27.2.1.1,r27.2.1.2.1,r27.2.1.2.2.1,r27.2.1.2.2.2.1,r27.2.1.2.2.2.2.1,r27.2.1.2.2.2.2.2.1,r27.2.1.2.2.2.2.2.2.1,r27.2.1.2.2.2.2.2.2.2.1,r27.2.1.2.2.2.2.2.2.2.2.1,r27.2.1.2.2.2.2.2.2.2.2.2.1,r27.2.1.2.2.2.2.2.2.2.2.2.2.1,())]),()),(((([]:List Ax)++[r7])++[r28]),()),(false,()))) (
 .chk (decide ((([]:List Bc)++[(u11.1,u11.2.1,r27.2.1.1,r27.2.1.2.1,r27.2.1.2.2.1,r27.2.1.2.2.2.1,r27.2.1.2.2.2.2.1,r27.2.1.2.2.2.2.2.1,r27.2.1.2.2.2.2.2.2.1,r27.2.1.2.2.2.2.2.2.2.1,r27.2.1.2.2.2.2.2.2.2.2.1,r27.2.1.2.2.2.2.2.2.2.2.2.1,r27.2.1.2.2.2.2.2.2.2.2.2.2.1,())]).length+[(a2.1,a2.2.1,r30.2.1.1,r30.2.1.2.1,r30.2.1.2.2.1,r30.2.1.2.2.2.1,r30.2.1.2.2.2.2.1,r30.2.1.2.2.2.2.2.1,r30.2.1.2.2.2.2.2.2.1,r30.2.1.2.2.2.2.2.2.2.1,r30.2.1.2.2.2.2.2.2.2.2.1,r30.2.1.2.2.2.2.2.2.2.2.2.1,r30.2.1.2.2.2.2.2.2.2.2.2.2.1,())].length<=4294967296)) <|
 .ob (Hg r30.1 r30.2.1) fun r31=>
 .chk (decide (((([]:List Ax)++[r7])++[r28]).length+[r31].length<=4294967296)) <|
 .leaf ((r1.1,r1.2.1,u10.1,r30.1.1,r30.1.2.1,r30.1.2.2.1,u50.1,u50.2.1,u50.2.2.1,u51.1,u51.2.1,u51.2.2.1,u51.2.2.2.1,u52.1,u52.2.1,u52.2.2.1,u52.2.2.2.1,u52.2.2.2.2.1,r29.1.1,r29.1.2.1,r29.1.2.2.1,u12.2.1,a1.1,u13.1,()),(((([]:List Bc)++[(u11.1,u11.2.1,r27.2.1.1,r27.2.1.2.1,r27.2.1.2.2.1,r27.2.1.2.2.2.1,r27.2.1.2.2.2.2.1,r27.2.1.2.2.2.2.2.1,r27.2.1.2.2.2.2.2.2.1,r27.2.1.2.2.2.2.2.2.2.1,r27.2.1.2.2.2.2.2.2.2.2.1,r27.2.1.2.2.2.2.2.2.2.2.2.1,r27.2.1.2.2.2.2.2.2.2.2.2.2.1,())])++[(a2.1,a2.2.1,r30.2.1.1,r30.2.1.2.1,r30.2.1.2.2.1,r30.2.1.2.2.2.1,r30.2.1.2.2.2.2.1,r30.2.1.2.2.2.2.2.1,r30.2.1.2.2.2.2.2.2.1,r30.2.1.2.2.2.2.2.2.2.1,r30.2.1.2.2.2.2.2.2.2.2.1,r30.2.1.2.2.2.2.2.2.2.2.2.1,r30.2.1.2.2.2.2.2.2.2.2.2.2.1,())]),()),((((([]:List Ax)++[r7])++[r28])++[r31]),()),(true,()))))) (
 .ob (Eo (u11.1,u11.2.1,u12.1,()) a1 a2 a4) fun r32=>
 .ob (Dq r18.1 ((5:Int),()) a4) fun r33=>
 .br (!r32.2.1) (
 .leaf ((r1.1,r1.2.1,u10.1,r18.1.1,r18.1.2.1,u26.1,u26.2.1,u27.1,u27.2.1,u28.1,u28.2.1,u29.1,u29.2.1,u30.1,u30.2.1,u31.1,u31.2.1,u31.2.2.1,u11.1,u11.2.1,u12.1,u12.2.1,a1.1,u13.1,()),(([]:List Bc),()),((([]:List Ax)++[r7]),()),(false,()))) (
 .br (r33.2.2.1 != (0:Int)) (
 .leaf ((r1.1,r1.2.1,u10.1,r18.1.1,r18.1.2.1,u26.1,u26.2.1,u27.1,u27.2.1,u28.1,u28.2.1,u29.1,u29.2.1,u30.1,u30.2.1,u31.1,u31.2.1,u31.2.2.1,u11.1,u11.2.1,u12.1,u12.2.1,a1.1,u13.1,()),(([]:List Bc),()),((([]:List Ax)++[r7]),()),(false,()))) (
 Z7 a2 r33 r7 r1 r32 a1))))) (
 Ti r1 a1 a2 a4 r4 r7)) (
 Ti r1 a1 a2 a4 r4 r7)))))))
def Au4 (a0:Ak) (a1:YI) (a2:A6) (a3:Ar) (a4:YBs):Option (Ak×((List Bc)×Unit)×((List Ax)×Unit)×(Bool×Unit)):=(Au3 a0 a1 a2 a3 a4).val
def Au5 (a0:YBs) (a1:YI) (a2:Ar):Tree (Ar×(Bool×Unit)):=
 letI u1:=a2.2.2.2;.br (a2.1 != (2:Int)) (
 .leaf (((0:Int),(0:Int),([]:List YB),([]:List YB),(0:Int),([]:List YB),([]:List YB),(0:Int),(0:Int),([]:List YB),([]:List YB),()),(false,()))) (
 .ob (Db a2) fun r1=>
 .br (!r1.1) (
 .leaf (((0:Int),(0:Int),([]:List YB),([]:List YB),(0:Int),([]:List YB),([]:List YB),(0:Int),(0:Int),([]:List YB),([]:List YB),()),(false,()))) (
 .ob (Aif a0 a1 (a2.2.2.1,()) (u1.1,()) (u1.2.1,()) (u1.2.2.1,())) fun r2=>
 .br ((r2.1.length:Int)==(0:Int)) (
 .leaf (((0:Int),(0:Int),([]:List YB),([]:List YB),(0:Int),([]:List YB),([]:List YB),(0:Int),(0:Int),([]:List YB),([]:List YB),()),(false,()))) (
 .ob (Bk (a2.2.2.1,())) fun r3=>
 .ob (Bk (u1.1,())) fun r4=>
 .ob (Bk (u1.2.2.1,())) fun r5=>
 .leaf (((3:Int),a1.1,r3.1,r4.1,u1.2.1,r5.1,r2.1,(0:Int),(0:Int),([]:List YB),([]:List YB),()),(true,())))))
def Au6 (a0:YBs) (a1:YI) (a2:Ar):Option (Ar×(Bool×Unit)):=(Au5 a0 a1 a2).val
end
end Go.Proofs.YtnbbbaplphcebaaGreat

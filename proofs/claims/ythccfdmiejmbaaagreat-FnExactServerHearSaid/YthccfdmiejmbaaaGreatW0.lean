/-
  What the functions of the seat answer, as plain terms (printed by a program, proved in the texts P); nothing is assumed.
-/
import Derived.Test.YthccfdmiejmbaaaGreatEv3
namespace Go.Proofs.YthccfdmiejmbaaaGreat
open Go.RowKit IntKind
set_option linter.unusedVariables false
set_option maxRecDepth 100000
set_option maxHeartbeats 4000000
noncomputable section
abbrev Lst (a b:Type):=a->Option (a⊕b)
abbrev YB:Type:=Int×Unit
abbrev YI:Type:=Int×Unit
abbrev YBs:Type:=List YB×Unit
abbrev Bt7:Type:=ByteArray×Int×Unit
abbrev A6:Type:=Int×Int×Unit
abbrev C7:Type:=List YB×Int×Unit
abbrev Cz:Type:=Int×List YI×Unit
abbrev B1i:Type:=Int×Int×Bool×Int×Unit
abbrev Ba9:Type:=List YB×Int×Int×Unit
abbrev Ak:Type:=Int×Int×Int×Int×Unit
abbrev Sj:Type:=List YI×List YB×Int×Unit
abbrev Av:Type:=Int×Int×List YB×Int×Unit
abbrev YEp:Type:=Int×List YB×Int×Int×List YI×Unit
abbrev Bd:Type:=Int×Int×List Av×Unit
abbrev Am:Type:=Int×Int×Int×List YB×List YB×Int×Int×List YB×List YB×Int×Int×Int×Unit
abbrev As:Type:=Int×Int×List YB×List YB×Int×List YB×List YB×Int×Int×List YB×List YB×Unit
abbrev Au:Type:=Int×Int×Int×Int×List YB×List YB×Int×List YB×List YB×Int×Int×List YB×List YB×Unit
abbrev Aq:Type:=Int×List YB×Int×List YB×Int×Int×List YI×Int×List YB×Int×Int×List YI×Bool×Int×List YB×Unit
abbrev Al:Type:=Int×List YB×List YB×Int×List YB×Int×List YB×Int×Int×List YI×Int×List YB×Int×Int×List YI×Bool×Int×List YB×Int×Int×List Av×Int×Int×Bool×Unit
abbrev B8:Type:=Int×List Al×Unit
abbrev A0:Type:=List YBs×List YB×List YB×Int×Int×List Al×List Ak×Unit
def Amt (a0:YBs) (a1:YI):Tree (YI):=
 letI k1:=i64.wrap (a1.1-(a0.1.length:Int)); .br (decide (k1<0)) (
 .leaf (-1,())) (
 .leaf (k1,()))
def G3 a0 a1:=(Amt a0 a1).val
def Ui:Lst (List YBs×Int×Int×Unit) (YI⊕YI):=fun x1=>
 Tree.val <|
 .br (decide (x1.2.2.1<(x1.1.length:Int))) (
 .ob (idx x1.1 x1.2.2.1) fun e2=>
 .ob (G3 e2 (x1.2.1,())) fun r3=>
 .br (decide (r3.1<0)) (
 .leaf (.inr (.inl (-1,())))) (
 .leaf (.inl (x1.1,r3.1,i64.wrap (x1.2.2.1+1),())))) (
 .leaf (.inr (.inr (x1.2.1,()))))
def Ah9 (a0:List YBs×Unit) (a1:YI):Tree (YI):=
 letI k1:=i64.wrap (a1.1-(a0.1.length:Int)); .br (decide (k1<0)) (
 .leaf (-1,())) (
 .ob (Ax Ui (a0.1,k1,0,())) fun o4=>
 .sm o4 (fun o5=>
 .leaf o5) (fun o6=>
 .leaf o6))
def Ajw a0 a1:=(Ah9 a0 a1).val
def Ayx (a0:YBs) (a1:YI):Tree (YI):=
 .ob (G3 a0 a1) fun r1=>
 .br (decide (r1.1<0)) (
 .leaf (-1,())) (
 .leaf r1)
def A1h a0 a1:=(Ayx a0 a1).val
def Asg (a0:C7) (a1:YI):Tree (YI):=
 .ob (G3 (a0.1,()) a1) fun r1=>
 .br (decide (r1.1<0)) (
 .leaf (-1,())) (
 .leaf r1)
def Au5 a0 a1:=(Asg a0 a1).val
def Ash (a0:List YI×Unit) (a1:YI):Tree (YI):=
 letI k1:=i64.wrap (a1.1-(a0.1.length:Int)); .br (decide (k1<0)) (
 .leaf (-1,())) (
 .leaf (k1,()))
def Au6 a0 a1:=(Ash a0 a1).val
def Ayy (a0:Cz) (a1:YI):Tree (YI):=
 .ob (Au6 (a0.2.1,()) a1) fun r1=>
 .br (decide (r1.1<0)) (
 .leaf (-1,())) (
 .leaf r1)
def A1i a0 a1:=(Ayy a0 a1).val
def A58 (a0:YEp) (a1:YI):Tree (YI):=
 .ob (G3 (a0.2.1,()) a1) fun r1=>
 .br (decide (r1.1<0)) (
 .leaf (-1,())) (
 .ob (A1i (a0.2.2.2.1,a0.2.2.2.2.1,()) r1) fun r2=>
 .br (decide (r2.1<0)) (
 .leaf (-1,())) (
 .leaf r2))
def Au7 a0 a1:=(A58 a0 a1).val
def Asi (a0:Aq) (a1:YI):Tree (YI):=
 letI u1:=a0.2.2.2;letI u2:=u1.2.2.2;letI u3:=u2.2.2.2;.ob (G3 (a0.2.1,()) a1) fun r1=>
 .br (decide (r1.1<0)) (
 .leaf (-1,())) (
 .ob (Au7 (a0.2.2.1,u1.1,u1.2.1,u1.2.2.1,u2.1,()) r1) fun r2=>
 .br (decide (r2.1<0)) (
 .leaf (-1,())) (
 .ob (Au7 (u2.2.1,u2.2.2.1,u3.1,u3.2.1,u3.2.2.1,()) r2) fun r3=>
 .br (decide (r3.1<0)) (
 .leaf (-1,())) (
 .ob (G3 (u3.2.2.2.2.2.1,()) r3) fun r4=>
 .br (decide (r4.1<0)) (
 .leaf (-1,())) (
 .leaf r4))))
def Au8 a0 a1:=(Asi a0 a1).val
def Asj (a0:Av) (a1:YI):Tree (YI):=
 .ob (G3 (a0.2.2.1,()) a1) fun r1=>
 .br (decide (r1.1<0)) (
 .leaf (-1,())) (
 .leaf r1)
def Au9 a0 a1:=(Asj a0 a1).val
def Wv:Lst (List Av×Int×Int×Unit) (YI⊕YI):=fun x1=>
 Tree.val <|
 .br (decide (x1.2.2.1<(x1.1.length:Int))) (
 .ob (idx x1.1 x1.2.2.1) fun e2=>
 .ob (Au9 e2 (x1.2.1,())) fun r3=>
 .br (decide (r3.1<0)) (
 .leaf (.inr (.inl (-1,())))) (
 .leaf (.inl (x1.1,r3.1,i64.wrap (x1.2.2.1+1),())))) (
 .leaf (.inr (.inr (x1.2.1,()))))
def Amu (a0:List Av×Unit) (a1:YI):Tree (YI):=
 letI k1:=i64.wrap (a1.1-(a0.1.length:Int)); .br (decide (k1<0)) (
 .leaf (-1,())) (
 .ob (Ax Wv (a0.1,k1,0,())) fun o4=>
 .sm o4 (fun o5=>
 .leaf o5) (fun o6=>
 .leaf o6))
def Aop a0 a1:=(Amu a0 a1).val
def Amv (a0:Bd) (a1:YI):Tree (YI):=
 .ob (Aop (a0.2.2.1,()) a1) fun r1=>
 .br (decide (r1.1<0)) (
 .leaf (-1,())) (
 .leaf r1)
def Aoq a0 a1:=(Amv a0 a1).val
def Ask (a0:Al) (a1:YI):Tree (YI):=
 letI u1:=a0.2.2.2;letI u2:=u1.2.2.2;letI u3:=u2.2.2.2;letI u4:=u3.2.2.2;letI u5:=u4.2.2.2.2;.ob (G3 (a0.2.1,()) a1) fun r1=>
 .br (decide (r1.1<0)) (
 .leaf (-1,())) (
 .ob (G3 (a0.2.2.1,()) r1) fun r2=>
 .br (decide (r2.1<0)) (
 .leaf (-1,())) (
 .ob (Au8 (u1.1,u1.2.1,u1.2.2.1,u2.1,u2.2.1,u2.2.2.1,u3.1,u3.2.1,u3.2.2.1,u4.1,u4.2.1,u4.2.2.1,u4.2.2.2.1,u5.1,u5.2.1,()) r2) fun r3=>
 .br (decide (r3.1<0)) (
 .leaf (-1,())) (
 .ob (Aoq (u5.2.2.1,u5.2.2.2.1,u5.2.2.2.2.1,()) r3) fun r4=>
 .br (decide (r4.1<0)) (
 .leaf (-1,())) (
 .leaf r4))))
def Ava a0 a1:=(Ask a0 a1).val
def Ww:Lst (List Al×Int×Int×Unit) (YI⊕YI):=fun x1=>
 Tree.val <|
 .br (decide (x1.2.2.1<(x1.1.length:Int))) (
 .ob (idx x1.1 x1.2.2.1) fun e2=>
 .ob (Ava e2 (x1.2.1,())) fun r3=>
 .br (decide (r3.1<0)) (
 .leaf (.inr (.inl (-1,())))) (
 .leaf (.inl (x1.1,r3.1,i64.wrap (x1.2.2.1+1),())))) (
 .leaf (.inr (.inr (x1.2.1,()))))
def Amw (a0:List Al×Unit) (a1:YI):Tree (YI):=
 letI k1:=i64.wrap (a1.1-(a0.1.length:Int)); .br (decide (k1<0)) (
 .leaf (-1,())) (
 .ob (Ax Ww (a0.1,k1,0,())) fun o4=>
 .sm o4 (fun o5=>
 .leaf o5) (fun o6=>
 .leaf o6))
def Aor a0 a1:=(Amw a0 a1).val
def Ayz (a0:B8) (a1:YI):Tree (YI):=
 .ob (Aor (a0.2.1,()) a1) fun r1=>
 .br (decide (r1.1<0)) (
 .leaf (-1,())) (
 .leaf r1)
def A1j a0 a1:=(Ayz a0 a1).val
def Afg (a0:List Ak×Unit) (a1:YI):Tree (YI):=
 letI k1:=i64.wrap (a1.1-(a0.1.length:Int)); .br (decide (k1<0)) (
 .leaf (-1,())) (
 .leaf (k1,()))
def Age a0 a1:=(Afg a0 a1).val
def Aia (a0:A0) (a1:YI):Tree (YI):=
 letI u1:=a0.2.2.2;.ob (Ajw (a0.1,()) a1) fun r1=>
 .br (decide (r1.1<0)) (
 .leaf (-1,())) (
 .ob (A1h (a0.2.1,()) r1) fun r2=>
 .br (decide (r2.1<0)) (
 .leaf (-1,())) (
 .ob (Au5 (a0.2.2.1,u1.1,()) r2) fun r3=>
 .br (decide (r3.1<0)) (
 .leaf (-1,())) (
 .ob (A1j (u1.2.1,u1.2.2.1,()) r3) fun r4=>
 .br (decide (r4.1<0)) (
 .leaf (-1,())) (
 .ob (Age (u1.2.2.2.1,()) r4) fun r5=>
 .br (decide (r5.1<0)) (
 .leaf (-1,())) (
 .leaf r5)))))
def Ajx a0 a1:=(Aia a0 a1).val
def Q3:Lst (List YB×List YB×Int×Unit) (YBs):=fun x1=>
 letI u1:=x1.2.2;Tree.val <|
 .br (decide (u1.1<(x1.1.length:Int))) (
 .ob (idx x1.1 u1.1) fun e2=>
 .ob (idx x1.2.1 u1.1) fun e3=>
 let q4:=(x1.2.1.set (u1.1).toNat e2)
 .leaf (.inl (x1.1,q4,i64.wrap (u1.1+1),()))) (
 .leaf (.inr (x1.2.1,())))
def Amx (a0:YBs):Tree (YBs):=
 letI k1:=(a0.1.length:Int); .chk (decide (0<=k1)) <|
 .chk (decide (k1<=4294967296)) <|
 .chk (decide (k1=k1)) <|
 .ob (Ax Q3 (a0.1,List.replicate (k1).toNat (0,()),0,())) fun o5=>
 .leaf o5
def Ev a0:=(Amx a0).val
def Og:Lst (List YBs×List YBs×Int×Unit) (List YBs×Unit):=fun x1=>
 letI u1:=x1.2.2;Tree.val <|
 .br (decide (u1.1<(x1.1.length:Int))) (
 .ob (idx x1.1 u1.1) fun e2=>
 .ob (Ev e2) fun r3=>
 .ob (idx x1.2.1 u1.1) fun e4=>
 let q5:=(x1.2.1.set (u1.1).toNat r3)
 .leaf (.inl (x1.1,q5,i64.wrap (u1.1+1),()))) (
 .leaf (.inr (x1.2.1,())))
def Aib (a0:List YBs×Unit):Tree (List YBs×Unit):=
 letI k1:=(a0.1.length:Int); .chk (decide (0<=k1)) <|
 .chk (decide (k1<=4294967296)) <|
 .chk (decide (k1=k1)) <|
 .ob (Ax Og (a0.1,List.replicate (k1).toNat ([],()),0,())) fun o6=>
 .leaf o6
def Ajy a0:=(Aib a0).val
def Ay2 (a0:YBs):Tree (YBs):=
 .ob (Ev a0) fun r1=>
 .leaf r1
def A1k a0:=(Ay2 a0).val
def Asl (a0:C7):Tree (C7):=
 .ob (Ev (a0.1,())) fun r1=>
 .leaf (r1.1,a0.2.1,())
def Avb a0:=(Asl a0).val
def Sx:Lst (List YI×List YI×Int×Unit) (List YI×Unit):=fun x1=>
 letI u1:=x1.2.2;Tree.val <|
 .br (decide (u1.1<(x1.1.length:Int))) (
 .ob (idx x1.1 u1.1) fun e2=>
 .ob (idx x1.2.1 u1.1) fun e3=>
 let q4:=(x1.2.1.set (u1.1).toNat e2)
 .leaf (.inl (x1.1,q4,i64.wrap (u1.1+1),()))) (
 .leaf (.inr (x1.2.1,())))
def Asm (a0:List YI×Unit):Tree (List YI×Unit):=
 letI k1:=(a0.1.length:Int); .chk (decide (0<=k1)) <|
 .chk (decide (k1<=4294967296)) <|
 .chk (decide (k1=k1)) <|
 .ob (Ax Sx (a0.1,List.replicate (k1).toNat (0,()),0,())) fun o5=>
 .leaf o5
def Avc a0:=(Asm a0).val
def Ay3 (a0:Cz):Tree (Cz):=
 .ob (Avc (a0.2.1,())) fun r1=>
 .leaf (a0.1,r1.1,())
def A1l a0:=(Ay3 a0).val
def A59 (a0:YEp):Tree (YEp):=
 .ob (Ev (a0.2.1,())) fun r1=>
 .ob (A1l (a0.2.2.2.1,a0.2.2.2.2.1,())) fun r2=>
 .leaf (a0.1,r1.1,a0.2.2.1,r2.1,r2.2.1,())
def Avd a0:=(A59 a0).val
def Asn (a0:Aq):Tree (Aq):=
 letI u1:=a0.2.2.2;letI u2:=u1.2.2.2;letI u3:=u2.2.2.2.2;.ob (Ev (a0.2.1,())) fun r1=>
 .ob (Avd (a0.2.2.1,u1.1,u1.2.1,u1.2.2.1,u2.1,())) fun r2=>
 .ob (Avd (u2.2.1,u2.2.2.1,u2.2.2.2.1,u3.1,u3.2.1,())) fun r3=>
 .ob (Ev (u3.2.2.2.2.1,())) fun r4=>
 .leaf (a0.1,r1.1,r2.1,r2.2.1,r2.2.2.1,r2.2.2.2.1,r2.2.2.2.2.1,r3.1,r3.2.1,r3.2.2.1,r3.2.2.2.1,r3.2.2.2.2.1,u3.2.2.1,u3.2.2.2.1,r4.1,())
def Ave a0:=(Asn a0).val
def Aso (a0:A6):Tree (A6):=
 .leaf a0
def M7 a0:=(Aso a0).val
def Asp (a0:Av):Tree (Av):=
 .ob (M7 (a0.1,a0.2.1,())) fun r1=>
 .ob (Ev (a0.2.2.1,())) fun r2=>
 .leaf (r1.1,r1.2.1,r2.1,a0.2.2.2.1,())
def Avf a0:=(Asp a0).val
def Q4:Lst (List Av×List Av×Int×Unit) (List Av×Unit):=fun x1=>
 letI u1:=x1.2.2;Tree.val <|
 .br (decide (u1.1<(x1.1.length:Int))) (
 .ob (idx x1.1 u1.1) fun e2=>
 .ob (Avf e2) fun r3=>
 .ob (idx x1.2.1 u1.1) fun e4=>
 let q5:=(x1.2.1.set (u1.1).toNat r3)
 .leaf (.inl (x1.1,q5,i64.wrap (u1.1+1),()))) (
 .leaf (.inr (x1.2.1,())))
def Amy (a0:List Av×Unit):Tree (List Av×Unit):=
 letI k1:=(a0.1.length:Int); .chk (decide (0<=k1)) <|
 .chk (decide (k1<=4294967296)) <|
 .chk (decide (k1=k1)) <|
 .ob (Ax Q4 (a0.1,List.replicate (k1).toNat (0,0,[],0,()),0,())) fun o6=>
 .leaf o6
def Aos a0:=(Amy a0).val
def Amz (a0:Bd):Tree (Bd):=
 .ob (M7 (a0.1,a0.2.1,())) fun r1=>
 .ob (Aos (a0.2.2.1,())) fun r2=>
 .leaf (r1.1,r1.2.1,r2.1,())
def Aot a0:=(Amz a0).val
def Asq (a0:Al):Tree (Al):=
 letI u1:=a0.2.2.2;letI u2:=u1.2.2.2;letI u3:=u2.2.2.2;letI u4:=u3.2.2.2;letI u5:=u4.2.2.2;letI u6:=u5.2.2.2.2;.ob (Ev (a0.2.1,())) fun r1=>
 .ob (Ev (a0.2.2.1,())) fun r2=>
 .ob (Ave (u1.1,u1.2.1,u1.2.2.1,u2.1,u2.2.1,u2.2.2.1,u3.1,u3.2.1,u3.2.2.1,u4.1,u4.2.1,u4.2.2.1,u5.1,u5.2.1,u5.2.2.1,())) fun r3=>letI u7:=r3.2.2.2;letI u8:=u7.2.2.2;letI u9:=u8.2.2.2.2;
 .ob (Aot (u5.2.2.2.1,u6.1,u6.2.1,())) fun r4=>
 .leaf (a0.1,r1.1,r2.1,r3.1,r3.2.1,r3.2.2.1,u7.1,u7.2.1,u7.2.2.1,u8.1,u8.2.1,u8.2.2.1,u8.2.2.2.1,u9.1,u9.2.1,u9.2.2.1,u9.2.2.2.1,u9.2.2.2.2.1,r4.1,r4.2.1,r4.2.2.1,u6.2.2.1,u6.2.2.2.1,u6.2.2.2.2.1,())
def Avg a0:=(Asq a0).val
def Q5:Lst (List Al×List Al×Int×Unit) (List Al×Unit):=fun x1=>
 letI u1:=x1.2.2;Tree.val <|
 .br (decide (u1.1<(x1.1.length:Int))) (
 .ob (idx x1.1 u1.1) fun e2=>
 .ob (Avg e2) fun r3=>
 .ob (idx x1.2.1 u1.1) fun e4=>
 let q5:=(x1.2.1.set (u1.1).toNat r3)
 .leaf (.inl (x1.1,q5,i64.wrap (u1.1+1),()))) (
 .leaf (.inr (x1.2.1,())))
def Am0 (a0:List Al×Unit):Tree (List Al×Unit):=
 letI k1:=(a0.1.length:Int); .chk (decide (0<=k1)) <|
 .chk (decide (k1<=4294967296)) <|
 .chk (decide (k1=k1)) <|
 .ob (Ax Q5 (a0.1,List.replicate (k1).toNat (0,[],[],0,[],0,[],0,0,[],0,[],0,0,[],false,0,[],0,0,[],0,0,false,()),0,())) fun o6=>
 .leaf o6
def Aou a0:=(Am0 a0).val
def Ay4 (a0:B8):Tree (B8):=
 .ob (Aou (a0.2.1,())) fun r1=>
 .leaf (a0.1,r1.1,())
def A1m a0:=(Ay4 a0).val
def Aic (a0:Ak):Tree (Ak):=
 .ob (M7 (a0.1,a0.2.1,())) fun r1=>
 .leaf (r1.1,r1.2.1,a0.2.2.1,a0.2.2.2.1,())
def Ajz a0:=(Aic a0).val
def Mp:Lst (List Ak×List Ak×Int×Unit) (List Ak×Unit):=fun x1=>
 letI u1:=x1.2.2;Tree.val <|
 .br (decide (u1.1<(x1.1.length:Int))) (
 .ob (idx x1.1 u1.1) fun e2=>
 .ob (Ajz e2) fun r3=>
 .ob (idx x1.2.1 u1.1) fun e4=>
 let q5:=(x1.2.1.set (u1.1).toNat r3)
 .leaf (.inl (x1.1,q5,i64.wrap (u1.1+1),()))) (
 .leaf (.inr (x1.2.1,())))
def Afh (a0:List Ak×Unit):Tree (List Ak×Unit):=
 letI k1:=(a0.1.length:Int); .chk (decide (0<=k1)) <|
 .chk (decide (k1<=4294967296)) <|
 .chk (decide (k1=k1)) <|
 .ob (Ax Mp (a0.1,List.replicate (k1).toNat (0,0,0,0,()),0,())) fun o6=>
 .leaf o6
def Agf a0:=(Afh a0).val
def Aid (a0:A0):Tree (A0):=
 letI u1:=a0.2.2.2;.ob (Ajy (a0.1,())) fun r1=>
 .ob (A1k (a0.2.1,())) fun r2=>
 .ob (Avb (a0.2.2.1,u1.1,())) fun r3=>
 .ob (A1m (u1.2.1,u1.2.2.1,())) fun r4=>
 .ob (Agf (u1.2.2.2.1,())) fun r5=>
 .leaf (r1.1,r2.1,r3.1,r3.2.1,r4.1,r4.2.1,r5.1,())
def Pc a0:=(Aid a0).val
def Am2 (a0:C7):Tree (C7):=
 .chk (decide (([]:List YB).length+a0.1.length<=4294967296)) <|
 .leaf (([]:List YB)++a0.1,a0.2.1,())
def Aeb a0:=(Am2 a0).val
def A9f (a0:Cz):Tree (Cz):=
 .chk (decide (([]:List YI).length+a0.2.1.length<=4294967296)) <|
 .leaf (a0.1,([]:List YI)++a0.2.1,())
def Avh a0:=(A9f a0).val
def Ass (a0:YEp):Tree (YEp):=
 .chk (decide (([]:List YB).length+a0.2.1.length<=4294967296)) <|
 .ob (Avh (a0.2.2.2.1,a0.2.2.2.2.1,())) fun r1=>
 .leaf (a0.1,([]:List YB)++a0.2.1,a0.2.2.1,r1.1,r1.2.1,())
def Uw a0:=(Ass a0).val
def Ay8 (a0:YEp) (a1:Bool×Unit):Tree (YEp):=
 .br (!a1.1) (
 .chk (decide (([]:List YB).length+a0.2.1.length<=4294967296)) <|
 .chk (decide (([]:List YI).length+a0.2.2.2.2.1.length<=4294967296)) <|
 .leaf (a0.1,([]:List YB)++a0.2.1,a0.2.2.1,a0.2.2.2.1,([]:List YI)++a0.2.2.2.2.1,())) (
 .ob (Uw a0) fun r1=>
 .leaf r1)
def A1n a0 a1:=(Ay8 a0 a1).val
def Am3 (a0:Aq):Tree (Aq):=
 letI u1:=a0.2.2.2;letI u2:=u1.2.2.2;letI u3:=u2.2.2.2;letI u4:=u3.2.2.2;.chk (decide (([]:List YB).length+a0.2.1.length<=4294967296)) <|
 .ob (Uw (a0.2.2.1,u1.1,u1.2.1,u1.2.2.1,u2.1,())) fun r1=>
 .ob (A1n (u2.2.1,u2.2.2.1,u3.1,u3.2.1,u3.2.2.1,()) (u4.1,())) fun r2=>
 .chk (decide (([]:List YB).length+a0.2.2.2.2.2.2.2.2.2.2.2.2.2.2.1.length<=4294967296)) <|
 .leaf (a0.1,([]:List YB)++a0.2.1,r1.1,r1.2.1,r1.2.2.1,r1.2.2.2.1,r1.2.2.2.2.1,r2.1,r2.2.1,r2.2.2.1,r2.2.2.2.1,r2.2.2.2.2.1,u4.1,u4.2.1,([]:List YB)++u4.2.2.1,())
def I5 a0:=(Am3 a0).val
def Am4 (a0:Av):Tree (Av):=
 .chk (decide (([]:List YB).length+a0.2.2.1.length<=4294967296)) <|
 .leaf (a0.1,a0.2.1,([]:List YB)++a0.2.2.1,a0.2.2.2.1,())
def Rz a0:=(Am4 a0).val
def Mb:Lst (Int×Int×Int×List Av×Int×Int×List Av×Int×Int×List Av×Unit) (Int×Int×List Av×Int×Int×List Av×Unit):=fun x1=>
 letI u1:=x1.2.2.2;letI u2:=u1.2.2;letI u3:=u2.2.2;Tree.val <|
 .br (decide (x1.1<(x1.2.2.2.1.length:Int))) (
 .ob (idx u1.1 x1.1) fun e2=>
 .ob (Rz e2) fun r3=>
 .chk (decide (x1.2.2.2.2.2.2.2.2.2.1.length+[r3].length<=4294967296)) <|
 .leaf (.inl (i64.wrap (x1.1+1),x1.2.1,x1.2.2.1,u1.1,u1.2.1,u2.1,u2.2.1,u3.1,u3.2.1,u3.2.2.1++[r3],()))) (
 .leaf (.inr (u1.2.1,u2.1,u2.2.1,u3.1,u3.2.1,u3.2.2.1,())))
def Am5 (a0:Bd):Tree (Bd):=
 .ob (Ax Mb (0,a0.1,a0.2.1,a0.2.2.1,0,0,[],a0.1,a0.2.1,[],())) fun o4=>
 .leaf (o4.2.2.2.1,o4.2.2.2.2.1,o4.2.2.2.2.2.1,())
def D5 a0:=(Am5 a0).val
def Am6 (a0:Al):Tree (Al):=
 letI u1:=a0.2.2.2;letI u2:=u1.2.2.2;letI u3:=u2.2.2.2;letI u4:=u3.2.2.2;letI u5:=u4.2.2.2;letI u6:=u5.2.2.2.2;.chk (decide (([]:List YB).length+a0.2.1.length<=4294967296)) <|
 .chk (decide (([]:List YB).length+a0.2.2.1.length<=4294967296)) <|
 .ob (I5 (u1.1,u1.2.1,u1.2.2.1,u2.1,u2.2.1,u2.2.2.1,u3.1,u3.2.1,u3.2.2.1,u4.1,u4.2.1,u4.2.2.1,u5.1,u5.2.1,u5.2.2.1,())) fun r1=>letI u7:=r1.2.2.2;letI u8:=u7.2.2.2;letI u9:=u8.2.2.2.2;
 .ob (D5 (u5.2.2.2.1,u6.1,u6.2.1,())) fun r2=>
 .leaf (a0.1,([]:List YB)++a0.2.1,([]:List YB)++a0.2.2.1,r1.1,r1.2.1,r1.2.2.1,u7.1,u7.2.1,u7.2.2.1,u8.1,u8.2.1,u8.2.2.1,u8.2.2.2.1,u9.1,u9.2.1,u9.2.2.1,u9.2.2.2.1,u9.2.2.2.2.1,r2.1,r2.2.1,r2.2.2.1,u6.2.2.1,u6.2.2.2.1,u6.2.2.2.2.1,())
def R0 a0:=(Am6 a0).val
def Mc:Lst (Int×Int×List Al×Int×List Al×Int×List Al×Unit) (Int×List Al×Int×List Al×Unit):=fun x1=>
 letI u1:=x1.2.2;letI u2:=u1.2.2;Tree.val <|
 .br (decide (x1.1<(x1.2.2.1.length:Int))) (
 .ob (idx u1.1 x1.1) fun e2=>
 .ob (R0 e2) fun r3=>
 .chk (decide (x1.2.2.2.2.2.2.1.length+[r3].length<=4294967296)) <|
 .leaf (.inl (i64.wrap (x1.1+1),x1.2.1,u1.1,u1.2.1,u2.1,u2.2.1,u2.2.2.1++[r3],()))) (
 .leaf (.inr (u1.2.1,u2.1,u2.2.1,u2.2.2.1,())))
def Am8 (a0:B8):Tree (B8):=
 .ob (Ax Mc (0,a0.1,a0.2.1,0,[],a0.1,[],())) fun o4=>
 .leaf (o4.2.2.1,o4.2.2.2.1,())
def Aec a0:=(Am8 a0).val
def Md:Lst (Int×List YBs×List YB×List YB×Int×Int×List Al×List Ak×List YBs×List YB×List YB×Int×Int×List Al×List Ak×List YBs×List YB×List YB×Int×Int×List Al×List Ak×Unit) (List YBs×List YB×List YB×Int×Int×List Al×List Ak×List YBs×List YB×List YB×Int×Int×List Al×List Ak×Unit):=fun x3=>
 letI u1:=x3.2.2.2.2;letI u2:=u1.2.2.2.2;letI u3:=u2.2.2;letI u4:=u3.2.2;letI u5:=u4.2.2;letI u6:=u5.2.2;letI u7:=u6.2.2.2;Tree.val <|
 .br (decide (x3.1<(x3.2.1.length:Int))) (
 .ob (idx x3.2.1 x3.1) fun e4=>letI k1:=(([]:List YB)++e4.1,());
 .chk (decide (([]:List YB).length+e4.1.length<=4294967296)) <|
 .chk (decide (x3.2.2.2.2.2.2.2.2.2.2.2.2.2.2.2.1.length+[k1].length<=4294967296)) <|
 .leaf (.inl (i64.wrap (x3.1+1),x3.2.1,x3.2.2.1,x3.2.2.2.1,u1.1,u1.2.1,u1.2.2.1,u1.2.2.2.1,u2.1,u2.2.1,u3.1,u3.2.1,u4.1,u4.2.1,u5.1,u5.2.1++[k1],u6.1,u6.2.1,u6.2.2.1,u7.1,u7.2.1,u7.2.2.1,()))) (
 .leaf (.inr (u2.1,u2.2.1,u3.1,u3.2.1,u4.1,u4.2.1,u5.1,u5.2.1,u6.1,u6.2.1,u6.2.2.1,u7.1,u7.2.1,u7.2.2.1,())))
def Am9 (a0:A0):Tree (A0):=
 letI u1:=a0.2.2;letI u2:=u1.2.2;.chk (decide (([]:List YB).length+a0.2.1.length<=4294967296)) <|
 .ob (Aeb (u1.1,u1.2.1,())) fun r1=>
 .ob (Aec (u2.1,u2.2.1,())) fun r2=>
 .chk (decide (([]:List Ak).length+a0.2.2.2.2.2.2.1.length<=4294967296)) <|
 .ob (Ax Md (0,a0.1,a0.2.1,u1.1,u1.2.1,u2.1,u2.2.1,u2.2.2.1,[],[],[],0,0,[],[],[],([]:List YB)++a0.2.1,r1.1,r1.2.1,r2.1,r2.2.1,([]:List Ak)++u2.2.2.1,())) fun o5=>letI u3:=o5.2.2.2.2.2.2.2;letI u4:=u3.2.2.2;
 .leaf (u3.1,u3.2.1,u3.2.2.1,u4.1,u4.2.1,u4.2.2.1,u4.2.2.2.1,())
def Aov a0:=(Am9 a0).val
def A6a (a0 a1 a2:YI):Tree (Bool×Unit):=
 .br (decide (a0.1≥a1.1)) (
 .leaf (decide (a0.1<=a2.1),())) (
 .leaf (false,()))
def Bl a0 a1 a2:=(A6a a0 a1 a2).val
def Bfh (a0:YBs):Tree (Bool×Unit):=
 .leaf ((a0.1.length:Int)==32,())
def Alx a0:=(Bfh a0).val
def Asv (a0:C7):Tree (Bool×Unit):=
 .ob (Bl ((a0.1.length:Int),()) (1,()) (32,())) fun r1=>
 .br r1.1 (
 .ob (Bl (a0.2.1,()) (0,()) (10000,())) fun r2=>
 .leaf r2) (
 .leaf (false,()))
def Ag4 a0:=(Asv a0).val
def Z5:Lst (Int×Int×Int×List Al×Unit) (YI):=fun x1=>
 letI u1:=x1.2.2;letI k1:=i64.wrap (x1.2.1+(1:Int));Tree.val <|
 .br (decide (x1.2.1<(x1.2.2.2.1.length:Int))) (
 .ob (idx u1.2.1 x1.2.1) fun e2=>
 .br (!e2.2.2.2.2.2.2.2.2.2.2.2.2.2.2.2.2.2.2.2.2.2.2.2.1) (
 .leaf (.inl (i64.wrap (x1.1+1),k1,u1.1,u1.2.1,()))) (
 .leaf (.inl (x1.1,k1,u1.1,u1.2.1,())))) (
 .leaf (.inr (x1.1,())))
def A6c (a0:B8):Tree (YI):=
 .ob (Ax Z5 (0,0,a0.1,a0.2.1,())) fun o3=>
 .leaf o3
def Aj0 a0:=(A6c a0).val
def Anb (a0:YEp):Tree (Bool×Unit):=
 .br (a0.1==0) (
 .br ((a0.2.1.length:Int)==0) (
 .br (a0.2.2.1==0) (
 .br (a0.2.2.2.1==0) (
 .leaf ((a0.2.2.2.2.1.length:Int)==0,())) (
 .leaf (false,()))) (
 .leaf (false,()))) (
 .leaf (false,()))) (
 .leaf (false,()))
def V7 a0:=(Anb a0).val
def Afi (a0:Aq):Tree (Bool×Unit):=
 letI u1:=a0.2.2.2;letI u2:=u1.2.2.2;letI u3:=u2.2.2.2;.br (a0.1==0) (
 .br ((a0.2.1.length:Int)==0) (
 .ob (V7 (a0.2.2.1,u1.1,u1.2.1,u1.2.2.1,u2.1,())) fun r1=>
 .br r1.1 (
 .ob (V7 (u2.2.1,u2.2.2.1,u3.1,u3.2.1,u3.2.2.1,())) fun r2=>
 .br r2.1 (
 .br (!u3.2.2.2.1) (
 .br (u3.2.2.2.2.1==0) (
 .leaf ((a0.2.2.2.2.2.2.2.2.2.2.2.2.2.2.1.length:Int)==0,())) (
 .leaf (false,()))) (
 .leaf (false,()))) (
 .leaf (false,()))) (
 .leaf (false,()))) (
 .leaf (false,()))) (
 .leaf (false,()))
def Agg a0:=(Afi a0).val
def A6d (a0:YI):Tree (A6):=
 .ob (Bl a0 (0,()) (255,())) fun r1=>
 .br (!r1.1) (
 .leaf (0,0,())) (
 .leaf (i64.wrap (167772160+a0.1),i64.wrap (7000+a0.1),()))
def A7p a0:=(A6d a0).val
def Azc (a0:Cz) (a1:YI):Tree (Bool×Unit):=
 letI k1:=a1.1%(1024:Int); .chk (decide (0<=a1.1)) <|
 .chk (decide (0<=k1)) <|
 .ob (idx a0.2.1 (k1/(32:Int))) fun e1=>
 .chk (decide (0<=k1)) <|
 .chk (decide (0<=(k1%32))) <|
 .leaf ((i64.wrap ((BitVec.ofInt i64.bits (Int.fdiv e1.1 (2^(min (k1%32).toNat i64.bits))) &&& BitVec.ofInt i64.bits 1).toNat:Nat))==1,())
def Ae1 a0 a1:=(Azc a0 a1).val
def Nx:Lst (Int×Int×List YI×Unit) ((Bool×Unit)⊕Cz):=fun x2=>
 Tree.val <|
 .br (decide (x2.1<32)) (
 .ob (idx x2.2.2.1 x2.1) fun e3=>
 .ob (Bl e3 (0,()) (4294967295,())) fun r4=>
 .br (!r4.1) (
 .leaf (.inr (.inl (false,())))) (
 .leaf (.inl (i64.wrap (x2.1+1),x2.2.1,x2.2.2.1,())))) (
 .leaf (.inr (.inr (x2.2.1,x2.2.2.1,()))))
def Jd:Lst (Int×Int×List YI×Unit) ((Bool×Unit)⊕(Unit)):=fun x9=>
 Tree.val <|
 .br (decide (x9.1<1024)) (
 .ob (Ae1 (x9.2.1,x9.2.2.1,()) (x9.1,())) fun r10=>
 .br r10.1 (
 .leaf (.inr (.inl (false,())))) (
 .leaf (.inl (i64.wrap (x9.1+1),x9.2.1,x9.2.2.1,())))) (
 .leaf (.inr (.inr ())))
def Ala (a0:Cz):Tree (Bool×Unit):=
 .br ((a0.2.1.length:Int) != 32) (
 .leaf (false,())) (
 .ob (Bl (a0.1,()) (-1,()) (281474976710655,())) fun r1=>
 .br (!r1.1) (
 .leaf (false,())) (
 .ob (Ax Nx (0,a0.1,a0.2.1,())) fun o5=>
 .sm o5 (fun o6=>
 .leaf o6) (fun o7=>letI k1:=Ax Jd (i64.wrap (o7.1+(1:Int)),o7.1,o7.2.1,());
 .br (decide (o7.1≥0)) (
 .ob (Ae1 o7 (o7.1,())) fun r8=>
 .br (!r8.1) (
 .leaf (false,())) (
 .ob k1 fun o11=>
 .sm o11 (fun o12=>
 .leaf o12) (fun o13=>
 .leaf (true,())))) (
 .ob k1 fun o14=>
 .sm o14 (fun o15=>
 .leaf o15) (fun o16=>
 .leaf (true,()))))))
def Aly a0:=(Ala a0).val
def A6e (a0:YEp):Tree (Bool×Unit):=
 .ob (Bl (a0.1,()) (0,()) (4294967295,())) fun r1=>
 .br r1.1 (
 .br ((a0.2.1.length:Int)==32) (
 .ob (Bl (a0.2.2.1,()) (0,()) (281474976710656,())) fun r2=>
 .br r2.1 (
 .ob (Aly (a0.2.2.2.1,a0.2.2.2.2.1,())) fun r3=>
 .leaf r3) (
 .leaf (false,()))) (
 .leaf (false,()))) (
 .leaf (false,()))
def Xg a0:=(A6e a0).val
def Asx (a0:Aq):Tree (Bool×Unit):=
 letI u1:=a0.2.2;letI u2:=u1.2.2;letI u3:=u2.2.2.2;letI u4:=u3.2.2;letI u5:=u4.2.2;letI k1:=(a0.2.2.2.2.2.2.2.2.2.2.2.2.2.2.1.length:Int);letI k2:=(decide (u1.1<(4294967295:Int)),());letI k3:=(u3.1,u3.2.1,u4.1,u4.2.1,u5.1,());letI k4:=a0.1==(0:Int);letI k5:=u3.1 != (i64.wrap (u1.1-(1:Int)));letI k6:=k1==(32:Int);letI k7:=k1==(0:Int);.ob (Bl (a0.1,()) (0,()) (1,())) fun r1=>
 .br (!r1.1) (
 .leaf (false,())) (
 .br ((a0.2.1.length:Int) != 12) (
 .leaf (false,())) (
 .ob (Xg (u1.1,u1.2.1,u2.1,u2.2.1,u2.2.2.1,())) fun r2=>
 .br (!r2.1) (
 .leaf (false,())) (
 .br u5.2.1 (
 .br k4 (
 .ob (Xg k3) fun r3=>
 .br (!r3.1) (
 .leaf (false,())) (
 .br k5 (
 .leaf (false,())) (
 .ob (Bl (u5.2.2.1,()) (0,()) (1000005,())) fun r4=>
 .br (!r4.1) (
 .leaf (false,())) (
 .br k7 (
 .leaf (true,())) (
 .br k4 (
 .br k6 (
 .leaf k2) (
 .leaf (false,()))) (
 .leaf (false,()))))))) (
 .ob (Xg k3) fun r5=>
 .br (!r5.1) (
 .leaf (false,())) (
 .br k5 (
 .leaf (false,())) (
 .ob (Bl (u5.2.2.1,()) (-1,()) (1000005,())) fun r6=>
 .br (!r6.1) (
 .leaf (false,())) (
 .br k7 (
 .leaf (true,())) (
 .br k4 (
 .br k6 (
 .leaf k2) (
 .leaf (false,()))) (
 .leaf (false,())))))))) (
 .ob (V7 k3) fun r7=>
 .br (!r7.1) (
 .leaf (false,())) (
 .br (u5.2.2.1 != 0) (
 .leaf (false,())) (
 .br k7 (
 .leaf (true,())) (
 .br k4 (
 .br k6 (
 .leaf k2) (
 .leaf (false,()))) (
 .leaf (false,())))))))))
def Kl a0:=(Asx a0).val
def A9i (a0 a1:YBs):Tree (Bool×Unit):=
 .leaf (decide ((H8 a0.1)=(H8 a1.1)),())
def M8 a0 a1:=(A9i a0 a1).val
def Asy (a0:A6):Tree (Bool×Unit):=
 .ob (Bl (a0.1,()) (0,()) (4294967295,())) fun r1=>
 .br r1.1 (
 .ob (Bl (a0.2.1,()) (0,()) (65535,())) fun r2=>
 .leaf r2) (
 .leaf (false,()))
def Gg a0:=(Asy a0).val
def Iu:Lst (Int×Int×Int×Int×List Av×Int×Int×List YB×Int×Unit) ((Bool×Unit)⊕(Int×Int×Int×List Av×Unit)):=fun x6=>
 letI u1:=x6.2.2;letI u2:=u1.2.2;Tree.val <|
 .br (decide (x6.2.1<x6.1)) (
 .ob (idx u2.1 x6.2.1) fun e7=>
 .br (and (e7.1==u2.2.1) (and (e7.2.1==u2.2.2.1) true)) (
 .leaf (.inr (.inl (false,())))) (
 .leaf (.inl (x6.1,i64.wrap (x6.2.1+1),u1.1,u1.2.1,u2.1,u2.2.1,u2.2.2.1,u2.2.2.2.1,u2.2.2.2.2.1,())))) (
 .leaf (.inr (.inr (x6.1,u1.1,u1.2.1,u2.1,()))))
def Me:Lst (Int×Int×Int×List Av×Unit) ((Bool×Unit)⊕(Unit)):=fun x2=>
 Tree.val <|
 .br (decide (x2.1<(x2.2.2.2.1.length:Int))) (
 .ob (idx x2.2.2.2.1 x2.1) fun e3=>
 .ob (Gg (e3.1,e3.2.1,())) fun r4=>
 .br (!r4.1) (
 .leaf (.inr (.inl (false,())))) (
 .br ((e3.2.2.1.length:Int) != 12) (
 .leaf (.inr (.inl (false,())))) (
 .ob (Bl (e3.2.2.2.1,()) (0,()) (1000006,())) fun r5=>
 .br (!r5.1) (
 .leaf (.inr (.inl (false,())))) (
 .br (and (e3.1==x2.2.1) (and (e3.2.1==x2.2.2.1) true)) (
 .leaf (.inr (.inl (false,())))) (
 .ob (Ax Iu (x2.1,0,x2.2.1,x2.2.2.1,x2.2.2.2.1,e3.1,e3.2.1,e3.2.2.1,e3.2.2.2.1,())) fun o8=>
 .sm o8 (fun o9=>
 .leaf (.inr (.inl o9))) (fun o10=>
 .leaf (.inl (i64.wrap (o10.1+1),o10.2.1,o10.2.2.1,o10.2.2.2.1,())))))))) (
 .leaf (.inr (.inr ())))
def Adp (a0:Bd):Tree (Bool×Unit):=
 .ob (Gg (a0.1,a0.2.1,())) fun r1=>
 .br (!r1.1) (
 .leaf (false,())) (
 .br (decide ((a0.2.2.1.length:Int)>3)) (
 .leaf (false,())) (
 .ob (Ax Me (0,a0.1,a0.2.1,a0.2.2.1,())) fun o11=>
 .sm o11 (fun o12=>
 .leaf o12) (fun o13=>
 .leaf (true,()))))
def R7 a0:=(Adp a0).val
def Asz (a0:Al):Tree (Bool×Unit):=
 letI u1:=a0.2.2.2;letI u2:=u1.2.2;letI u3:=u2.2.2;letI u4:=u3.2.2;letI u5:=u4.2.2;letI u6:=u5.2.2;letI u7:=u6.2.2;letI u8:=u7.2.2.2;letI u9:=u8.2.2.2;letI k1:=(u1.1,u1.2.1,u2.1,u2.2.1,u3.1,u3.2.1,u4.1,u4.2.1,u5.1,u5.2.1,u6.1,u6.2.1,u7.1,u7.2.1,u7.2.2.1,());.ob (Bl (a0.1,()) (1,()) (9,())) fun r1=>
 .br (!r1.1) (
 .leaf (false,())) (
 .br ((a0.2.1.length:Int) != 12) (
 .leaf (false,())) (
 .br ((a0.2.2.1.length:Int) != 12) (
 .leaf (false,())) (
 .ob (Bl (u9.1,()) (0,()) (1000000,())) fun r2=>
 .br (!r2.1) (
 .leaf (false,())) (
 .ob (Bl (u9.2.1,()) (0,()) (1000000,())) fun r3=>
 .br (!r3.1) (
 .leaf (false,())) (
 .br u9.2.2.1 (
 .ob (Agg k1) fun r4=>
 .br r4.1 (
 .ob (A7p (-1,())) fun r5=>
 .br (and (u8.1==r5.1) (and (u8.2.1==r5.2.1) true)) (
 .br ((a0.2.2.2.2.2.2.2.2.2.2.2.2.2.2.2.2.2.2.2.2.1.length:Int)==0) (
 .leaf (u9.2.1==0,())) (
 .leaf (false,()))) (
 .leaf (false,()))) (
 .leaf (false,()))) (
 .ob (Kl k1) fun r6=>
 .br r6.1 (
 .br (u1.1==1) (
 .ob (M8 (u1.2.1,()) (a0.2.2.1,())) fun r7=>
 .br r7.1 (
 .ob (R7 (u8.1,u8.2.1,u8.2.2.1,())) fun r8=>
 .leaf r8) (
 .leaf (false,()))) (
 .leaf (false,()))) (
 .leaf (false,()))))))))
def Ux a0:=(Asz a0).val
def Sy:Lst (List YB×Int×Int×List Al×Unit) (YI⊕(Unit)):=fun x1=>
 Tree.val <|
 .br (decide (x1.2.1<(x1.2.2.2.1.length:Int))) (
 .ob (idx x1.2.2.2.1 x1.2.1) fun e2=>
 .ob (M8 (e2.2.2.1,()) (x1.1,())) fun r3=>
 .br r3.1 (
 .leaf (.inr (.inl (x1.2.1,())))) (
 .leaf (.inl (x1.1,i64.wrap (x1.2.1+1),x1.2.2.1,x1.2.2.2.1,())))) (
 .leaf (.inr (.inr ())))
def As0 (a0:B8) (a1:YBs):Tree (YI):=
 .ob (Ax Sy (a1.1,0,a0.1,a0.2.1,())) fun o4=>
 .sm o4 (fun o5=>
 .leaf o5) (fun o6=>
 .leaf (-1,()))
def Uy a0 a1:=(As0 a0 a1).val
def Vy:Lst (Int×Int×List Al×Unit) ((Bool×Unit)⊕(Unit)):=fun x3=>
 Tree.val <|
 .br (decide (x3.1<(x3.2.2.1.length:Int))) (
 .ob (idx x3.2.2.1 x3.1) fun e4=>
 .ob (Ux e4) fun r5=>
 .br (!r5.1) (
 .leaf (.inr (.inl (false,())))) (
 .ob (idx x3.2.2.1 x3.1) fun e6=>
 .ob (Uy (x3.2.1,x3.2.2.1,()) (e6.2.2.1,())) fun r7=>
 .br (r7.1 != x3.1) (
 .leaf (.inr (.inl (false,())))) (
 .leaf (.inl (i64.wrap (x3.1+1),x3.2.1,x3.2.2.1,()))))) (
 .leaf (.inr (.inr ())))
def Azj (a0:B8):Tree (Bool×Unit):=
 .ob (Bl (a0.1,()) (1,()) (6,())) fun r1=>
 .br (!r1.1) (
 .leaf (false,())) (
 .br (decide ((a0.2.1.length:Int)>12)) (
 .leaf (false,())) (
 .ob (Aj0 a0) fun r2=>
 .br (decide (r2.1>a0.1)) (
 .leaf (false,())) (
 .ob (Ax Vy (0,a0.1,a0.2.1,())) fun o8=>
 .sm o8 (fun o9=>
 .leaf o9) (fun o10=>
 .leaf (true,())))))
def Alz a0:=(Azj a0).val
def H4:Lst (List Ak×Int×Int×Unit) ((Bool×Unit)⊕(List Ak×Int×Unit)):=fun x9=>
 Tree.val <|
 .br (decide (x9.2.2.1<x9.2.1)) (
 .ob (idx x9.1 x9.2.2.1) fun e10=>
 .ob (idx x9.1 x9.2.1) fun e11=>
 .br (and (e10.1==e11.1) (and (e10.2.1==e11.2.1) true)) (
 .leaf (.inr (.inl (false,())))) (
 .leaf (.inl (x9.1,x9.2.1,i64.wrap (x9.2.2.1+1),())))) (
 .leaf (.inr (.inr (x9.1,x9.2.1,()))))
def Ju:Lst (List Ak×Int×Unit) ((Bool×Unit)⊕(Unit)):=fun x1=>
 letI k1:=idx x1.1 x1.2.1; Tree.val <|
 .br (decide (x1.2.1<(x1.1.length:Int))) (
 .ob k1 fun e2=>
 .ob (Gg (e2.1,e2.2.1,())) fun r3=>
 .br (!r3.1) (
 .leaf (.inr (.inl (false,())))) (
 .ob k1 fun e4=>
 .ob (Bl (e4.2.2.1,()) (0,()) (1000000,())) fun r5=>
 .br (!r5.1) (
 .leaf (.inr (.inl (false,())))) (
 .ob k1 fun e6=>
 .ob k1 fun e7=>
 .ob (Bl (e6.2.2.2.1,()) (0,()) (i64.wrap (3*e7.2.2.1),())) fun r8=>
 .br (!r8.1) (
 .leaf (.inr (.inl (false,())))) (
 .ob (Ax H4 (x1.1,x1.2.1,0,())) fun o12=>
 .sm o12 (fun o13=>
 .leaf (.inr (.inl o13))) (fun o14=>
 .leaf (.inl (o14.1,i64.wrap (o14.2.1+1),()))))))) (
 .leaf (.inr (.inr ())))
def Wx (a0:List Ak×Unit):Tree (Bool×Unit):=
 .br (decide ((a0.1.length:Int)>8)) (
 .leaf (false,())) (
 .ob (Ax Ju (a0.1,0,())) fun o15=>
 .sm o15 (fun o16=>
 .leaf o16) (fun o17=>
 .leaf (true,())))
def Mi a0:=(Wx a0).val
def Azk (a0:YBs):Tree (Bool×Unit):=
 .ob (Bl ((a0.1.length:Int),()) (1,()) (32,())) fun r1=>
 .leaf r1
def Zc a0:=(Azk a0).val
def K5:Lst (Int×List YBs×List YB×List YB×Int×Int×List Al×List Ak×Unit) ((Bool×Unit)⊕A0):=fun x6=>
 letI u1:=x6.2.2;letI u2:=u1.2.2.2;Tree.val <|
 .br (decide (x6.1<(x6.2.1.length:Int))) (
 .ob (idx x6.2.1 x6.1) fun e7=>
 .ob (Zc e7) fun r8=>
 .br (!r8.1) (
 .leaf (.inr (.inl (false,())))) (
 .leaf (.inl (i64.wrap (x6.1+1),x6.2.1,u1.1,u1.2.1,u1.2.2.1,u2.1,u2.2.1,u2.2.2.1,())))) (
 .leaf (.inr (.inr (x6.2.1,u1.1,u1.2.1,u1.2.2.1,u2.1,u2.2.1,u2.2.2.1,()))))
def K6:Lst (Int×List YBs×List YB×List YB×Int×Int×List Al×List Ak×Unit) ((Bool×Unit)⊕(Unit)):=fun x12=>
 letI u1:=x12.2.2.2.2;Tree.val <|
 .br (decide (x12.1<(x12.2.2.2.2.2.2.1.length:Int))) (
 .ob (idx u1.2.2.1 x12.1) fun e13=>
 .br (decide (e13.1>(x12.2.1.length:Int))) (
 .leaf (.inr (.inl (false,())))) (
 .leaf (.inl (i64.wrap (x12.1+1),x12.2.1,x12.2.2.1,x12.2.2.2.1,u1.1,u1.2.1,u1.2.2.1,u1.2.2.2.1,())))) (
 .leaf (.inr (.inr ())))
def Z8 (a0:A0):Tree (Bool×Unit):=
 letI u1:=a0.2.2;letI u2:=u1.2.2;.ob (Bl ((a0.1.length:Int),()) (1,()) (9,())) fun r1=>
 .br (!r1.1) (
 .leaf (false,())) (
 .ob (Alx (a0.2.1,())) fun r2=>
 .br (!r2.1) (
 .leaf (false,())) (
 .ob (Ag4 (u1.1,u1.2.1,())) fun r3=>
 .br (!r3.1) (
 .leaf (false,())) (
 .ob (Alz (u2.1,u2.2.1,())) fun r4=>
 .br (!r4.1) (
 .leaf (false,())) (
 .ob (Mi (u2.2.2.1,())) fun r5=>
 .br (!r5.1) (
 .leaf (false,())) (
 .ob (Ax K5 (0,a0.1,a0.2.1,u1.1,u1.2.1,u2.1,u2.2.1,u2.2.2.1,())) fun o9=>
 .sm o9 (fun o10=>
 .leaf o10) (fun o11=>letI u3:=o11.2.2.2;
 .ob (Ax K6 (0,o11.1,o11.2.1,o11.2.2.1,u3.1,u3.2.1,u3.2.2.1,u3.2.2.2.1,())) fun o14=>
 .sm o14 (fun o15=>
 .leaf o15) (fun o16=>
 .leaf (true,()))))))))
def Aj1 a0:=(Z8 a0).val
def Vz:Lst (List Ak×Int×Int×Int×Unit) (YI⊕(Unit)):=fun x1=>
 Tree.val <|
 .br (decide (x1.2.1<(x1.1.length:Int))) (
 .ob (idx x1.1 x1.2.1) fun e2=>
 .br (and (e2.1==x1.2.2.1) (and (e2.2.1==x1.2.2.2.1) true)) (
 .leaf (.inr (.inl (x1.2.1,())))) (
 .leaf (.inl (x1.1,i64.wrap (x1.2.1+1),x1.2.2.1,x1.2.2.2.1,())))) (
 .leaf (.inr (.inr ())))
def Azm (a0:List Ak×Unit) (a1:A6):Tree (YI):=
 .ob (Ax Vz (a0.1,0,a1.1,a1.2.1,())) fun o3=>
 .sm o3 (fun o4=>
 .leaf o4) (fun o5=>
 .leaf (-1,()))
def Ae2 a0 a1:=(Azm a0 a1).val
def A6h (a0:List Ak×Unit) (a1:A6) (a2:YI):Tree (List Ak×Unit):=
 letI k1:=([]:List Ak)++a0.1;letI k2:=(a1.1,a1.2.1,a2.1,(0:Int),()); .chk (decide (([]:List Ak).length+a0.1.length<=4294967296)) <|
 .ob (Mi a0) fun r1=>
 .br (!r1.1) (
 .leaf (k1,())) (
 .ob (Gg a1) fun r2=>
 .br (!r2.1) (
 .leaf (k1,())) (
 .ob (Bl a2 (0,()) (1000000,())) fun r3=>
 .br (!r3.1) (
 .leaf (k1,())) (
 .ob (Ae2 a0 a1) fun r4=>
 .br (decide (r4.1<0)) (
 .br ((a0.1.length:Int)==8) (
 .leaf (k1,())) (
 .chk (decide (k1.length+[k2].length<=4294967296)) <|
 .leaf (k1++[k2],()))) (
 .ob (idx k1 r4.1) fun e5=>
 .ob (idx k1 r4.1) fun e6=>
 let q7:=(k1.set (r4.1).toNat (e6.1,e6.2.1,i64.wrap (e5.2.2.1+a2.1),e6.2.2.2.1,()))
 .ob (idx q7 r4.1) fun e8=>
 .br (decide (e8.2.2.1>1000000)) (
 .ob (idx q7 r4.1) fun e9=>
 let q10:=(q7.set (r4.1).toNat (e9.1,e9.2.1,1000000,e9.2.2.2.1,()))
 .leaf (q10,())) (
 .leaf (q7,()))))))
def Avi a0 a1 a2:=(A6h a0 a1 a2).val
def Uk:Lst (List YB×Int×Int×Int×Int×Unit) (Int×Int×Int×Unit):=fun x1=>
 letI u1:=x1.2.2;Tree.val <|
 .br (decide (u1.2.2.1<u1.1)) (
 .ob (idx x1.1 (i64.wrap (x1.2.1+u1.2.2.1))) fun e2=>
 .leaf (.inl (x1.1,x1.2.1,u1.1,i64.wrap (i64.wrap (u1.2.1*256)+i64.wrap e2.1),i64.wrap (u1.2.2.1+1),()))) (
 .leaf (.inr (x1.2.1,u1.1,u1.2.1,())))
def A6j (a0:YBs) (a1 a2:YI):Tree (YI×YI×(Bool×Unit)):=
 .br (decide (a2.1<1)) (
 .leaf ((0,()),(0,()),(false,()))) (
 .br (decide (a2.1>6)) (
 .leaf ((0,()),(0,()),(false,()))) (
 .br (decide (a1.1<0)) (
 .leaf ((0,()),(0,()),(false,()))) (
 .br (decide (a1.1>i64.wrap ((a0.1.length:Int)-a2.1))) (
 .leaf ((0,()),(0,()),(false,()))) (
 .ob (Ax Uk (a0.1,a1.1,a2.1,0,0,())) fun o3=>
 .leaf ((o3.2.2.1,()),(i64.wrap (o3.1+o3.2.1),()),(true,()))))))
def Xh a0 a1 a2:=(A6j a0 a1 a2).val
def As2 (a0:YI):Tree (Bool×Unit):=
 .ob (Bl a0 (4,()) (8,())) fun r1=>
 .leaf r1
def M9 a0:=(As2 a0).val
def As3 (a0 a1:YI):Tree (Bool×Unit):=
 .br (a0.1==4) (
 .leaf (decide (a1.1<=40),())) (
 .br (a0.1==5) (
 .leaf (a1.1==12,())) (
 .br (a0.1==6) (
 .leaf (a1.1==12,())) (
 .leaf (a1.1==4,()))))
def Aa1 a0 a1:=(As3 a0 a1).val
def Ang (a0:As):Tree (Bool×Unit):=
 letI u1:=a0.2.2.2.2;letI u2:=u1.2.2.2;letI k1:=(a0.2.2.2.2.2.2.1.length:Int);letI k2:=(a0.2.2.2.2.2.1.length:Int);letI k3:=(a0.2.2.2.1.length:Int)==(12:Int);letI k4:=Bl (u1.1,()) ((0:Int),()) ((1000000:Int),());letI k5:=Bl (a0.2.1,()) ((1:Int),()) ((9:Int),());letI k6:=(a0.2.2.2.2.2.2.2.2.2.2.1.length:Int);letI k7:=(a0.2.2.2.2.2.2.2.2.2.1.length:Int);letI k8:=k1==(0:Int);.ob (M9 (a0.1,())) fun r1=>
 .br r1.1 (
 .br (a0.2.1==0) (
 .br ((a0.2.2.1.length:Int)==0) (
 .br k3 (
 .br (u1.1==0) (
 .br (k2==0) (
 .br k8 (
 .ob (Bl (u2.1,()) (0,()) (4294967295,())) fun r2=>
 .br r2.1 (
 .ob (Bl (u2.2.1,()) (0,()) (281474976710655,())) fun r3=>
 .br r3.1 (
 .ob (Aa1 (a0.1,()) (k7,())) fun r4=>
 .br r4.1 (
 .leaf (k6==16,())) (
 .leaf (false,()))) (
 .leaf (false,()))) (
 .leaf (false,()))) (
 .leaf (false,()))) (
 .leaf (false,()))) (
 .leaf (false,()))) (
 .leaf (false,()))) (
 .leaf (false,()))) (
 .leaf (false,()))) (
 .br (u2.1 != 0) (
 .leaf (false,())) (
 .br (u2.2.1 != 0) (
 .leaf (false,())) (
 .br (k7 != 0) (
 .leaf (false,())) (
 .br (k6 != 0) (
 .leaf (false,())) (
 .br ((a0.2.2.1.length:Int) != 12) (
 .leaf (false,())) (
 .br (a0.1==1) (
 .ob k5 fun r5=>
 .br r5.1 (
 .br ((a0.2.2.2.1.length:Int)==0) (
 .br (u1.1==0) (
 .br (k2==0) (
 .leaf (k8,())) (
 .leaf (false,()))) (
 .leaf (false,()))) (
 .leaf (false,()))) (
 .leaf (false,()))) (
 .br (a0.1==2) (
 .br (a0.2.1==0) (
 .br k3 (
 .ob k4 fun r6=>
 .br r6.1 (
 .br (k2==16) (
 .leaf (k8,())) (
 .leaf (false,()))) (
 .leaf (false,()))) (
 .leaf (false,()))) (
 .leaf (false,()))) (
 .br (a0.1==3) (
 .ob k5 fun r7=>
 .br r7.1 (
 .br k3 (
 .ob k4 fun r8=>
 .br r8.1 (
 .br (k2==16) (
 .leaf (k1==16,())) (
 .leaf (false,()))) (
 .leaf (false,()))) (
 .leaf (false,()))) (
 .leaf (false,()))) (
 .leaf (false,()))))))))))
def Kw a0:=(Ang a0).val
def Z9:Lst (Int×List YB×Int×Unit) (YBs):=fun x1=>
 letI u1:=x1.2.2;letI k1:=(i64.wrap ((BitVec.ofInt i64.bits (Int.fdiv x1.1 (2^(min (i64.wrap ((8:Int)*u1.1)).toNat i64.bits))) &&& BitVec.ofInt i64.bits (255:Int)).toNat:Nat));Tree.val <|
 .br (decide (u1.1≥0)) (
 .chk (decide (0<=i64.wrap (8*u1.1))) <|
 .chk (decide (x1.2.1.length+[(u8.wrap k1,())].length<=4294967296)) <|
 .leaf (.inl (x1.1,x1.2.1++[(u8.wrap k1,())],i64.wrap (u1.1-1),()))) (
 .leaf (.inr (x1.2.1,())))
def A6k (a0:YBs) (a1 a2:YI):Tree (YBs):=
 letI k1:=([]:List YB)++a0.1; .chk (decide (([]:List YB).length+a0.1.length<=4294967296)) <|
 .br (decide (a2.1<1)) (
 .leaf (k1,())) (
 .br (decide (a2.1>6)) (
 .leaf (k1,())) (
 .ob (Ax Z9 (a1.1,k1,i64.wrap (a2.1-1),())) fun o2=>
 .leaf o2))
def El a0 a1 a2:=(A6k a0 a1 a2).val
def Jv:Lst (C7) (YBs):=fun x2=>
 Tree.val <|
 .br (decide (x2.2.1<20)) (
 .chk (decide (x2.1.length+[((0:Int),())].length<=4294967296)) <|
 .leaf (.inl (x2.1++[((0:Int),())],i64.wrap (x2.2.1+1),()))) (
 .leaf (.inr (x2.1,())))
def Aig (a0:As):Tree (YBs):=
 letI u1:=a0.2.2;letI u2:=u1.2.2.2;letI u3:=u2.2.2.2;.ob (Kw a0) fun r1=>
 .br (!r1.1) (
 .leaf ([],())) (
 .br (a0.1==1) (
 .chk (decide ([(u8.wrap a0.1,())].length+[(u8.wrap a0.2.1,())].length<=4294967296)) <|
 .chk (decide (([(u8.wrap a0.1,())]++[(u8.wrap a0.2.1,())]).length+a0.2.2.1.length<=4294967296)) <|
 .ob (Ax Jv (([(u8.wrap a0.1,())]++[(u8.wrap a0.2.1,())])++u1.1,0,())) fun o3=>
 .leaf o3) (
 .br (a0.1==2) (
 .chk (decide ([(u8.wrap a0.1,())].length+a0.2.2.1.length<=4294967296)) <|
 .chk (decide (([(u8.wrap a0.1,())]++u1.1).length+a0.2.2.2.1.length<=4294967296)) <|
 .ob (El (([(u8.wrap a0.1,())]++u1.1)++u1.2.1,()) (u1.2.2.1,()) (4,())) fun r4=>
 .chk (decide (r4.1.length+a0.2.2.2.2.2.1.length<=4294967296)) <|
 .leaf (r4.1++u2.1,())) (
 .br (a0.1==3) (
 .chk (decide ([(u8.wrap a0.1,())].length+[(u8.wrap a0.2.1,())].length<=4294967296)) <|
 .chk (decide (([(u8.wrap a0.1,())]++[(u8.wrap a0.2.1,())]).length+a0.2.2.1.length<=4294967296)) <|
 .chk (decide ((([(u8.wrap a0.1,())]++[(u8.wrap a0.2.1,())])++u1.1).length+a0.2.2.2.1.length<=4294967296)) <|
 .ob (El ((([(u8.wrap a0.1,())]++[(u8.wrap a0.2.1,())])++u1.1)++u1.2.1,()) (u1.2.2.1,()) (4,())) fun r5=>
 .chk (decide (r5.1.length+a0.2.2.2.2.2.1.length<=4294967296)) <|
 .chk (decide ((r5.1++u2.1).length+a0.2.2.2.2.2.2.1.length<=4294967296)) <|
 .leaf ((r5.1++u2.1)++u2.2.1,())) (
 .chk (decide ([(u8.wrap a0.1,())].length+a0.2.2.2.1.length<=4294967296)) <|
 .ob (El ([(u8.wrap a0.1,())]++u1.2.1,()) (u2.2.2.1,()) (4,())) fun r6=>
 .ob (El r6 (u3.1,()) (6,())) fun r7=>
 .chk (decide (r7.1.length+a0.2.2.2.2.2.2.2.2.2.2.1.length<=4294967296)) <|
 .chk (decide ((r7.1++u3.2.2.1).length+a0.2.2.2.2.2.2.2.2.2.1.length<=4294967296)) <|
 .leaf ((r7.1++u3.2.2.1)++u3.2.1,())))))
def Jf a0:=(Aig a0).val
def Aih (a0:YBs):Tree (As×(Bool×Unit)):=
 letI k1:=(a0.1.length:Int);letI k6:=(a0.1.take (14:Int).toNat).drop (2:Int).toNat;letI k7:=(a0.1.take (13:Int).toNat).drop (1:Int).toNat;letI k8:=a0.1.take (k1).toNat;letI k10:=(a0.1.take (25:Int).toNat).drop (13:Int).toNat;letI k11:=(a0.1.take (26:Int).toNat).drop (14:Int).toNat;letI k12:=(a0.1.take (46:Int).toNat).drop (30:Int).toNat;letI k13:=(a0.1.take (39:Int).toNat).drop (23:Int).toNat;letI k14:=decide (([]:List YB).length+k6.length<=4294967296);letI k15:=decide (([]:List YB).length+k7.length<=4294967296);letI k16:=decide (k1<=k1);letI k17:=k8.drop (29:Int).toNat;letI k18:=k8.drop (46:Int).toNat;letI k19:=k8.drop (39:Int).toNat;letI k20:=decide ((14:Int)<=k1);letI k21:=decide ((13:Int)<=k1);letI k22:=decide ((46:Int)<=k1);letI k23:=decide ((39:Int)<=k1); .br (k1==0) (
 .leaf ((0,0,[],[],0,[],[],0,0,[],[],()),(false,()))) (
 .ob (idx a0.1 0) fun e1=>letI k9:=i64.wrap (e1.1);
 .br (k9==1) (
 .br (k1 != 34) (
 .leaf ((0,0,[],[],0,[],[],0,0,[],[],()),(false,()))) (
 .ob (idx a0.1 1) fun e2=>letI k5:=(k9,i64.wrap e2.1,([]:List YB)++k6,([]:List YB),(0:Int),([]:List YB),([]:List YB),(0:Int),(0:Int),([]:List YB),([]:List YB),());
 .chk k20 <|
 .chk k14 <|
 .ob (Jf k5) fun r3=>
 .br (!(decide ((H8 r3.1)=(H8 a0.1)))) (
 .leaf ((0,0,[],[],0,[],[],0,0,[],[],()),(false,()))) (
 .leaf (k5,(true,()))))) (
 .br (k9==2) (
 .br (k1 != 45) (
 .leaf ((0,0,[],[],0,[],[],0,0,[],[],()),(false,()))) (
 .chk k21 <|
 .chk k15 <|
 .chk (decide (25<=k1)) <|
 .chk (decide (([]:List YB).length+k10.length<=4294967296)) <|
 .ob (Xh a0 (25,()) (4,())) fun r4=>letI k3:=(k9,(0:Int),([]:List YB)++k7,([]:List YB)++k10,r4.1.1,([]:List YB)++k17,([]:List YB),(0:Int),(0:Int),([]:List YB),([]:List YB),());
 .chk (decide (29<=k1)) <|
 .chk k16 <|
 .chk (decide (([]:List YB).length+k17.length<=4294967296)) <|
 .ob (Jf k3) fun r5=>
 .br (!(decide ((H8 r5.1)=(H8 a0.1)))) (
 .leaf ((0,0,[],[],0,[],[],0,0,[],[],()),(false,()))) (
 .leaf (k3,(true,()))))) (
 .br (k9==3) (
 .br (k1 != 62) (
 .leaf ((0,0,[],[],0,[],[],0,0,[],[],()),(false,()))) (
 .ob (idx a0.1 1) fun e6=>
 .chk k20 <|
 .chk k14 <|
 .chk (decide (26<=k1)) <|
 .chk (decide (([]:List YB).length+k11.length<=4294967296)) <|
 .ob (Xh a0 (26,()) (4,())) fun r7=>letI k2:=(k9,i64.wrap e6.1,([]:List YB)++k6,([]:List YB)++k11,r7.1.1,([]:List YB)++k12,([]:List YB)++k18,(0:Int),(0:Int),([]:List YB),([]:List YB),());
 .chk k22 <|
 .chk (decide (([]:List YB).length+k12.length<=4294967296)) <|
 .chk k22 <|
 .chk k16 <|
 .chk (decide (([]:List YB).length+k18.length<=4294967296)) <|
 .ob (Jf k2) fun r8=>
 .br (!(decide ((H8 r8.1)=(H8 a0.1)))) (
 .leaf ((0,0,[],[],0,[],[],0,0,[],[],()),(false,()))) (
 .leaf (k2,(true,()))))) (
 .br (decide (k1<39)) (
 .leaf ((0,0,[],[],0,[],[],0,0,[],[],()),(false,()))) (
 .chk k21 <|
 .chk k15 <|
 .ob (Xh a0 (13,()) (4,())) fun r9=>
 .ob (Xh a0 (17,()) (6,())) fun r10=>letI k4:=(k9,(0:Int),([]:List YB),([]:List YB)++k7,(0:Int),([]:List YB),([]:List YB),r9.1.1,r10.1.1,([]:List YB)++k19,([]:List YB)++k13,());
 .chk k23 <|
 .chk (decide (([]:List YB).length+k13.length<=4294967296)) <|
 .chk k23 <|
 .chk k16 <|
 .chk (decide (([]:List YB).length+k19.length<=4294967296)) <|
 .ob (Jf k4) fun r11=>
 .br (!(decide ((H8 r11.1)=(H8 a0.1)))) (
 .leaf ((0,0,[],[],0,[],[],0,0,[],[],()),(false,()))) (
 .leaf (k4,(true,()))))))))
def Aa2 a0:=(Aih a0).val
def Aaa:Lst (Int×Int×List Al×Int×Int×Unit) ((Bool×Unit)⊕(Unit)):=fun x1=>
 letI u1:=x1.2.2;letI k1:=(i64.wrap (x1.1+(1:Int)),x1.2.1,u1.1,u1.2.1,u1.2.2.1,());Tree.val <|
 .br (decide (x1.1<(x1.2.2.1.length:Int))) (
 .ob (idx u1.1 x1.1) fun e2=>
 .br (!e2.2.2.2.2.2.2.2.2.2.2.2.2.2.2.2.2.2.2.2.2.2.2.2.1) (
 .ob (idx u1.1 x1.1) fun e3=>letI u2:=e3.2.2.2.2.2.2.2.2.2.2.2.2.2.2.2.2.2.2;
 .br (and (u2.1==u1.2.1) (and (u2.2.1==u1.2.2.1) true)) (
 .leaf (.inr (.inl (true,())))) (
 .leaf (.inl k1))) (
 .leaf (.inl k1))) (
 .leaf (.inr (.inr ())))
def A6m (a0:B8) (a1:A6):Tree (Bool×Unit):=
 .ob (Ax Aaa (0,a0.1,a0.2.1,a1.1,a1.2.1,())) fun o4=>
 .sm o4 (fun o5=>
 .leaf o5) (fun o6=>
 .leaf (false,()))
def Aj2 a0 a1:=(A6m a0 a1).val
def Adr (a0:List Ak×Unit) (a1:A6):Tree (YI):=
 .ob (Ae2 a0 a1) fun r1=>
 .ob (Mi a0) fun r2=>
 .br (!r2.1) (
 .leaf (0,())) (
 .br (decide (r1.1<0)) (
 .leaf (0,())) (
 .ob (idx a0.1 r1.1) fun e3=>
 .ob (idx a0.1 r1.1) fun e4=>
 .leaf (i64.wrap (i64.wrap (3*e3.2.2.1)-e4.2.2.2.1),())))
def N3 a0 a1:=(Adr a0 a1).val
def As4 (a0:A0) (a1:A6) (a2:YI):Tree (Bool×Unit):=
 letI u1:=a0.2.2.2.2;.ob (Aj2 (u1.1,u1.2.1,()) a1) fun r1=>
 .br r1.1 (
 .leaf (true,())) (
 .ob (N3 (u1.2.2.1,()) a1) fun r2=>
 .leaf (decide (r2.1≥a2.1),()))
def Uz a0 a1 a2:=(As4 a0 a1 a2).val
def Azp:Lst (Int×List YB×Unit) (Int×List YB×Unit):=fun x1=>
 letI k1:=i64.wrap (i64.wrap (x1.1+(x1.2.1.length:Int))+(8:Int)); Tree.val <|
 .chk (decide (0<=k1)) <|
 .br ((k1%64) != 0) (
 .chk (decide (x1.2.1.length+[((0:Int),())].length<=4294967296)) <|
 .leaf (.inl (x1.1,x1.2.1++[((0:Int),())],()))) (
 .leaf (.inr x1))
def Bcy (a0:YI):Tree (YBs):=
 .br (decide (a0.1<0)) (
 .leaf ([],())) (
 .br (decide (a0.1>1048576)) (
 .leaf ([],())) (
 .ob (Ax Azp (a0.1,[(128,())],())) fun o2=>
 .ob (El (o2.2.1,()) (0,()) (4,())) fun r3=>
 .ob (El r3 (i64.wrap (8*o2.1),()) (4,())) fun r4=>
 .leaf r4))
def Bdz a0:=(Bcy a0).val
def Bfm:Tree (List YI×Unit):=
 .leaf ([(1779033703,()),(3144134277,()),(1013904242,()),(2773480762,()),(1359893119,()),(2600822924,()),(528734635,()),(1541459225,())],())
def Bgl:=Bfm.val
def Q9:Lst (List YI×Int×Unit) ((Bool×Unit)⊕(List YI×Unit)):=fun x1=>
 Tree.val <|
 .br (decide (x1.2.1<(x1.1.length:Int))) (
 .ob (idx x1.1 x1.2.1) fun e2=>
 .ob (Bl e2 (0,()) (4294967295,())) fun r3=>
 .br (!r3.1) (
 .leaf (.inr (.inl (false,())))) (
 .leaf (.inl (x1.1,i64.wrap (x1.2.1+1),())))) (
 .leaf (.inr (.inr (x1.1,()))))
def Ani (a0:List YI×Unit):Tree (Bool×Unit):=
 .ob (Ax Q9 (a0.1,0,())) fun o4=>
 .sm o4 (fun o5=>
 .leaf o5) (fun o6=>
 .leaf ((o6.1.length:Int)==8,()))
def Aow a0:=(Ani a0).val
def Bpp:Tree (List YI×Unit):=
 .leaf ([(1116352408,()),(1899447441,()),(3049323471,()),(3921009573,()),(961987163,()),(1508970993,()),(2453635748,()),(2870763221,()),(3624381080,()),(310598401,()),(607225278,()),(1426881987,()),(1925078388,()),(2162078206,()),(2614888103,()),(3248222580,()),(3835390401,()),(4022224774,()),(264347078,()),(604807628,()),(770255983,()),(1249150122,()),(1555081692,()),(1996064986,()),(2554220882,()),(2821834349,()),(2952996808,()),(3210313671,()),(3336571891,()),(3584528711,()),(113926993,()),(338241895,()),(666307205,()),(773529912,()),(1294757372,()),(1396182291,()),(1695183700,()),(1986661051,()),(2177026350,()),(2456956037,()),(2730485921,()),(2820302411,()),(3259730800,()),(3345764771,()),(3516065817,()),(3600352804,()),(4094571909,()),(275423344,()),(430227734,()),(506948616,()),(659060556,()),(883997877,()),(958139571,()),(1322822218,()),(1537002063,()),(1747873779,()),(1955562222,()),(2024104815,()),(2227730452,()),(2361852424,()),(2428436474,()),(2756734187,()),(3204031479,()),(3329325298,())],())
def Bps:=Bpp.val
def Bc0 (a0 a1:YI):Tree (YI):=
 letI k1:=i64.wrap ((BitVec.ofInt i64.bits a0.1 &&& BitVec.ofInt i64.bits (4294967295:Int)).toNat:Nat);letI k2:=i64.wrap ((32:Int)-a1.1); .br (decide (a1.1<1)) (
 .leaf (k1,())) (
 .br (decide (a1.1>31)) (
 .leaf (k1,())) (
 .chk (decide (0<=a1.1)) <|
 .chk (decide (0<=k2)) <|
 .leaf (i64.wrap ((BitVec.ofInt i64.bits (i64.wrap ((BitVec.ofInt i64.bits (Int.fdiv k1 (2^(min (a1.1).toNat i64.bits))) ||| BitVec.ofInt i64.bits (i64.wrap (k1*2^(min (k2).toNat i64.bits)))).toNat:Nat)) &&& BitVec.ofInt i64.bits 4294967295).toNat:Nat),())))
def Mj a0 a1:=(Bc0 a0 a1).val
def K7:Lst (List YB×List YI×Int×Unit) (List YI×Unit):=fun x1=>
 Tree.val <|
 .br (decide (x1.2.2.1<16)) (
 .ob (Xh (x1.1,()) (i64.wrap (4*x1.2.2.1),()) (4,())) fun r2=>
 .chk (decide (x1.2.1.length+[r2.1].length<=4294967296)) <|
 .leaf (.inl (x1.1,x1.2.1++[r2.1],i64.wrap (x1.2.2.1+1),()))) (
 .leaf (.inr (x1.2.1,())))
def Jw:Lst (List YI×Int×Unit) (List YI×Unit):=fun x4=>
 Tree.val <|
 .br (decide (x4.2.1<64)) (
 .ob (idx x4.1 (i64.wrap (x4.2.1-15))) fun e5=>
 .ob (idx x4.1 (i64.wrap (x4.2.1-2))) fun e6=>
 .ob (Mj e5 (7,())) fun r7=>
 .ob (Mj e5 (18,())) fun r8=>
 .ob (Mj e6 (17,())) fun r9=>
 .ob (Mj e6 (19,())) fun r10=>
 .ob (idx x4.1 (i64.wrap (x4.2.1-7))) fun e11=>
 .ob (idx x4.1 (i64.wrap (x4.2.1-16))) fun e12=>letI k1:=(i64.wrap ((BitVec.ofInt i64.bits (i64.wrap (i64.wrap (i64.wrap (e11.1+e12.1)+i64.wrap ((BitVec.ofInt i64.bits (i64.wrap ((BitVec.ofInt i64.bits r7.1 ^^^ BitVec.ofInt i64.bits r8.1).toNat:Nat)) ^^^ BitVec.ofInt i64.bits (Int.fdiv e5.1 (2^(min (3:Int).toNat i64.bits)))).toNat:Nat))+i64.wrap ((BitVec.ofInt i64.bits (i64.wrap ((BitVec.ofInt i64.bits r9.1 ^^^ BitVec.ofInt i64.bits r10.1).toNat:Nat)) ^^^ BitVec.ofInt i64.bits (Int.fdiv e6.1 (2^(min (10:Int).toNat i64.bits)))).toNat:Nat))) &&& BitVec.ofInt i64.bits (4294967295:Int)).toNat:Nat),());
 .chk (decide (x4.1.length+[k1].length<=4294967296)) <|
 .leaf (.inl (x4.1++[k1],i64.wrap (x4.2.1+1),()))) (
 .leaf (.inr (x4.1,())))
def Aab (a0:YBs):Tree (List YI×Unit):=
 .br ((a0.1.length:Int) != 64) (
 .leaf ([],())) (
 .ob (Ax K7 (a0.1,[],0,())) fun o3=>
 .ob (Ax Jw (o3.1,16,())) fun o13=>
 .leaf o13)
def Aj3 a0:=(Aab a0).val
def Iv:Lst (List YI×List YI×List YI×List YI×Int×Int×Int×Int×Int×Int×Int×Int×Int×Unit) (List YI×List YI×Int×Int×Int×Int×Int×Int×Int×Int×Unit):=fun x12=>
 letI u1:=x12.2.2;letI u2:=u1.2.2;letI u3:=u2.2.2;letI u4:=u3.2.2;letI u5:=u4.2.2;Tree.val <|
 .br (decide (u5.2.2.1<64)) (
 .ob (Mj (u4.1,()) (6,())) fun r13=>
 .ob (Mj (u4.1,()) (11,())) fun r14=>
 .ob (Mj (u4.1,()) (25,())) fun r15=>
 .ob (idx u1.1 u5.2.2.1) fun e16=>
 .ob (idx u1.2.1 u5.2.2.1) fun e17=>letI k1:=i64.wrap ((BitVec.ofInt i64.bits (i64.wrap (i64.wrap (i64.wrap (i64.wrap (u5.2.1+i64.wrap ((BitVec.ofInt i64.bits (i64.wrap ((BitVec.ofInt i64.bits r13.1 ^^^ BitVec.ofInt i64.bits r14.1).toNat:Nat)) ^^^ BitVec.ofInt i64.bits r15.1).toNat:Nat))+i64.wrap ((BitVec.ofInt i64.bits (i64.wrap ((BitVec.ofInt i64.bits u4.1 &&& BitVec.ofInt i64.bits u4.2.1).toNat:Nat)) ^^^ BitVec.ofInt i64.bits (i64.wrap ((BitVec.ofInt i64.bits (i64.wrap ((BitVec.ofInt i64.bits u4.1 ^^^ BitVec.ofInt i64.bits (4294967295:Int)).toNat:Nat)) &&& BitVec.ofInt i64.bits u5.1).toNat:Nat))).toNat:Nat))+e16.1)+e17.1)) &&& BitVec.ofInt i64.bits (4294967295:Int)).toNat:Nat);
 .ob (Mj (u2.1,()) (2,())) fun r18=>
 .ob (Mj (u2.1,()) (13,())) fun r19=>
 .ob (Mj (u2.1,()) (22,())) fun r20=>
 .leaf (.inl (x12.1,x12.2.1,u1.1,u1.2.1,i64.wrap ((BitVec.ofInt i64.bits (i64.wrap (k1+i64.wrap ((BitVec.ofInt i64.bits (i64.wrap (i64.wrap ((BitVec.ofInt i64.bits (i64.wrap ((BitVec.ofInt i64.bits r18.1 ^^^ BitVec.ofInt i64.bits r19.1).toNat:Nat)) ^^^ BitVec.ofInt i64.bits r20.1).toNat:Nat)+i64.wrap ((BitVec.ofInt i64.bits (i64.wrap ((BitVec.ofInt i64.bits (i64.wrap ((BitVec.ofInt i64.bits u2.1 &&& BitVec.ofInt i64.bits u2.2.1).toNat:Nat)) ^^^ BitVec.ofInt i64.bits (i64.wrap ((BitVec.ofInt i64.bits u2.1 &&& BitVec.ofInt i64.bits u3.1).toNat:Nat))).toNat:Nat)) ^^^ BitVec.ofInt i64.bits (i64.wrap ((BitVec.ofInt i64.bits u2.2.1 &&& BitVec.ofInt i64.bits u3.1).toNat:Nat))).toNat:Nat))) &&& BitVec.ofInt i64.bits 4294967295).toNat:Nat))) &&& BitVec.ofInt i64.bits 4294967295).toNat:Nat),u2.1,u2.2.1,u3.1,i64.wrap ((BitVec.ofInt i64.bits (i64.wrap (u3.2.1+k1)) &&& BitVec.ofInt i64.bits 4294967295).toNat:Nat),u4.1,u4.2.1,u5.1,i64.wrap (u5.2.2.1+1),()))) (
 .leaf (.inr (x12.1,x12.2.1,u2.1,u2.2.1,u3.1,u3.2.1,u4.1,u4.2.1,u5.1,u5.2.1,())))
def H5:Lst (List YI×List YI×List YI×Int×Unit) (List YI×Unit):=fun x22=>
 letI u1:=x22.2.2.2;Tree.val <|
 .br (decide (u1.1<8)) (
 .ob (idx x22.1 u1.1) fun e23=>
 .ob (idx x22.2.2.1 u1.1) fun e24=>
 .ob (idx x22.2.1 u1.1) fun e25=>
 let q26:=(x22.2.1.set (u1.1).toNat (i64.wrap ((BitVec.ofInt i64.bits (i64.wrap (e23.1+e24.1)) &&& BitVec.ofInt i64.bits 4294967295).toNat:Nat),()))
 .leaf (.inl (x22.1,q26,x22.2.2.1,i64.wrap (u1.1+1),()))) (
 .leaf (.inr (x22.2.1,())))
def Aac (a0:List YI×Unit) (a1:YBs):Tree (List YI×Unit):=
 letI k1:=([]:List YI)++a0.1; .chk (decide (([]:List YI).length+a0.1.length<=4294967296)) <|
 .ob (Aow a0) fun r1=>
 .br (!r1.1) (
 .leaf (k1,())) (
 .br ((a1.1.length:Int) != 64) (
 .leaf (k1,())) (
 .ob Bps fun r2=>
 .ob (Aj3 a1) fun r3=>
 .ob (idx a0.1 0) fun e4=>
 .ob (idx a0.1 1) fun e5=>
 .ob (idx a0.1 2) fun e6=>
 .ob (idx a0.1 3) fun e7=>
 .ob (idx a0.1 4) fun e8=>
 .ob (idx a0.1 5) fun e9=>
 .ob (idx a0.1 6) fun e10=>
 .ob (idx a0.1 7) fun e11=>
 .ob (Ax Iv (a0.1,k1,r2.1,r3.1,e4.1,e5.1,e6.1,e7.1,e8.1,e9.1,e10.1,e11.1,0,())) fun o21=>letI u1:=o21.2.2.2;letI u2:=u1.2.2.2;
 .ob (Ax H5 (o21.1,o21.2.1,[(o21.2.2.1,()),(u1.1,()),(u1.2.1,()),(u1.2.2.1,()),(u2.1,()),(u2.2.1,()),(u2.2.2.1,()),(u2.2.2.2.1,())],0,())) fun o27=>
 .leaf o27))
def Aa3 a0 a1:=(Aac a0 a1).val
def Rt:Lst (Sj) (YBs):=fun x1=>
 Tree.val <|
 .br (decide (x1.2.2.1<8)) (
 .ob (idx x1.1 x1.2.2.1) fun e2=>
 .ob (El (x1.2.1,()) e2 (4,())) fun r3=>
 .leaf (.inl (x1.1,r3.1,i64.wrap (x1.2.2.1+1),()))) (
 .leaf (.inr (x1.2.1,())))
def Azs (a0:List YI×Unit):Tree (YBs):=
 .ob (Ax Rt (a0.1,[],0,())) fun o4=>
 .leaf o4
def A1o a0:=(Azs a0).val
def X8:Lst (List YB×List YI×Int×Unit) (List YI×Unit):=fun x3=>
 letI u1:=x3.2.2;letI k1:=i64.wrap (u1.1+(64:Int));Tree.val <|
 .br (decide (u1.1<(x3.1.length:Int))) (
 .chk (decide (0<=u1.1)) <|
 .chk (decide (u1.1<=k1)) <|
 .chk (decide (k1<=(x3.1.length:Int))) <|
 .ob (Aa3 (x3.2.1,()) ((x3.1.take (k1).toNat).drop (u1.1).toNat,())) fun r4=>
 .leaf (.inl (x3.1,r4.1,k1,()))) (
 .leaf (.inr (x3.2.1,())))
def Bc2 (a0:YBs):Tree (YBs):=
 .br (decide ((a0.1.length:Int)>1048576)) (
 .leaf ([],())) (
 .chk (decide (([]:List YB).length+a0.1.length<=4294967296)) <|
 .ob (Bdz ((a0.1.length:Int),())) fun r1=>
 .chk (decide ((([]:List YB)++a0.1).length+r1.1.length<=4294967296)) <|
 .ob Bgl fun r2=>
 .ob (Ax X8 ((([]:List YB)++a0.1)++r1.1,r2.1,0,())) fun o5=>
 .ob (A1o o5) fun r6=>
 .leaf r6)
def Aq2 a0:=(Bc2 a0).val
def Ul:Lst (YBs) (YBs):=fun x2=>
 Tree.val <|
 .br (decide ((x2.1.length:Int)<64)) (
 .chk (decide (x2.1.length+[((0:Int),())].length<=4294967296)) <|
 .leaf (.inl (x2.1++[((0:Int),())],()))) (
 .leaf (.inr x2))
def Aik (a0:YBs):Tree (YBs):=
 .br (decide ((a0.1.length:Int)>1048576)) (
 .leaf ([],())) (
 .chk (decide (([]:List YB).length+a0.1.length<=4294967296)) <|
 .br (decide ((a0.1.length:Int)>64)) (
 .ob (Aq2 a0) fun r1=>
 .ob (Ax Ul r1) fun o3=>
 .leaf o3) (
 .ob (Ax Ul (([]:List YB)++a0.1,())) fun o4=>
 .leaf o4))
def Aj4 a0:=(Aik a0).val
def Um:Lst (List YB×List YB×List YB×List YB×Int×Unit) (List YB×List YB×List YB×Unit):=fun x2=>
 letI u1:=x2.2.2.2;Tree.val <|
 .br (decide (u1.2.1<64)) (
 .ob (idx x2.2.1 u1.2.1) fun e3=>
 .chk (decide (x2.2.2.1.length+[(u8.wrap ((BitVec.ofInt u8.bits e3.1 ^^^ BitVec.ofInt u8.bits (54:Int)).toNat:Nat),())].length<=4294967296)) <|
 .ob (idx x2.2.1 u1.2.1) fun e4=>
 .chk (decide (x2.2.2.2.1.length+[(u8.wrap ((BitVec.ofInt u8.bits e4.1 ^^^ BitVec.ofInt u8.bits (92:Int)).toNat:Nat),())].length<=4294967296)) <|
 .leaf (.inl (x2.1,x2.2.1,x2.2.2.1++[(u8.wrap ((BitVec.ofInt u8.bits e3.1 ^^^ BitVec.ofInt u8.bits (54:Int)).toNat:Nat),())],u1.1++[(u8.wrap ((BitVec.ofInt u8.bits e4.1 ^^^ BitVec.ofInt u8.bits (92:Int)).toNat:Nat),())],i64.wrap (u1.2.1+1),()))) (
 .leaf (.inr (x2.1,x2.2.2.1,u1.1,())))
def A6p (a0 a1:YBs):Tree (YBs):=
 .br (decide ((a0.1.length:Int)>1048576)) (
 .leaf ([],())) (
 .br (decide ((a1.1.length:Int)>1048512)) (
 .leaf ([],())) (
 .ob (Aj4 a0) fun r1=>
 .ob (Ax Um (a1.1,r1.1,[],[],0,())) fun o5=>
 .chk (decide (o5.2.1.length+o5.1.length<=4294967296)) <|
 .ob (Aq2 (o5.2.1++o5.1,())) fun r6=>
 .chk (decide (o5.2.2.1.length+r6.1.length<=4294967296)) <|
 .ob (Aq2 (o5.2.2.1++r6.1,())) fun r7=>
 .leaf r7))
def Xi a0 a1:=(A6p a0 a1).val
def As5 (a0:YBs) (a1:YI):Tree (YBs):=
 .ob (Bl ((a0.1.length:Int),()) (1,()) (32,())) fun r1=>
 .br (!r1.1) (
 .leaf ([],())) (
 .ob (Bl a1 (0,()) (10000,())) fun r2=>
 .br (!r2.1) (
 .leaf ([],())) (
 .ob (El ([(114,()),(111,()),(108,()),(108,())],()) a1 (4,())) fun r3=>
 .ob (Xi a0 r3) fun r4=>letI k1:=(r4.1.take (12:Int).toNat).drop (0:Int).toNat;
 .chk (decide (12<=(r4.1.length:Int))) <|
 .chk (decide (([]:List YB).length+k1.length<=4294967296)) <|
 .leaf (([]:List YB)++k1,())))
def Avj a0 a1:=(As5 a0 a1).val
def A6q (a0:C7):Tree (C7×YBs):=
 .ob (Aeb a0) fun r1=>
 .ob (Ag4 a0) fun r2=>
 .br (!r2.1) (
 .leaf (r1,([],()))) (
 .br (a0.2.1==10000) (
 .leaf (r1,([],()))) (
 .ob (Avj (a0.1,()) (a0.2.1,())) fun r3=>
 .leaf ((r1.1,i64.wrap (a0.2.1+1),()),r3)))
def Avk a0:=(A6q a0).val
def Anj (a0:YBs) (a1:A6):Tree (YBs):=
 .ob (Gg a1) fun r1=>
 .br (!r1.1) (
 .chk (decide (([]:List YB).length+a0.1.length<=4294967296)) <|
 .leaf (([]:List YB)++a0.1,())) (
 .ob (El a0 (a1.1,()) (4,())) fun r2=>
 .ob (El r2 (a1.2.1,()) (2,())) fun r3=>
 .leaf r3)
def A5n a0 a1:=(Anj a0 a1).val
def Aim (a0:A6) (a1:YI) (a2 a3:YBs) (a4:YI):Tree (YBs):=
 .ob (Gg a0) fun r1=>
 .br (!r1.1) (
 .leaf ([],())) (
 .ob (Bl a1 (1,()) (9,())) fun r2=>
 .br (!r2.1) (
 .leaf ([],())) (
 .br ((a2.1.length:Int) != 12) (
 .leaf ([],())) (
 .br ((a3.1.length:Int) != 12) (
 .leaf ([],())) (
 .ob (Bl a4 (0,()) (1000000,())) fun r3=>
 .br (!r3.1) (
 .leaf ([],())) (
 .ob (A5n ([(99,())],()) a0) fun r4=>
 .chk (decide (r4.1.length+[(u8.wrap a1.1,())].length<=4294967296)) <|
 .chk (decide ((r4.1++[(u8.wrap a1.1,())]).length+a2.1.length<=4294967296)) <|
 .chk (decide (((r4.1++[(u8.wrap a1.1,())])++a2.1).length+a3.1.length<=4294967296)) <|
 .ob (El (((r4.1++[(u8.wrap a1.1,())])++a2.1)++a3.1,()) a4 (4,())) fun r5=>
 .leaf r5)))))
def Tj a0 a1 a2 a3 a4:=(Aim a0 a1 a2 a3 a4).val
def Bc3 (a0 a1:YBs):Tree (YBs):=
 .ob (Xi a0 a1) fun r1=>letI k1:=(r1.1.take (16:Int).toNat).drop (0:Int).toNat;
 .br (decide ((r1.1.length:Int)<16)) (
 .leaf ([],())) (
 .chk (decide (16<=(r1.1.length:Int))) <|
 .chk (decide (([]:List YB).length+k1.length<=4294967296)) <|
 .leaf (([]:List YB)++k1,()))
def Ahq a0 a1:=(Bc3 a0 a1).val
def A6s (a0:YBs) (a1:A6) (a2:YI) (a3 a4:YBs) (a5:YI):Tree (YBs):=
 .ob (Tj a1 a2 a3 a4 a5) fun r1=>
 .ob (Alx a0) fun r2=>
 .br (!r2.1) (
 .leaf ([],())) (
 .br ((r1.1.length:Int)==0) (
 .leaf ([],())) (
 .ob (Ahq a0 r1) fun r3=>
 .leaf r3))
def Avl a0 a1 a2 a3 a4 a5:=(A6s a0 a1 a2 a3 a4 a5).val
def Afk (a0:YBs):Tree (Am):=
 .chk (decide (([]:List YB).length+a0.1.length<=4294967296)) <|
 .leaf (14,0,0,[],[],0,0,([]:List YB)++a0.1,[],0,0,0,())
def Rj a0:=(Afk a0).val
def A6u (a0 a1:YBs):Tree (Am):=
 .chk (decide (([]:List YB).length+a0.1.length<=4294967296)) <|
 .chk (decide (([]:List YB).length+a1.1.length<=4294967296)) <|
 .leaf (15,0,0,[],[],0,0,([]:List YB)++a1.1,([]:List YB)++a0.1,0,0,0,())
def Avm a0 a1:=(A6u a0 a1).val
def Azu (a0 a1:YI):Tree (Bool×Unit):=
 .ob (Bl a0 (0,()) (1000000,())) fun r1=>
 .br r1.1 (
 .ob (Bl a1 (0,()) (1000000,())) fun r2=>
 .br r2.1 (
 .ob (Bl (i64.wrap (a0.1-a1.1),()) (0,()) (10,())) fun r3=>
 .leaf r3) (
 .leaf (false,()))) (
 .leaf (false,()))
def A1p a0 a1:=(Azu a0 a1).val
def Aad:Lst (List YB×List YB×Int×Int×Unit) (YI):=fun x1=>
 letI u1:=x1.2.2;Tree.val <|
 .br (decide (u1.2.1<(x1.1.length:Int))) (
 .ob (idx x1.1 u1.2.1) fun e2=>
 .ob (idx x1.2.1 u1.2.1) fun e3=>
 .leaf (.inl (x1.1,x1.2.1,i64.wrap ((BitVec.ofInt i64.bits u1.1 ||| BitVec.ofInt i64.bits (i64.wrap (u8.wrap ((BitVec.ofInt u8.bits e2.1 ^^^ BitVec.ofInt u8.bits e3.1).toNat:Nat)))).toNat:Nat),i64.wrap (u1.2.1+1),()))) (
 .leaf (.inr (u1.1,())))
def A6v (a0 a1:YBs):Tree (YI):=
 .br ((a0.1.length:Int) != (a1.1.length:Int)) (
 .leaf (-1,())) (
 .ob (Ax Aad (a0.1,a1.1,0,0,())) fun o4=>
 .leaf o4)
def A7q a0 a1:=(A6v a0 a1).val
def Ank (a0 a1:YBs):Tree (Bool×Unit):=
 .br ((a0.1.length:Int)==16) (
 .ob (A7q a0 a1) fun r1=>
 .leaf (r1.1==0,())) (
 .leaf (false,()))
def V8 a0 a1:=(Ank a0 a1).val
def Azv (a0:YBs) (a1:YI) (a2:A6) (a3:As):Tree (YI):=
 letI u1:=a3.2.2.2;.ob (Alx a0) fun r1=>
 .br (!r1.1) (
 .leaf (1,())) (
 .ob (Bl a1 (0,()) (1000000,())) fun r2=>
 .br (!r2.1) (
 .leaf (1,())) (
 .ob (Gg a2) fun r3=>
 .br (!r3.1) (
 .leaf (1,())) (
 .ob (Kw a3) fun r4=>
 .br (!r4.1) (
 .leaf (1,())) (
 .br (a3.1 != 3) (
 .leaf (1,())) (
 .ob (A1p a1 (u1.2.1,())) fun r5=>
 .br (!r5.1) (
 .leaf (9,())) (
 .ob (Avl a0 a2 (a3.2.1,()) (a3.2.2.1,()) (u1.1,()) (u1.2.1,())) fun r6=>
 .ob (V8 (u1.2.2.1,()) r6) fun r7=>
 .br (!r7.1) (
 .leaf (2,())) (
 .leaf (0,()))))))))
def A1q a0 a1 a2 a3:=(Azv a0 a1 a2 a3).val
def Adt (a0 a1:YBs):Tree (YBs):=
 .ob (Xi a0 a1) fun r1=>
 .leaf r1
def Aed a0 a1:=(Adt a0 a1).val
def Oj:Lst (List YB×List YB×Int×List YB×List YB×Int×Unit) (Int×List YB×Unit):=fun x2=>
 letI u1:=x2.2.2;letI u2:=u1.2.2;letI k1:=([]:List YB)++u2.1;Tree.val <|
 .br (decide ((x2.2.2.2.1.length:Int)<u1.1)) (
 .chk (decide (([]:List YB).length+x2.2.2.2.2.1.length<=4294967296)) <|
 .chk (decide (k1.length+x2.2.1.length<=4294967296)) <|
 .chk (decide ((k1++x2.2.1).length+[(u8.wrap u2.2.1,())].length<=4294967296)) <|
 .ob (Xi (x2.1,()) ((k1++x2.2.1)++[(u8.wrap u2.2.1,())],())) fun r3=>
 .chk (decide (x2.2.2.2.1.length+r3.1.length<=4294967296)) <|
 .leaf (.inl (x2.1,x2.2.1,u1.1,u1.2.1++r3.1,r3.1,i64.wrap (u2.2.1+1),()))) (
 .leaf (.inr (u1.1,u1.2.1,())))
def As7 (a0 a1:YBs) (a2:YI):Tree (YBs×(Bool×Unit)):=
 .ob (Bl a2 (0,()) (8160,())) fun r1=>
 .br (!r1.1) (
 .leaf (([],()),(false,()))) (
 .br (decide ((a1.1.length:Int)>100)) (
 .leaf (([],()),(false,()))) (
 .br (decide ((a0.1.length:Int)>1048576)) (
 .leaf (([],()),(false,()))) (
 .ob (Ax Oj (a0.1,a1.1,a2.1,[],[],1,())) fun o4=>letI k1:=(o4.2.1.take (o4.1).toNat).drop (0:Int).toNat;
 .chk (decide (0<=o4.1)) <|
 .chk (decide (o4.1<=(o4.2.1.length:Int))) <|
 .chk (decide (([]:List YB).length+k1.length<=4294967296)) <|
 .leaf ((([]:List YB)++k1,()),(true,())))))
def Avn a0 a1 a2:=(As7 a0 a1 a2).val
def As8 (a0:YBs) (a1:ByteArray×Unit):Tree (YBs):=
 .chk (decide (a1.1.size<=4294967296)) <|
 .ob (Avn a0 (L8 a1.1,()) (32,())) fun r1=>
 .leaf r1.1
def Na a0 a1:=(As8 a0 a1).val
def Afm (a0:YBs):Tree (YBs):=
 .ob (Zc a0) fun r1=>
 .br (!r1.1) (
 .leaf ([],())) (
 .ob (Aed ([(114,()),(111,()),(97,()),(109,())],()) a0) fun r2=>
 .ob (Na r2 (Hg [102,105,110,105,115,104],())) fun r3=>
 .leaf r3)
def W0 a0:=(Afm a0).val
def Afo (a0:YI) (a1 a2:YBs) (a3:YI) (a4:YBs):Tree (YBs):=
 .ob (Bl a0 (1,()) (9,())) fun r1=>
 .br (!r1.1) (
 .leaf ([],())) (
 .br ((a1.1.length:Int) != 12) (
 .leaf ([],())) (
 .br ((a2.1.length:Int) != 12) (
 .leaf ([],())) (
 .ob (Bl a3 (0,()) (1000000,())) fun r2=>
 .br (!r2.1) (
 .leaf ([],())) (
 .br ((a4.1.length:Int) != 16) (
 .leaf ([],())) (
 .chk (decide ([((102:Int),()),(u8.wrap a0.1,())].length+a1.1.length<=4294967296)) <|
 .chk (decide (([((102:Int),()),(u8.wrap a0.1,())]++a1.1).length+a2.1.length<=4294967296)) <|
 .ob (El (([((102:Int),()),(u8.wrap a0.1,())]++a1.1)++a2.1,()) a3 (4,())) fun r3=>
 .chk (decide (r3.1.length+a4.1.length<=4294967296)) <|
 .leaf (r3.1++a4.1,()))))))
def W1 a0 a1 a2 a3 a4:=(Afo a0 a1 a2 a3 a4).val
def Azx (a0:YBs) (a1:YI) (a2 a3:YBs) (a4:YI) (a5:YBs):Tree (YBs):=
 .ob (W0 a0) fun r1=>
 .ob (W1 a1 a2 a3 a4 a5) fun r2=>
 .br ((r1.1.length:Int)==0) (
 .leaf ([],())) (
 .br ((r2.1.length:Int)==0) (
 .leaf ([],())) (
 .ob (Ahq r1 r2) fun r3=>
 .leaf r3))
def A1r a0 a1 a2 a3 a4 a5:=(Azx a0 a1 a2 a3 a4 a5).val
def Anm (a0:YBs) (a1:As):Tree (Bool×Unit):=
 letI u1:=a1.2.2.2;.ob (Kw a1) fun r1=>
 .br r1.1 (
 .br (a1.1==3) (
 .ob (A1r a0 (a1.2.1,()) (a1.2.2.1,()) (u1.1,()) (u1.2.1,()) (u1.2.2.1,())) fun r2=>
 .ob (V8 (u1.2.2.2.1,()) r2) fun r3=>
 .leaf r3) (
 .leaf (false,()))) (
 .leaf (false,()))
def Aox a0 a1:=(Anm a0 a1).val
def Ann (a0 a1 a2:YBs):Tree (YBs):=
 .ob (Zc a0) fun r1=>
 .br (!r1.1) (
 .leaf ([],())) (
 .br ((a1.1.length:Int) != 12) (
 .leaf ([],())) (
 .br ((a2.1.length:Int) != 12) (
 .leaf ([],())) (
 .chk (decide (([]:List YB).length+a1.1.length<=4294967296)) <|
 .chk (decide ((([]:List YB)++a1.1).length+a2.1.length<=4294967296)) <|
 .ob (Aed ((([]:List YB)++a1.1)++a2.1,()) a0) fun r2=>
 .leaf r2)))
def Aoy a0 a1 a2:=(Ann a0 a1 a2).val
def Aio (a0:YBs):Tree (YBs):=
 .br ((a0.1.length:Int) != 32) (
 .leaf ([],())) (
 .ob (Na a0 (Hg [101,112,111,99,104],())) fun r1=>
 .leaf r1)
def Aj5 a0:=(Aio a0).val
def Ru:Lst (Int×List YB×Int×Unit) (YBs):=fun x2=>
 Tree.val <|
 .br (decide (x2.2.2.1<x2.1)) (
 .ob (Na (x2.2.1,()) (Hg [114,101,107,101,121],())) fun r3=>
 .leaf (.inl (x2.1,r3.1,i64.wrap (x2.2.2.1+1),()))) (
 .leaf (.inr (x2.2.1,())))
def Azz (a0:YBs) (a1:YI):Tree (YBs):=
 .ob (Bl a1 (0,()) (64,())) fun r1=>
 .br (!r1.1) (
 .leaf ([],())) (
 .chk (decide (([]:List YB).length+a0.1.length<=4294967296)) <|
 .ob (Ax Ru (a1.1,([]:List YB)++a0.1,0,())) fun o4=>
 .leaf o4)
def A1s a0 a1:=(Azz a0 a1).val
def Aip (a0 a1 a2:YBs) (a3:YI):Tree (YBs):=
 .ob (Aoy a0 a1 a2) fun r1=>
 .ob (Aj5 r1) fun r2=>
 .br ((r2.1.length:Int)==0) (
 .leaf r2) (
 .ob (A1s r2 a3) fun r3=>
 .leaf r3)
def Aa4 a0 a1 a2 a3:=(Aip a0 a1 a2 a3).val
def Ok:Lst (Int×Int×List YI×Int×List YI×Unit) (Int×List YI×Int×List YI×Unit):=fun x1=>
 letI u1:=x1.2.2;Tree.val <|
 .br (decide (x1.1<32)) (
 .chk (decide (x1.2.2.2.2.1.length+[((0:Int),())].length<=4294967296)) <|
 .leaf (.inl (i64.wrap (x1.1+1),x1.2.1,u1.1,u1.2.1,u1.2.2.1++[((0:Int),())],()))) (
 .leaf (.inr (x1.2.1,u1.1,u1.2.1,u1.2.2.1,())))
def As9:Tree (Cz):=
 .ob (Ax Ok (0,0,[],-1,[],())) fun o2=>
 .leaf (o2.2.2.1,o2.2.2.2.1,())
def Avo:=As9.val
def Aeu (a0:YI) (a1:YBs):Tree (YEp):=
 .ob (Bl a0 (0,()) (4294967295,())) fun r1=>
 .br (!r1.1) (
 .leaf (0,[],0,0,[],())) (
 .br ((a1.1.length:Int) != 32) (
 .leaf (0,[],0,0,[],())) (
 .chk (decide (([]:List YB).length+a1.1.length<=4294967296)) <|
 .ob Avo fun r2=>
 .leaf (a0.1,([]:List YB)++a1.1,0,r2.1,r2.2.1,())))
def Nb a0 a1:=(Aeu a0 a1).val
def Adv (a0:YI) (a1 a2:YBs):Tree (Aq):=
 .ob (Bl a0 (0,()) (1,())) fun r1=>
 .br (!r1.1) (
 .leaf (0,[],0,[],0,0,[],0,[],0,0,[],false,0,[],())) (
 .br ((a1.1.length:Int) != 12) (
 .leaf (0,[],0,[],0,0,[],0,[],0,0,[],false,0,[],())) (
 .br ((a2.1.length:Int) != 32) (
 .leaf (0,[],0,[],0,0,[],0,[],0,0,[],false,0,[],())) (
 .chk (decide (([]:List YB).length+a1.1.length<=4294967296)) <|
 .ob (Nb (0,()) a2) fun r2=>
 .leaf (a0.1,([]:List YB)++a1.1,r2.1,r2.2.1,r2.2.2.1,r2.2.2.2.1,r2.2.2.2.2.1,0,[],0,0,[],false,0,[],()))))
def R8 a0 a1 a2:=(Adv a0 a1 a2).val
def Aiq (a0:A6):Tree (Bd):=
 .leaf (a0.1,a0.2.1,[],())
def Aj6 a0:=(Aiq a0).val
def Adw (a0:YBs) (a1:YI) (a2:A6) (a3:As):Tree (Al):=
 letI u1:=a3.2.2;.ob (Zc a0) fun r1=>
 .br (!r1.1) (
 .leaf (0,[],[],0,[],0,[],0,0,[],0,[],0,0,[],false,0,[],0,0,[],0,0,false,())) (
 .ob (Bl a1 (0,()) (1000000,())) fun r2=>
 .br (!r2.1) (
 .leaf (0,[],[],0,[],0,[],0,0,[],0,[],0,0,[],false,0,[],0,0,[],0,0,false,())) (
 .ob (Gg a2) fun r3=>
 .br (!r3.1) (
 .leaf (0,[],[],0,[],0,[],0,0,[],0,[],0,0,[],false,0,[],0,0,[],0,0,false,())) (
 .ob (Kw a3) fun r4=>
 .br (!r4.1) (
 .leaf (0,[],[],0,[],0,[],0,0,[],0,[],0,0,[],false,0,[],0,0,[],0,0,false,())) (
 .br (a3.1 != 3) (
 .leaf (0,[],[],0,[],0,[],0,0,[],0,[],0,0,[],false,0,[],0,0,[],0,0,false,())) (
 .chk (decide (([]:List YB).length+a3.2.2.1.length<=4294967296)) <|
 .chk (decide (([]:List YB).length+a3.2.2.2.1.length<=4294967296)) <|
 .ob (Aa4 a0 (u1.1,()) (u1.2.1,()) (0,())) fun r5=>
 .ob (R8 (1,()) (u1.2.1,()) r5) fun r6=>letI u2:=r6.2.2.2;letI u3:=u2.2.2.2;letI u4:=u3.2.2.2.2;
 .ob (Aj6 a2) fun r7=>
 .leaf (a3.2.1,([]:List YB)++u1.1,([]:List YB)++u1.2.1,r6.1,r6.2.1,r6.2.2.1,u2.1,u2.2.1,u2.2.2.1,u3.1,u3.2.1,u3.2.2.1,u3.2.2.2.1,u4.1,u4.2.1,u4.2.2.1,u4.2.2.2.1,u4.2.2.2.2.1,r7.1,r7.2.1,r7.2.2.1,u1.2.2.1,a1.1,false,()))))))
def Aee a0 a1 a2 a3:=(Adw a0 a1 a2 a3).val
def Ano (a0:B8) (a1:Al):Tree (B8×YI):=
 .ob (Aec a0) fun r1=>
 .ob (Alz a0) fun r2=>
 .br (!r2.1) (
 .leaf (r1,(1,()))) (
 .ob (Ux a1) fun r3=>
 .br (!r3.1) (
 .leaf (r1,(1,()))) (
 .br a1.2.2.2.2.2.2.2.2.2.2.2.2.2.2.2.2.2.2.2.2.2.2.2.1 (
 .leaf (r1,(1,()))) (
 .ob (Uy a0 (a1.2.2.1,())) fun r4=>
 .br (decide (r4.1≥0)) (
 .leaf (r1,(3,()))) (
 .ob (Aj0 a0) fun r5=>
 .br (r5.1==a0.1) (
 .leaf (r1,(7,()))) (
 .br ((a0.2.1.length:Int)==12) (
 .leaf (r1,(7,()))) (
 .ob (R0 a1) fun r6=>
 .chk (decide (r1.2.1.length+[r6].length<=4294967296)) <|
 .leaf ((r1.1,r1.2.1++[r6],()),(0,()))))))))
def Aoz a0 a1:=(Ano a0 a1).val
def A6x (a0 a1 a2:YBs):Tree (Am):=
 .chk (decide (([]:List YB).length+a0.1.length<=4294967296)) <|
 .chk (decide (([]:List YB).length+a1.1.length<=4294967296)) <|
 .chk (decide (([]:List YB).length+a2.1.length<=4294967296)) <|
 .leaf (16,0,0,[],([]:List YB)++a1.1,0,0,([]:List YB)++a2.1,([]:List YB)++a0.1,0,0,0,())
def Aj7 a0 a1 a2:=(A6x a0 a1 a2).val
def Afq (a0:YI):Tree (YBs):=
 .ob (Bl a0 (0,()) (4294967295,())) fun r1=>
 .br (!r1.1) (
 .leaf ([],())) (
 .ob (El ([],()) a0 (4,())) fun r2=>
 .leaf r2)
def W2 a0:=(Afq a0).val
def Atb (a0:YI) (a1:YBs) (a2 a3:YI):Tree (YBs):=
 .ob (Bl a0 (0,()) (1,())) fun r1=>
 .br (!r1.1) (
 .leaf ([],())) (
 .br ((a1.1.length:Int) != 12) (
 .leaf ([],())) (
 .ob (Bl a2 (0,()) (4294967295,())) fun r2=>
 .br (!r2.1) (
 .leaf ([],())) (
 .ob (Bl a3 (0,()) (281474976710655,())) fun r3=>
 .br (!r3.1) (
 .leaf ([],())) (
 .chk (decide ([(u8.wrap a0.1,())].length+a1.1.length<=4294967296)) <|
 .ob (El ([(u8.wrap a0.1,())]++a1.1,()) a2 (4,())) fun r4=>
 .ob (El r4 a3 (6,())) fun r5=>
 .leaf r5))))
def U0 a0 a1 a2 a3:=(Atb a0 a1 a2 a3).val
def Anp (a0 a1:YBs) (a2:YI):Tree (YBs):=
 .ob (Bl a2 (0,()) (6,())) fun r1=>
 .br (!r1.1) (
 .leaf ([],())) (
 .br (decide ((a1.1.length:Int)>100)) (
 .leaf ([],())) (
 .chk (decide ([((115:Int),())].length+a1.1.length<=4294967296)) <|
 .ob (El ([((115:Int),())]++a1.1,()) a2 (4,())) fun r2=>
 .ob (Xi a0 r2) fun r3=>
 .leaf r3))
def Ao0 a0 a1 a2:=(Anp a0 a1 a2).val
def Ol:Lst (List YB×List YB×Int×List YB×Int×Unit) (Int×List YB×Unit):=fun x2=>
 letI u1:=x2.2.2;Tree.val <|
 .br (decide ((x2.2.2.2.1.length:Int)<u1.1)) (
 .ob (Ao0 (x2.1,()) (x2.2.1,()) (u1.2.2.1,())) fun r3=>
 .chk (decide (x2.2.2.2.1.length+r3.1.length<=4294967296)) <|
 .leaf (.inl (x2.1,x2.2.1,u1.1,u1.2.1++r3.1,i64.wrap (u1.2.2.1+1),()))) (
 .leaf (.inr (u1.1,u1.2.1,())))
def Atc (a0 a1:YBs) (a2:YI):Tree (YBs):=
 .ob (Bl a2 (0,()) (200,())) fun r1=>
 .br (!r1.1) (
 .leaf ([],())) (
 .br (decide ((a1.1.length:Int)>100)) (
 .leaf ([],())) (
 .br (decide ((a0.1.length:Int)>1048576)) (
 .leaf ([],())) (
 .ob (Ax Ol (a0.1,a1.1,a2.1,[],0,())) fun o4=>letI k1:=(o4.2.1.take (o4.1).toNat).drop (0:Int).toNat;
 .chk (decide (0<=o4.1)) <|
 .chk (decide (o4.1<=(o4.2.1.length:Int))) <|
 .chk (decide (([]:List YB).length+k1.length<=4294967296)) <|
 .leaf (([]:List YB)++k1,()))))
def Avp a0 a1 a2:=(Atc a0 a1 a2).val
def X9:Lst (List YB×List YB×List YB×Int×Unit) (YBs):=fun x2=>
 letI u1:=x2.2.2;Tree.val <|
 .br (decide (u1.2.1<(x2.1.length:Int))) (
 .ob (idx x2.1 u1.2.1) fun e3=>
 .ob (idx u1.1 u1.2.1) fun e4=>
 .chk (decide (x2.2.1.length+[(u8.wrap ((BitVec.ofInt u8.bits e3.1 ^^^ BitVec.ofInt u8.bits e4.1).toNat:Nat),())].length<=4294967296)) <|
 .leaf (.inl (x2.1,x2.2.1++[(u8.wrap ((BitVec.ofInt u8.bits e3.1 ^^^ BitVec.ofInt u8.bits e4.1).toNat:Nat),())],u1.1,i64.wrap (u1.2.1+1),()))) (
 .leaf (.inr (x2.2.1,())))
def Bc6 (a0 a1 a2:YBs):Tree (YBs):=
 .br (decide ((a2.1.length:Int)>200)) (
 .leaf ([],())) (
 .br (decide ((a1.1.length:Int)>100)) (
 .leaf ([],())) (
 .br (decide ((a0.1.length:Int)>1048576)) (
 .leaf ([],())) (
 .ob (Avp a0 a1 ((a2.1.length:Int),())) fun r1=>
 .ob (Ax X9 (a2.1,[],r1.1,0,())) fun o5=>
 .leaf o5)))
def A3i a0 a1 a2:=(Bc6 a0 a1 a2).val
def Air (a0:YI) (a1:As):Tree (YBs):=
 letI u1:=a1.2.2.2.2.2.2.2;.ob (Bl a0 (0,()) (1,())) fun r1=>
 .br (!r1.1) (
 .leaf ([],())) (
 .ob (Kw a1) fun r2=>
 .br (!r2.1) (
 .leaf ([],())) (
 .ob (M9 (a1.1,())) fun r3=>
 .br (!r3.1) (
 .leaf ([],())) (
 .ob (U0 a0 (a1.2.2.2.1,()) (u1.1,()) (u1.2.1,())) fun r4=>
 .chk (decide ([((116:Int),())].length+r4.1.length<=4294967296)) <|
 .chk (decide (([((116:Int),())]++r4.1).length+[(u8.wrap a1.1,())].length<=4294967296)) <|
 .chk (decide ((([((116:Int),())]++r4.1)++[(u8.wrap a1.1,())]).length+a1.2.2.2.2.2.2.2.2.2.1.length<=4294967296)) <|
 .leaf ((([((116:Int),())]++r4.1)++[(u8.wrap a1.1,())])++u1.2.2.1,()))))
def Ls a0 a1:=(Air a0 a1).val
def Qk:Lst (List YB×Int×Int×Int×Int×List YB×List YB×Int×List YB×List YB×Int×Int×List YB×List YB×Int×Int×List YB×List YB×Int×List YB×List YB×Int×Int×List YB×List YB×Unit) (List YB×Int×Int×Int×List YB×List YB×Int×List YB×List YB×Int×Int×List YB×List YB×Int×Int×List YB×List YB×Int×List YB×List YB×Int×Int×List YB×List YB×Unit):=fun x5=>
 letI u1:=x5.2.2;letI u2:=u1.2.2;letI u3:=u2.2.2;letI u4:=u3.2.2;letI u5:=u4.2.2;letI u6:=u5.2.2;letI u7:=u6.2.2;letI u8:=u7.2.2;letI u9:=u8.2.2;letI u10:=u9.2.2;letI u11:=u10.2.2;Tree.val <|
 .br (decide (u1.1<16)) (
 .chk (decide (x5.2.2.2.2.2.2.2.2.2.2.2.2.2.2.2.2.2.2.2.2.2.2.2.2.1.length+[((0:Int),())].length<=4294967296)) <|
 .leaf (.inl (x5.1,x5.2.1,i64.wrap (u1.1+1),u1.2.1,u2.1,u2.2.1,u3.1,u3.2.1,u4.1,u4.2.1,u5.1,u5.2.1,u6.1,u6.2.1,u7.1,u7.2.1,u8.1,u8.2.1,u9.1,u9.2.1,u10.1,u10.2.1,u11.1,u11.2.1,u11.2.2.1++[((0:Int),())],()))) (
 .leaf (.inr (x5.1,x5.2.1,u1.2.1,u2.1,u2.2.1,u3.1,u3.2.1,u4.1,u4.2.1,u5.1,u5.2.1,u6.1,u6.2.1,u7.1,u7.2.1,u8.1,u8.2.1,u9.1,u9.2.1,u10.1,u10.2.1,u11.1,u11.2.1,u11.2.2.1,())))
def Atd (a0:YBs) (a1:YI) (a2:YBs) (a3 a4 a5:YI) (a6:YBs):Tree (As×(Bool×Unit)):=
 .ob (U0 a1 a2 a3 a4) fun r1=>
 .br ((a0.1.length:Int) != 32) (
 .leaf ((0,0,[],[],0,[],[],0,0,[],[],()),(false,()))) (
 .br ((r1.1.length:Int)==0) (
 .leaf ((0,0,[],[],0,[],[],0,0,[],[],()),(false,()))) (
 .ob (M9 a5) fun r2=>
 .br (!r2.1) (
 .leaf ((0,0,[],[],0,[],[],0,0,[],[],()),(false,()))) (
 .ob (Aa1 a5 ((a6.1.length:Int),())) fun r3=>
 .br (!r3.1) (
 .leaf ((0,0,[],[],0,[],[],0,0,[],[],()),(false,()))) (
 .chk (decide (([]:List YB).length+a2.1.length<=4294967296)) <|
 .ob (A3i a0 r1 a6) fun r4=>
 .ob (Ax Qk (a0.1,a1.1,0,0,0,[],[],0,[],[],0,0,[],[],a5.1,0,[],([]:List YB)++a2.1,0,[],[],a3.1,a4.1,r4.1,[],())) fun o6=>letI u1:=o6.2.2.2.2.2.2.2.2.2.2.2.2.2;letI u2:=u1.2.2;letI u3:=u2.2.2;letI u4:=u3.2.2;letI u5:=u4.2.2;
 .ob (Ls (o6.2.1,()) (u1.1,u1.2.1,u2.1,u2.2.1,u3.1,u3.2.1,u4.1,u4.2.1,u5.1,u5.2.1,u5.2.2.1,())) fun r7=>
 .ob (Ahq (o6.1,()) r7) fun r8=>
 .leaf ((u1.1,u1.2.1,u2.1,u2.2.1,u3.1,u3.2.1,u4.1,u4.2.1,u5.1,u5.2.1,r8.1,()),(true,()))))))
def Avq a0 a1 a2 a3 a4 a5 a6:=(Atd a0 a1 a2 a3 a4 a5 a6).val
def Atf (a0:YEp) (a1:YI) (a2:YBs) (a3:YI) (a4:YBs):Tree (YEp×As×YI):=
 letI u1:=a0.2.2;letI k2:=Avq (a0.2.1,()) a1 a2 (a0.1,()) (u1.1,()) a3 a4;letI k3:=u1.1==(281474976710656:Int);.ob (Uw a0) fun r1=>letI u2:=r1.2.2.2;letI k1:=(r1.1,r1.2.1,i64.wrap (u1.1+(1:Int)),u2.1,u2.2.1,());
 .ob (Xg a0) fun r2=>
 .br (!r2.1) (
 .leaf (r1,(0,0,[],[],0,[],[],0,0,[],[],()),(1,()))) (
 .ob (U0 a1 a2 (a0.1,()) (0,())) fun r3=>
 .br ((r3.1.length:Int)==0) (
 .leaf (r1,(0,0,[],[],0,[],[],0,0,[],[],()),(1,()))) (
 .ob (M9 a3) fun r4=>
 .br (!r4.1) (
 .leaf (r1,(0,0,[],[],0,[],[],0,0,[],[],()),(1,()))) (
 .ob (Aa1 a3 ((a4.1.length:Int),())) fun r5=>
 .br (!r5.1) (
 .leaf (r1,(0,0,[],[],0,[],[],0,0,[],[],()),(1,()))) (
 .br (a3.1==4) (
 .br (decide (u1.1≥281474976709656)) (
 .leaf (r1,(0,0,[],[],0,[],[],0,0,[],[],()),(4,()))) (
 .br k3 (
 .leaf (r1,(0,0,[],[],0,[],[],0,0,[],[],()),(5,()))) (
 .ob k2 fun r6=>
 .leaf (k1,r6.1,(0,()))))) (
 .br k3 (
 .leaf (r1,(0,0,[],[],0,[],[],0,0,[],[],()),(5,()))) (
 .ob k2 fun r7=>
 .leaf (k1,r7.1,(0,()))))))))
def Avr a0 a1 a2 a3 a4:=(Atf a0 a1 a2 a3 a4).val
def Ait (a0:Aq) (a1:YI) (a2:YBs):Tree (Aq×As×YI):=
 letI u1:=a0.2.2.2;.ob (I5 a0) fun r1=>letI u2:=r1.2.2.2.2.2.2.2;letI u3:=u2.2.2.2;
 .ob (Kl a0) fun r2=>
 .br (!r2.1) (
 .leaf (r1,(0,0,[],[],0,[],[],0,0,[],[],()),(1,()))) (
 .ob (Avr (a0.2.2.1,u1.1,u1.2.1,u1.2.2.1,u1.2.2.2.1,()) (a0.1,()) (a0.2.1,()) a1 a2) fun r3=>
 .br (r3.2.2.1==0) (
 .leaf ((r1.1,r1.2.1,r3.1.1,r3.1.2.1,r3.1.2.2.1,r3.1.2.2.2.1,r3.1.2.2.2.2.1,u2.1,u2.2.1,u2.2.2.1,u3.1,u3.2.1,u3.2.2.1,u3.2.2.2.1,u3.2.2.2.2.1,()),r3.2.1,r3.2.2)) (
 .leaf (r1,r3.2.1,r3.2.2)))
def Di a0 a1 a2:=(Ait a0 a1 a2).val
def Bc8 (a0:Aq):Tree (Aq×As×YI):=
 .ob (Kl a0) fun r1=>
 .br (!r1.1) (
 .ob (I5 a0) fun r2=>
 .leaf (r2,(0,0,[],[],0,[],[],0,0,[],[],()),(6,()))) (
 .br (a0.1 != 1) (
 .ob (I5 a0) fun r3=>
 .leaf (r3,(0,0,[],[],0,[],[],0,0,[],[],()),(6,()))) (
 .ob (W2 (a0.2.2.1,())) fun r4=>
 .ob (Di a0 (8,()) r4) fun r5=>
 .leaf (r5.1,r5.2.1,r5.2.2)))
def Aq3 a0:=(Bc8 a0).val
def Anr (a0:Aq) (a1:As):Tree (Am):=
 .ob (Ls (a0.1,()) a1) fun r1=>
 .ob (Avm (a0.2.2.2.1,()) r1) fun r2=>
 .leaf r2
def G4 a0 a1:=(Anr a0 a1).val
def Ant (a0:Al):Tree (Al×(List Au×Unit)×(List Am×Unit)):=
 letI u1:=a0.2.2.2;letI u2:=u1.2.2;letI u3:=u2.2.2.2;letI u4:=u3.2.2.2;letI u5:=u4.2.2.2;letI u6:=u5.2.2.2;.ob (R0 a0) fun r1=>letI u7:=r1.2.2.2.2.2.2.2.2.2.2.2.2.2.2.2.2.2.2;
 .ob (Ux a0) fun r2=>
 .br (!r2.1) (
 .leaf (r1,([],()),([],()))) (
 .br u6.2.2.2.2.2.2.1 (
 .leaf (r1,([],()),([],()))) (
 .br (u2.1 != 0) (
 .leaf (r1,([],()),([],()))) (
 .ob (Aq3 (u1.1,u1.2.1,u2.1,u2.2.1,u2.2.2.1,u3.1,u3.2.1,u3.2.2.1,u4.1,u4.2.1,u4.2.2.1,u5.1,u5.2.1,u5.2.2.1,u6.1,())) fun r3=>letI u8:=r3.1.2.2.2;letI u9:=u8.2.2.2;letI u10:=u9.2.2.2.2;
 .br (r3.2.2.1 != 0) (
 .leaf (r1,([],()),([],()))) (
 .ob (G4 r3.1 r3.2.1) fun r4=>
 .leaf ((r1.1,r1.2.1,r1.2.2.1,r3.1.1,r3.1.2.1,r3.1.2.2.1,u8.1,u8.2.1,u8.2.2.1,u9.1,u9.2.1,u9.2.2.1,u9.2.2.2.1,u10.1,u10.2.1,u10.2.2.1,u10.2.2.2.1,u10.2.2.2.2.1,u7.1,u7.2.1,u7.2.2.1,u7.2.2.2.1,u7.2.2.2.2.1,u7.2.2.2.2.2.1,()),([(u6.2.1,u6.2.2.1,r3.2.1.1,r3.2.1.2.1,r3.2.1.2.2.1,r3.2.1.2.2.2.1,r3.2.1.2.2.2.2.1,r3.2.1.2.2.2.2.2.1,r3.2.1.2.2.2.2.2.2.1,r3.2.1.2.2.2.2.2.2.2.1,r3.2.1.2.2.2.2.2.2.2.2.1,r3.2.1.2.2.2.2.2.2.2.2.2.1,r3.2.1.2.2.2.2.2.2.2.2.2.2.1,())],()),([r4],()))))))
def V9 a0:=(Ant a0).val
def Anu (a0:YI):Tree (YI):=
 .br (decide (a0.1<1024)) (
 .leaf (0,())) (
 .leaf (i64.wrap (i64.wrap (a0.1-1024)+1),()))
def A5o a0:=(Anu a0).val
def Ath (a0:Cz) (a1:YI):Tree (Bool×Unit):=
 .ob (Aly a0) fun r1=>
 .br (!r1.1) (
 .leaf (false,())) (
 .ob (Bl a1 (0,()) (281474976710655,())) fun r2=>
 .br (!r2.1) (
 .leaf (false,())) (
 .br (decide (a1.1>a0.1)) (
 .leaf (true,())) (
 .ob (A5o (a0.1,())) fun r3=>
 .br (decide (a1.1≥r3.1)) (
 .ob (Ae1 a0 a1) fun r4=>
 .leaf (!r4.1,())) (
 .leaf (false,())))))
def Ag5 a0 a1:=(Ath a0 a1).val
def Ati (a0:YBs) (a1:YI) (a2:As):Tree (YBs×(Bool×Unit)):=
 letI u1:=a2.2.2.2.2.2.2.2;.ob (Ls a1 a2) fun r1=>
 .br ((a0.1.length:Int) != 32) (
 .leaf (([],()),(false,()))) (
 .br ((r1.1.length:Int)==0) (
 .leaf (([],()),(false,()))) (
 .ob (Ahq a0 r1) fun r2=>
 .ob (V8 (u1.2.2.2.1,()) r2) fun r3=>
 .br (!r3.1) (
 .leaf (([],()),(false,()))) (
 .ob (U0 a1 (a2.2.2.2.1,()) (u1.1,()) (u1.2.1,())) fun r4=>
 .ob (A3i a0 r4 (u1.2.2.1,())) fun r5=>
 .leaf (r5,(true,())))))
def Avs a0 a1 a2:=(Ati a0 a1 a2).val
def On:Lst (Int×Int×Int×Int×List YI×Int×List YI×Int×List YI×Unit) (Int×Int×List YI×Int×List YI×Int×List YI×Unit):=fun x3=>
 letI u1:=x3.2.2;letI u2:=u1.2.2;letI u3:=u2.2.2;letI k1:=u1.1%(1024:Int);letI k2:=(x3.1,u1.2.1,u2.1,u2.2.1,u3.1,u3.2.1,u3.2.2.1,());letI k3:=decide ((0:Int)<=k1);letI k4:=idx u3.2.2.1 (k1/(32:Int));Tree.val <|
 .br (decide (u1.1<=x3.1)) (
 .br (decide (x3.2.1<1024)) (
 .chk (decide (0<=u1.1)) <|
 .chk k3 <|
 .chk k3 <|
 .ob k4 fun e4=>
 .chk k3 <|
 .chk (decide (0<=(k1%32))) <|
 .ob k4 fun e5=>
 let q6:=(x3.2.2.2.2.2.2.2.2.1.set (k1/(32:Int)).toNat (i64.wrap ((BitVec.ofInt i64.bits e4.1 &&& ~~~ BitVec.ofInt i64.bits (i64.wrap ((1:Int)*2^(min (k1%32).toNat i64.bits)))).toNat:Nat),()))
 .leaf (.inl (x3.1,i64.wrap (x3.2.1+1),i64.wrap (u1.1+1),u1.2.1,u2.1,u2.2.1,u3.1,u3.2.1,q6,()))) (
 .leaf (.inr k2))) (
 .leaf (.inr k2))
def Atj (a0:Cz) (a1:YI):Tree (Cz×(Bool×Unit)):=
 .ob (Avh a0) fun r1=>
 .ob (Ag5 a0 a1) fun r2=>
 .br (!r2.1) (
 .leaf (r1,(false,()))) (
 .ob (Ax On (a1.1,0,i64.wrap (a0.1+1),a0.1,a0.2.1,0,[],r1.1,r1.2.1,())) fun o7=>letI u1:=o7.2.2.2.2.2;letI k1:=o7.1%(1024:Int);letI k2:=decide ((0:Int)<=k1);letI k3:=idx u1.2.1 (k1/(32:Int));
 .chk (decide (0<=o7.1)) <|
 .chk k2 <|
 .chk k2 <|
 .ob k3 fun e8=>
 .chk k2 <|
 .chk (decide (0<=(k1%32))) <|
 .ob k3 fun e9=>
 let q10:=(o7.2.2.2.2.2.2.1.set (k1/(32:Int)).toNat (i64.wrap ((BitVec.ofInt i64.bits e8.1 ||| BitVec.ofInt i64.bits (i64.wrap ((1:Int)*2^(min (k1%32).toNat i64.bits)))).toNat:Nat),()))
 .br (decide (o7.1>o7.2.1)) (
 .leaf ((o7.1,q10,()),(true,()))) (
 .leaf ((u1.1,q10,()),(true,()))))
def Avt a0 a1:=(Atj a0 a1).val
def Atk (a0:YEp) (a1:YI) (a2:As):Tree (YEp×YBs×YI):=
 letI u1:=a0.2.2.2;letI u2:=a2.2.2.2.2.2.2.2;.ob (Uw a0) fun r1=>
 .ob (Xg a0) fun r2=>
 .br (!r2.1) (
 .leaf (r1,([],()),(1,()))) (
 .ob (Ls a1 a2) fun r3=>
 .br ((r3.1.length:Int)==0) (
 .leaf (r1,([],()),(1,()))) (
 .br (u2.1 != a0.1) (
 .leaf (r1,([],()),(1,()))) (
 .ob (Ag5 (u1.1,u1.2.1,()) (u2.2.1,())) fun r4=>
 .br (!r4.1) (
 .leaf (r1,([],()),(3,()))) (
 .ob (Avs (a0.2.1,()) a1 a2) fun r5=>
 .br (!r5.2.1) (
 .leaf (r1,([],()),(2,()))) (
 .ob (Avt (u1.1,u1.2.1,()) (u2.2.1,())) fun r6=>
 .leaf ((r1.1,r1.2.1,r1.2.2.1,r6.1.1,r6.1.2.1,()),r5.1,(0,())))))))
def Nc a0 a1 a2:=(Atk a0 a1 a2).val
def Aag (a0:Aq) (a1:YI) (a2:As):Tree (Aq×YBs×YI):=
 letI u1:=a0.2.2;letI u2:=u1.2.2;letI u3:=u2.2.2.2;letI u4:=u3.2.2;letI u5:=u4.2.2;letI u6:=u5.2.2;letI u7:=a2.2.2.2.2.2.2.2;letI k2:=(i64.wrap ((1:Int)-a0.1),());letI k3:=i64.wrap (u1.1+(1:Int));letI k4:=decide ((a0.2.2.2.2.2.2.2.2.2.2.2.2.2.2.1.length:Int)>(0:Int));letI k5:=i64.wrap (a1.1+(5:Int));letI k6:=Nc (u3.1,u3.2.1,u4.1,u4.2.1,u5.1,()) k2 a2;letI k7:=Nb (k3,()) (u6.2.1,());.ob (I5 a0) fun r1=>letI u8:=r1.2.2;letI u9:=u8.2.2;letI u10:=u9.2.2;letI u11:=u10.2.2;letI u12:=u11.2.2;letI u13:=u12.2.2;letI u14:=u13.2.2;
 .ob (Kl a0) fun r2=>
 .br (!r2.1) (
 .leaf (r1,([],()),(1,()))) (
 .ob (Bl a1 (0,()) (1000000,())) fun r3=>
 .br (!r3.1) (
 .leaf (r1,([],()),(1,()))) (
 .ob (Kw a2) fun r4=>
 .br (!r4.1) (
 .leaf (r1,([],()),(1,()))) (
 .ob (M9 (a2.1,())) fun r5=>
 .br (!r5.1) (
 .leaf (r1,([],()),(1,()))) (
 .ob (M8 (a2.2.2.2.1,()) (a0.2.1,())) fun r6=>
 .br (!r6.1) (
 .leaf (r1,([],()),(8,()))) (
 .br (u7.1==u1.1) (
 .ob (Nc (u1.1,u1.2.1,u2.1,u2.2.1,u2.2.2.1,()) k2 a2) fun r7=>letI u15:=r7.1.2.2;letI k1:=(r1.1,r1.2.1,r7.1.1,r7.1.2.1,u15.1,u15.2.1,u15.2.2.1,u10.2.1,u11.1,u11.2.1,u12.1,u12.2.1,u13.1,u13.2.1,u14.1,());
 .br (r7.2.2.1 != 0) (
 .leaf (r1,([],()),r7.2.2)) (
 .br u5.2.1 (
 .br (u6.1==(-1:Int)) (
 .leaf ((r1.1,r1.2.1,r7.1.1,r7.1.2.1,u15.1,u15.2.1,u15.2.2.1,u10.2.1,u11.1,u11.2.1,u12.1,u12.2.1,u13.1,k5,u14.1,()),r7.2.1,(0,()))) (
 .leaf (k1,r7.2.1,(0,())))) (
 .leaf (k1,r7.2.1,(0,()))))) (
 .br u5.2.1 (
 .br (u7.1==u3.1) (
 .br (u6.1 != (-1:Int)) (
 .br (decide (a1.1>u6.1)) (
 .leaf (r1,([],()),(9,()))) (
 .ob k6 fun r8=>
 .br (r8.2.2.1 != 0) (
 .leaf (r1,([],()),r8.2.2)) (
 .leaf ((r1.1,r1.2.1,u8.1,u8.2.1,u9.1,u9.2.1,u10.1,r8.1.1,r8.1.2.1,r8.1.2.2.1,r8.1.2.2.2.1,r8.1.2.2.2.2.1,u13.1,u13.2.1,u14.1,()),r8.2.1,(0,()))))) (
 .ob k6 fun r9=>
 .br (r9.2.2.1 != 0) (
 .leaf (r1,([],()),r9.2.2)) (
 .leaf ((r1.1,r1.2.1,u8.1,u8.2.1,u9.1,u9.2.1,u10.1,r9.1.1,r9.1.2.1,r9.1.2.2.1,r9.1.2.2.2.1,r9.1.2.2.2.2.1,u13.1,u13.2.1,u14.1,()),r9.2.1,(0,()))))) (
 .br k4 (
 .br (u7.1==k3) (
 .ob k7 fun r10=>
 .ob (Nc r10 k2 a2) fun r11=>
 .br (r11.2.2.1 != 0) (
 .leaf (r1,([],()),r11.2.2)) (
 .leaf ((r1.1,r1.2.1,r11.1.1,r11.1.2.1,r11.1.2.2.1,r11.1.2.2.2.1,r11.1.2.2.2.2.1,u8.1,u8.2.1,u9.1,u9.2.1,u10.1,true,k5,[],()),r11.2.1,(0,())))) (
 .leaf (r1,([],()),(8,())))) (
 .leaf (r1,([],()),(8,()))))) (
 .br k4 (
 .br (u7.1==k3) (
 .ob k7 fun r12=>
 .ob (Nc r12 k2 a2) fun r13=>
 .br (r13.2.2.1 != 0) (
 .leaf (r1,([],()),r13.2.2)) (
 .leaf ((r1.1,r1.2.1,r13.1.1,r13.1.2.1,r13.1.2.2.1,r13.1.2.2.2.1,r13.1.2.2.2.2.1,u8.1,u8.2.1,u9.1,u9.2.1,u10.1,true,k5,[],()),r13.2.1,(0,())))) (
 .leaf (r1,([],()),(8,())))) (
 .leaf (r1,([],()),(8,()))))))))))
def Lu a0 a1 a2:=(Aag a0 a1 a2).val
def Atl (a0:Aq) (a1:YI):Tree (YBs×(Bool×Unit)):=
 letI u1:=a0.2.2;letI u2:=u1.2.2.2.2.2;letI u3:=u2.2.2.2.2.2;letI k1:=decide (([]:List YB).length+a0.2.2.2.2.2.2.2.2.2.2.2.2.2.2.1.length<=4294967296);letI k2:=decide ((a0.2.2.2.2.2.2.2.2.2.2.2.2.2.2.1.length:Int)>(0:Int));letI k3:=decide (([]:List YB).length+a0.2.2.2.1.length<=4294967296);letI k4:=a1.1==(i64.wrap (u1.1+(1:Int)));letI k5:=(([]:List YB)++u3.2.2.1,());letI k6:=(([]:List YB)++u1.2.1,());.ob (Kl a0) fun r1=>
 .br (!r1.1) (
 .leaf (([],()),(false,()))) (
 .br u3.1 (
 .br (a1.1==u2.1) (
 .chk (decide (([]:List YB).length+a0.2.2.2.2.2.2.2.2.1.length<=4294967296)) <|
 .leaf ((([]:List YB)++u2.2.1,()),(true,()))) (
 .br (a1.1==u1.1) (
 .chk k3 <|
 .leaf (k6,(true,()))) (
 .br k2 (
 .br k4 (
 .chk k1 <|
 .leaf (k5,(true,()))) (
 .leaf (([],()),(false,())))) (
 .leaf (([],()),(false,())))))) (
 .br (a1.1==u1.1) (
 .chk k3 <|
 .leaf (k6,(true,()))) (
 .br k2 (
 .br k4 (
 .chk k1 <|
 .leaf (k5,(true,()))) (
 .leaf (([],()),(false,())))) (
 .leaf (([],()),(false,()))))))
def Ag6 a0 a1:=(Atl a0 a1).val
def Oo:Lst (Int×Int×Int×List Av×Int×Int×Int×Int×List YB×Int×Unit) ((Bool×Int×Int×List YB×Int×Unit)⊕Av):=fun x2=>
 letI u1:=x2.2.2.2;letI u2:=u1.2.2;letI u3:=u2.2.2;Tree.val <|
 .br (decide (x2.1<(x2.2.2.2.1.length:Int))) (
 .ob (idx u1.1 x2.1) fun e3=>
 .br (and (e3.1==u1.2.1) (and (e3.2.1==u2.1) true)) (
 .ob (idx u1.1 x2.1) fun e4=>
 .ob (Rz e4) fun r5=>
 .leaf (.inr (.inl (true,r5.1,r5.2.1,r5.2.2.1,r5.2.2.2.1,())))) (
 .leaf (.inl (i64.wrap (x2.1+1),x2.2.1,x2.2.2.1,u1.1,u1.2.1,u2.1,u2.2.1,u3.1,u3.2.1,u3.2.2.1,())))) (
 .leaf (.inr (.inr (u2.2.1,u3.1,u3.2.1,u3.2.2.1,()))))
def Atm (a0:Bd) (a1:A6):Tree (Av×(Bool×Unit)):=
 .ob (R7 a0) fun r1=>
 .br (!r1.1) (
 .leaf ((0,0,[],0,()),(false,()))) (
 .ob (Ax Oo (0,a0.1,a0.2.1,a0.2.2.1,a1.1,a1.2.1,0,0,[],0,())) fun o6=>
 .sm o6 (fun o7=>
 .leaf ((o7.2.1,o7.2.2.1,o7.2.2.2.1,o7.2.2.2.2.1,()),(o7.1,()))) (fun o8=>
 .leaf ((0,0,[],0,()),(false,()))))
def Bba a0 a1:=(Atm a0 a1).val
def Oq:Lst (Int×Int×Int×List Av×Int×Int×Int×Int×List Av×Int×Int×List Av×Unit) (Int×Int×List Av×Int×Int×List Av×Unit):=fun x8=>
 letI u1:=x8.2.2.2;letI u2:=u1.2.2;letI u3:=u2.2.2;letI u4:=u3.2.2;letI k1:=i64.wrap (x8.1+(1:Int));Tree.val <|
 .br (decide (x8.1<(x8.2.2.2.1.length:Int))) (
 .ob (idx u1.1 x8.1) fun e9=>
 .br (!(and (e9.1==u1.2.1) (and (e9.2.1==u2.1) true))) (
 .ob (idx u1.1 x8.1) fun e10=>
 .ob (Rz e10) fun r11=>
 .chk (decide (x8.2.2.2.2.2.2.2.2.2.2.2.1.length+[r11].length<=4294967296)) <|
 .leaf (.inl (k1,x8.2.1,x8.2.2.1,u1.1,u1.2.1,u2.1,u2.2.1,u3.1,u3.2.1,u4.1,u4.2.1,u4.2.2.1++[r11],()))) (
 .leaf (.inl (k1,x8.2.1,x8.2.2.1,u1.1,u1.2.1,u2.1,u2.2.1,u3.1,u3.2.1,u4.1,u4.2.1,u4.2.2.1,())))) (
 .leaf (.inr (u2.2.1,u3.1,u3.2.1,u4.1,u4.2.1,u4.2.2.1,())))
def Atn (a0:Bd) (a1:YI) (a2:A6) (a3:YBs):Tree (Bd×(Bool×Unit)):=
 .ob (Bba a0 a2) fun r1=>
 .br (!r1.2.1) (
 .ob (D5 a0) fun r2=>
 .leaf (r2,(false,()))) (
 .ob (Bl a1 (0,()) (1000000,())) fun r3=>
 .br (!r3.1) (
 .ob (D5 a0) fun r4=>
 .leaf (r4,(false,()))) (
 .ob (M8 (r1.1.2.2.1,()) a3) fun r5=>
 .br (!r5.1) (
 .ob (D5 a0) fun r6=>
 .leaf (r6,(false,()))) (
 .br (decide (a1.1>r1.1.2.2.2.1)) (
 .ob (D5 a0) fun r7=>
 .leaf (r7,(false,()))) (
 .ob (Ax Oq (0,a0.1,a0.2.1,a0.2.2.1,a2.1,a2.2.1,0,0,[],a2.1,a2.2.1,[],())) fun o12=>
 .leaf ((o12.2.2.2.1,o12.2.2.2.2.1,o12.2.2.2.2.2.1,()),(true,()))))))
def Ag7 a0 a1 a2 a3:=(Atn a0 a1 a2 a3).val
def A6z (a0:Aq):Tree (Aq×(Bool×Unit)):=
 .ob (I5 a0) fun r1=>letI u1:=r1.2.2.2;
 .ob (Kl a0) fun r2=>
 .br (!r2.1) (
 .leaf (r1,(false,()))) (
 .br (a0.1 != 1) (
 .leaf (r1,(false,()))) (
 .br (a0.2.2.1==4294967295) (
 .leaf (r1,(false,()))) (
 .ob (Na (a0.2.2.2.1,()) (Hg [114,101,107,101,121],())) fun r3=>
 .ob (Nb (i64.wrap (a0.2.2.1+1),()) r3) fun r4=>
 .leaf ((r1.1,r1.2.1,r4.1,r4.2.1,r4.2.2.1,r4.2.2.2.1,r4.2.2.2.2.1,r1.2.2.1,u1.1,u1.2.1,u1.2.2.1,u1.2.2.2.1,true,-1,u1.2.2.2.2.2.2.2.2.2.2.2.1,()),(true,())))))
def A7r a0:=(A6z a0).val
def Afr (a0:Aq) (a1:YI) (a2:YBs):Tree (Aq×YI):=
 .ob (I5 a0) fun r1=>
 .ob (Kl a0) fun r2=>
 .br (!r2.1) (
 .leaf (r1,(6,()))) (
 .br (a0.1 != 1) (
 .leaf (r1,(6,()))) (
 .ob (Bl a1 (0,()) (4294967294,())) fun r3=>
 .br (!r3.1) (
 .leaf (r1,(6,()))) (
 .ob (W2 (i64.wrap (a1.1+1),())) fun r4=>
 .ob (M8 a2 r4) fun r5=>
 .br (!r5.1) (
 .leaf (r1,(6,()))) (
 .br (a1.1==a0.2.2.1) (
 .ob (A7r a0) fun r6=>
 .br (!r6.2.1) (
 .leaf (r1,(6,()))) (
 .leaf (r6.1,(0,())))) (
 .br (a1.1==i64.wrap (a0.2.2.1-1)) (
 .leaf (r1,(0,()))) (
 .leaf (r1,(6,()))))))))
def W3 a0 a1 a2:=(Afr a0 a1 a2).val
def K8:Lst (Int×Int×Int×Int×List Av×Int×Int×List Av×Int×Int×List Av×Unit) (Int×Int×List Av×Int×Int×List Av×Unit):=fun x5=>
 letI u1:=x5.2.2;letI u2:=u1.2.2;letI u3:=u2.2.2;letI u4:=u3.2.2;letI k1:=i64.wrap (x5.2.1+(1:Int));Tree.val <|
 .br (decide (x5.2.1<(x5.2.2.2.2.1.length:Int))) (
 .ob (idx u2.1 x5.2.1) fun e6=>
 .br (decide (e6.2.2.2.1≥x5.1)) (
 .ob (idx u2.1 x5.2.1) fun e7=>
 .ob (Rz e7) fun r8=>
 .chk (decide (x5.2.2.2.2.2.2.2.2.2.2.1.length+[r8].length<=4294967296)) <|
 .leaf (.inl (x5.1,k1,u1.1,u1.2.1,u2.1,u2.2.1,u3.1,u3.2.1,u4.1,u4.2.1,u4.2.2.1++[r8],()))) (
 .leaf (.inl (x5.1,k1,u1.1,u1.2.1,u2.1,u2.2.1,u3.1,u3.2.1,u4.1,u4.2.1,u4.2.2.1,())))) (
 .leaf (.inr (u2.2.1,u3.1,u3.2.1,u4.1,u4.2.1,u4.2.2.1,())))
def Aiu (a0:Bd) (a1:YI):Tree (Bd):=
 .ob (R7 a0) fun r1=>
 .br (!r1.1) (
 .ob (D5 a0) fun r2=>
 .leaf r2) (
 .ob (Bl a1 (0,()) (1000000,())) fun r3=>
 .br (!r3.1) (
 .ob (D5 a0) fun r4=>
 .leaf r4) (
 .ob (Ax K8 (a1.1,0,a0.1,a0.2.1,a0.2.2.1,0,0,[],a0.1,a0.2.1,[],())) fun o9=>
 .leaf (o9.2.2.2.1,o9.2.2.2.2.1,o9.2.2.2.2.2.1,())))
def Aj8 a0 a1:=(Aiu a0 a1).val
def Rv:Lst (Int×List YB×Int×Int×Int×List Av×Int×Int×Int×Int×List Av×Int×Int×List Av×Unit) ((Bool×Int×Int×List Av×Unit)⊕(Int×List YB×Int×Int×List Av×Int×Int×Int×Int×List Av×Int×Int×List Av×Unit)):=fun x10=>
 letI u1:=x10.2.2;letI u2:=u1.2.2;letI u3:=u2.2.2;letI u4:=u3.2.2;letI u5:=u4.2.2;letI u6:=u5.2.2;Tree.val <|
 .br (decide (u1.1<(x10.2.2.2.2.2.2.2.2.2.2.2.2.2.1.length:Int))) (
 .ob (idx u6.2.1 u1.1) fun e11=>
 .br (and (e11.1==u3.1) (and (e11.2.1==u3.2.1) true)) (
 .ob (D5 (u1.2.1,u2.1,u2.2.1,())) fun r12=>
 .leaf (.inr (.inl (false,r12.1,r12.2.1,r12.2.2.1,())))) (
 .leaf (.inl (x10.1,x10.2.1,i64.wrap (u1.1+1),u1.2.1,u2.1,u2.2.1,u3.1,u3.2.1,u4.1,u4.2.1,u5.1,u5.2.1,u6.1,u6.2.1,())))) (
 .leaf (.inr (.inr (x10.1,x10.2.1,u1.2.1,u2.1,u2.2.1,u3.1,u3.2.1,u4.1,u4.2.1,u5.1,u5.2.1,u6.1,u6.2.1,()))))
def Az5 (a0:Bd) (a1:YI) (a2:A6) (a3:YBs):Tree (Bd×(Bool×Unit)):=
 .ob (R7 a0) fun r1=>
 .br (!r1.1) (
 .ob (D5 a0) fun r2=>
 .leaf (r2,(false,()))) (
 .ob (Bl a1 (0,()) (1000000,())) fun r3=>
 .br (!r3.1) (
 .ob (D5 a0) fun r4=>
 .leaf (r4,(false,()))) (
 .ob (Gg a2) fun r5=>
 .br (!r5.1) (
 .ob (D5 a0) fun r6=>
 .leaf (r6,(false,()))) (
 .br ((a3.1.length:Int) != 12) (
 .ob (D5 a0) fun r7=>
 .leaf (r7,(false,()))) (
 .br (and (a2.1==a0.1) (and (a2.2.1==a0.2.1) true)) (
 .ob (D5 a0) fun r8=>
 .leaf (r8,(false,()))) (
 .ob (Aj8 a0 a1) fun r9=>
 .ob (Ax Rv (a1.1,a3.1,0,a0.1,a0.2.1,a0.2.2.1,a2.1,a2.2.1,0,0,[],r9.1,r9.2.1,r9.2.2.1,())) fun o13=>
 .sm o13 (fun o14=>
 .leaf ((o14.2.1,o14.2.2.1,o14.2.2.2.1,()),(o14.1,()))) (fun o15=>letI u1:=o15.2.2;letI u2:=u1.2.2.2;letI u3:=u2.2.2.2.2.2;letI k1:=(u2.1,u2.2.1,([]:List YB)++o15.2.1,i64.wrap (o15.1+(6:Int)),());
 .br ((o15.2.2.2.2.2.2.2.2.2.2.2.2.1.length:Int)==3) (
 .ob (D5 (u1.1,u1.2.1,u1.2.2.1,())) fun r16=>
 .leaf (r16,(false,()))) (
 .chk (decide (([]:List YB).length+o15.2.1.length<=4294967296)) <|
 .chk (decide (o15.2.2.2.2.2.2.2.2.2.2.2.2.1.length+[k1].length<=4294967296)) <|
 .leaf ((u3.1,u3.2.1,u3.2.2.1++[k1],()),(true,())))))))))
def E8 a0 a1 a2 a3:=(Az5 a0 a1 a2 a3).val
def Aq4 (r7 r17:Am) (r1:Al) (r16:Aq×As×YI) (r15:Bd×(Bool×Unit)) (a1:YI) (a2:A6):Tree (Al×(List Au×Unit)×(List Am×Unit)×(Bool×Unit)):=
 letI u1:=r1.2.2.2.2.2.2.2.2.2.2.2.2.2.2.2.2.2.2.2.2.2;letI u2:=r16.1.2.2.2;letI u3:=u2.2.2.2;letI u4:=u3.2.2.2.2;.chk (decide ((([]:List Am)++[r7]).length+[r17].length<=4294967296)) <|
 .leaf ((r1.1,r1.2.1,r1.2.2.1,r16.1.1,r16.1.2.1,r16.1.2.2.1,u2.1,u2.2.1,u2.2.2.1,u3.1,u3.2.1,u3.2.2.1,u3.2.2.2.1,u4.1,u4.2.1,u4.2.2.1,u4.2.2.2.1,u4.2.2.2.2.1,r15.1.1,r15.1.2.1,r15.1.2.2.1,u1.1,a1.1,u1.2.2.1,()),(([]:List Au)++[(a2.1,a2.2.1,r16.2.1.1,r16.2.1.2.1,r16.2.1.2.2.1,r16.2.1.2.2.2.1,r16.2.1.2.2.2.2.1,r16.2.1.2.2.2.2.2.1,r16.2.1.2.2.2.2.2.2.1,r16.2.1.2.2.2.2.2.2.2.1,r16.2.1.2.2.2.2.2.2.2.2.1,r16.2.1.2.2.2.2.2.2.2.2.2.1,r16.2.1.2.2.2.2.2.2.2.2.2.2.1,())],()),((([]:List Am)++[r7])++[r17],()),(true,()))
def Aq5 (r16:Aq×As×YI) (r7:Am) (r1:Al) (r15:Bd×(Bool×Unit)) (a1:YI) (a2:A6):Tree (Al×(List Au×Unit)×(List Am×Unit)×(Bool×Unit)):=
 .ob (G4 r16.1 r16.2.1) fun r17=>
 Aq4 r7 r17 r1 r16 r15 a1 a2
def Aco (a2:A6) (r16:Aq×As×YI) (r7:Am) (r1:Al) (r15:Bd×(Bool×Unit)) (a1:YI):Tree (Al×(List Au×Unit)×(List Am×Unit)×(Bool×Unit)):=
 .chk (decide (([]:List Au).length+[(a2.1,a2.2.1,r16.2.1.1,r16.2.1.2.1,r16.2.1.2.2.1,r16.2.1.2.2.2.1,r16.2.1.2.2.2.2.1,r16.2.1.2.2.2.2.2.1,r16.2.1.2.2.2.2.2.2.1,r16.2.1.2.2.2.2.2.2.2.1,r16.2.1.2.2.2.2.2.2.2.2.1,r16.2.1.2.2.2.2.2.2.2.2.2.1,r16.2.1.2.2.2.2.2.2.2.2.2.2.1,())].length<=4294967296)) <|
 Aq5 r16 r7 r1 r15 a1 a2
def Aq6 (r16:Aq×As×YI) (r1:Al) (r4:Aq×YBs×YI) (a1:YI) (r7:Am) (a2:A6) (r15:Bd×(Bool×Unit)):Tree (Al×(List Au×Unit)×(List Am×Unit)×(Bool×Unit)):=
 letI u1:=r1.2.2.2.2.2.2.2.2.2.2.2.2.2.2.2.2.2.2;letI u2:=r4.1.2.2.2;letI u3:=u2.2.2.2;letI u4:=u3.2.2.2.2;.br (r16.2.2.1 != 0) (
 .leaf ((r1.1,r1.2.1,r1.2.2.1,r4.1.1,r4.1.2.1,r4.1.2.2.1,u2.1,u2.2.1,u2.2.2.1,u3.1,u3.2.1,u3.2.2.1,u3.2.2.2.1,u4.1,u4.2.1,u4.2.2.1,u4.2.2.2.1,u4.2.2.2.2.1,u1.1,u1.2.1,u1.2.2.1,u1.2.2.2.1,a1.1,u1.2.2.2.2.2.1,()),([],()),(([]:List Am)++[r7],()),(false,()))) (
 Aco a2 r16 r7 r1 r15 a1)
def Aq7 (r15:Bd×(Bool×Unit)) (r1:Al) (r4:Aq×YBs×YI) (a1:YI) (r7:Am) (r16:Aq×As×YI) (a2:A6):Tree (Al×(List Au×Unit)×(List Am×Unit)×(Bool×Unit)):=
 letI u1:=r1.2.2.2.2.2.2.2.2.2.2.2.2.2.2.2.2.2.2;letI u2:=r4.1.2.2.2;letI u3:=u2.2.2.2;letI u4:=u3.2.2.2.2;.br (!r15.2.1) (
 .leaf ((r1.1,r1.2.1,r1.2.2.1,r4.1.1,r4.1.2.1,r4.1.2.2.1,u2.1,u2.2.1,u2.2.2.1,u3.1,u3.2.1,u3.2.2.1,u3.2.2.2.1,u4.1,u4.2.1,u4.2.2.1,u4.2.2.2.1,u4.2.2.2.2.1,u1.1,u1.2.1,u1.2.2.1,u1.2.2.2.1,a1.1,u1.2.2.2.2.2.1,()),([],()),(([]:List Am)++[r7],()),(false,()))) (
 Aq6 r16 r1 r4 a1 r7 a2 r15)
def Aq8 (r4:Aq×YBs×YI) (a4:YBs) (r15:Bd×(Bool×Unit)) (r1:Al) (a1:YI) (r7:Am) (a2:A6):Tree (Al×(List Au×Unit)×(List Am×Unit)×(Bool×Unit)):=
 .ob (Di r4.1 (5,()) a4) fun r16=>
 Aq7 r15 r1 r4 a1 r7 r16 a2
def U1 (r1:Al) (a1:YI) (a2:A6) (a4:YBs) (r4:Aq×YBs×YI) (r7:Am):Tree (Al×(List Au×Unit)×(List Am×Unit)×(Bool×Unit)):=
 letI u1:=r1.2.2.2.2.2.2.2.2.2.2.2.2.2.2.2.2.2.2;.ob (E8 (u1.1,u1.2.1,u1.2.2.1,()) a1 a2 a4) fun r15=>
 Aq8 r4 a4 r15 r1 a1 r7 a2
def Aiv (a0:Al) (a1:YI) (a2:A6) (a3:As) (a4:YBs):Tree (Al×(List Au×Unit)×(List Am×Unit)×(Bool×Unit)):=
 letI u1:=a0.2.2;letI u2:=u1.2.2;letI u3:=u2.2.2;letI u4:=u3.2.2;letI u5:=u4.2.2;letI u6:=u5.2.2;letI u7:=u6.2.2;letI u8:=u7.2.2;letI u9:=a3.2.2.2.2.2.2.2;letI k18:=decide (([]:List YB).length+a0.2.2.1.length<=4294967296);letI k19:=(u1.2.1,u2.1,u2.2.1,u3.1,u3.2.1,u4.1,u4.2.1,u5.1,u5.2.1,u6.1,u6.2.1,u7.1,u7.2.1,u8.1,u8.2.1,());letI k24:=([]:List YB)++u1.1;.ob (R0 a0) fun r1=>letI u10:=r1.2.2;letI u11:=u10.2.2.2.2.2.2.2.2.2.2.2.2.2.2.2.2;letI u12:=u11.2.2;letI u13:=u12.2.2.2;letI k17:=E8 (u11.1,u11.2.1,u12.1,()) a1 a2 a4;
 .ob (Ux a0) fun r2=>
 .br (!r2.1) (
 .leaf (r1,([],()),([],()),(false,()))) (
 .br u8.2.2.2.2.2.2.2.1 (
 .leaf (r1,([],()),([],()),(false,()))) (
 .ob (Gg a2) fun r3=>
 .br (!r3.1) (
 .leaf (r1,([],()),([],()),(false,()))) (
 .ob (Lu k19 a1 a3) fun r4=>letI u14:=r4.1.2.2;letI u15:=u14.2.2;letI u16:=u15.2.2;letI u17:=u16.2.2;letI u18:=u17.2.2;letI u19:=u18.2.2;letI k4:=((6:Int),(0:Int),(0:Int),([]:List YB),k24,u9.1,u9.2.1,([]:List YB)++r4.2.1.1,([]:List YB),(0:Int),(0:Int),a1.1,());letI k5:=((9:Int),(0:Int),(0:Int),([]:List YB),k24,(0:Int),(0:Int),([]:List YB)++r4.2.1.1,([]:List YB),a2.1,a2.2.1,a1.1,());letI k16:=(r1.1,r1.2.1,u10.1,r4.1.1,r4.1.2.1,u14.1,u14.2.1,u15.1,u15.2.1,u16.1,u16.2.1,u17.1,u17.2.1,u18.1,u18.2.1,u19.1,u19.2.1,u19.2.2.1,u11.1,u11.2.1,u12.1,u12.2.1,a1.1,u13.1,());letI k20:=decide (([]:List YB).length+r4.2.1.1.length<=4294967296);letI k26:=Di r4.1 ((5:Int),()) a4;
 .br (r4.2.2.1 != 0) (
 .leaf (r1,([],()),([],()),(false,()))) (
 .ob (Ag6 k19 (u9.1,())) fun r5=>
 .ob (Ls (0,()) a3) fun r6=>
 .ob (Aj7 r5.1 (u1.1,()) r6) fun r7=>letI k7:=([]:List Am)++[r7];
 .chk (decide (([]:List Am).length+[r7].length<=4294967296)) <|
 .br (a3.1==4) (
 .chk k18 <|
 .chk k20 <|
 .chk (decide (k7.length+[k4].length<=4294967296)) <|
 .ob k17 fun r8=>
 .ob k26 fun r9=>letI u20:=r9.1.2.2.2;letI u21:=u20.2.2.2;letI u22:=u21.2.2.2.2;letI k12:=(a2.1,a2.2.1,r9.2.1.1,r9.2.1.2.1,r9.2.1.2.2.1,r9.2.1.2.2.2.1,r9.2.1.2.2.2.2.1,r9.2.1.2.2.2.2.2.1,r9.2.1.2.2.2.2.2.2.1,r9.2.1.2.2.2.2.2.2.2.1,r9.2.1.2.2.2.2.2.2.2.2.1,r9.2.1.2.2.2.2.2.2.2.2.2.1,r9.2.1.2.2.2.2.2.2.2.2.2.2.1,());
 .br (!r8.2.1) (
 .leaf (k16,([],()),(k7++[k4],()),(false,()))) (
 .br (r9.2.2.1 != 0) (
 .leaf (k16,([],()),(k7++[k4],()),(false,()))) (
 .chk (decide (([]:List Au).length+[k12].length<=4294967296)) <|
 .ob (G4 r9.1 r9.2.1) fun r10=>
 .chk (decide ((k7++[k4]).length+[r10].length<=4294967296)) <|
 .leaf ((r1.1,r1.2.1,u10.1,r9.1.1,r9.1.2.1,r9.1.2.2.1,u20.1,u20.2.1,u20.2.2.1,u21.1,u21.2.1,u21.2.2.1,u21.2.2.2.1,u22.1,u22.2.1,u22.2.2.1,u22.2.2.2.1,u22.2.2.2.2.1,r8.1.1,r8.1.2.1,r8.1.2.2.1,u12.2.1,a1.1,u13.1,()),(([]:List Au)++[k12],()),((k7++[k4])++[r10],()),(true,()))))) (
 .br (a3.1==6) (
 .ob (Ag7 (u11.1,u11.2.1,u12.1,()) a1 a2 r4.2.1) fun r11=>letI k13:=(r1.1,r1.2.1,u10.1,r4.1.1,r4.1.2.1,u14.1,u14.2.1,u15.1,u15.2.1,u16.1,u16.2.1,u17.1,u17.2.1,u18.1,u18.2.1,u19.1,u19.2.1,u19.2.2.1,r11.1.1,r11.1.2.1,r11.1.2.2.1,u12.2.1,a1.1,u13.1,());
 .br r11.2.1 (
 .chk k18 <|
 .chk k20 <|
 .chk (decide (k7.length+[k5].length<=4294967296)) <|
 .ob (E8 r11.1 a1 a2 a4) fun r12=>
 .ob k26 fun r13=>letI u23:=r13.1.2.2.2;letI u24:=u23.2.2.2;letI u25:=u24.2.2.2.2;letI k8:=(a2.1,a2.2.1,r13.2.1.1,r13.2.1.2.1,r13.2.1.2.2.1,r13.2.1.2.2.2.1,r13.2.1.2.2.2.2.1,r13.2.1.2.2.2.2.2.1,r13.2.1.2.2.2.2.2.2.1,r13.2.1.2.2.2.2.2.2.2.1,r13.2.1.2.2.2.2.2.2.2.2.1,r13.2.1.2.2.2.2.2.2.2.2.2.1,r13.2.1.2.2.2.2.2.2.2.2.2.2.1,());
 .br (!r12.2.1) (
 .leaf (k13,([],()),(k7++[k5],()),(false,()))) (
 .br (r13.2.2.1 != 0) (
 .leaf (k13,([],()),(k7++[k5],()),(false,()))) (
 .chk (decide (([]:List Au).length+[k8].length<=4294967296)) <|
 .ob (G4 r13.1 r13.2.1) fun r14=>
 .chk (decide ((k7++[k5]).length+[r14].length<=4294967296)) <|
 .leaf ((r1.1,r1.2.1,u10.1,r13.1.1,r13.1.2.1,r13.1.2.2.1,u23.1,u23.2.1,u23.2.2.1,u24.1,u24.2.1,u24.2.2.1,u24.2.2.2.1,u25.1,u25.2.1,u25.2.2.1,u25.2.2.2.1,u25.2.2.2.2.1,r12.1.1,r12.1.2.1,r12.1.2.2.1,u12.2.1,a1.1,u13.1,()),(([]:List Au)++[k8],()),((k7++[k5])++[r14],()),(true,()))))) (
 U1 r1 a1 a2 a4 r4 r7)) (
 .br (a3.1==7) (
 .ob (W3 r4.1 (u9.1,()) r4.2.1) fun r18=>letI u26:=r18.1.2.2;letI u27:=u26.2.2;letI u28:=u27.2.2;letI u29:=u28.2.2;letI u30:=u29.2.2;letI u31:=u30.2.2;letI k1:=((10:Int),(0:Int),(1:Int),([]:List YB),k24,u26.1,(0:Int),([]:List YB),([]:List YB)++u26.2.1,(0:Int),(0:Int),(0:Int),());letI k6:=(r1.1,r1.2.1,u10.1,r18.1.1,r18.1.2.1,u26.1,u26.2.1,u27.1,u27.2.1,u28.1,u28.2.1,u29.1,u29.2.1,u30.1,u30.2.1,u31.1,u31.2.1,u31.2.2.1,u11.1,u11.2.1,u12.1,u12.2.1,a1.1,u13.1,());letI k25:=Di r18.1 ((5:Int),()) a4;
 .br (r18.2.1==0) (
 .br (u26.1 != u14.1) (
 .chk k18 <|
 .chk (decide (([]:List YB).length+r18.1.2.2.2.1.length<=4294967296)) <|
 .chk (decide (k7.length+[k1].length<=4294967296)) <|
 .ob (Aq3 r18.1) fun r19=>letI u32:=r19.1.2.2;letI u33:=u32.2.2;letI u34:=u33.2.2;letI u35:=u34.2.2;letI u36:=u35.2.2;letI u37:=u36.2.2;letI k2:=(u11.1,u11.2.1,r19.2.1.1,r19.2.1.2.1,r19.2.1.2.2.1,r19.2.1.2.2.2.1,r19.2.1.2.2.2.2.1,r19.2.1.2.2.2.2.2.1,r19.2.1.2.2.2.2.2.2.1,r19.2.1.2.2.2.2.2.2.2.1,r19.2.1.2.2.2.2.2.2.2.2.1,r19.2.1.2.2.2.2.2.2.2.2.2.1,r19.2.1.2.2.2.2.2.2.2.2.2.2.1,());letI k14:=(r1.1,r1.2.1,u10.1,r19.1.1,r19.1.2.1,u32.1,u32.2.1,u33.1,u33.2.1,u34.1,u34.2.1,u35.1,u35.2.1,u36.1,u36.2.1,u37.1,u37.2.1,u37.2.2.1,u11.1,u11.2.1,u12.1,u12.2.1,a1.1,u13.1,());letI k21:=([]:List Au)++[k2];
 .br (r19.2.2.1==0) (
 .chk (decide (([]:List Au).length+[k2].length<=4294967296)) <|
 .ob (G4 r19.1 r19.2.1) fun r20=>letI k23:=(k7++[k1])++[r20];
 .chk (decide ((k7++[k1]).length+[r20].length<=4294967296)) <|
 .ob k17 fun r21=>
 .ob (Di r19.1 (5,()) a4) fun r22=>letI u38:=r22.1.2.2.2;letI u39:=u38.2.2.2;letI u40:=u39.2.2.2.2;letI k9:=(a2.1,a2.2.1,r22.2.1.1,r22.2.1.2.1,r22.2.1.2.2.1,r22.2.1.2.2.2.1,r22.2.1.2.2.2.2.1,r22.2.1.2.2.2.2.2.1,r22.2.1.2.2.2.2.2.2.1,r22.2.1.2.2.2.2.2.2.2.1,r22.2.1.2.2.2.2.2.2.2.2.1,r22.2.1.2.2.2.2.2.2.2.2.2.1,r22.2.1.2.2.2.2.2.2.2.2.2.2.1,());
 .br (!r21.2.1) (
 .leaf (k14,(k21,()),(k23,()),(false,()))) (
 .br (r22.2.2.1 != 0) (
 .leaf (k14,(k21,()),(k23,()),(false,()))) (
 .chk (decide (k21.length+[k9].length<=4294967296)) <|
 .ob (G4 r22.1 r22.2.1) fun r23=>
 .chk (decide (k23.length+[r23].length<=4294967296)) <|
 .leaf ((r1.1,r1.2.1,u10.1,r22.1.1,r22.1.2.1,r22.1.2.2.1,u38.1,u38.2.1,u38.2.2.1,u39.1,u39.2.1,u39.2.2.1,u39.2.2.2.1,u40.1,u40.2.1,u40.2.2.1,u40.2.2.2.1,u40.2.2.2.2.1,r21.1.1,r21.1.2.1,r21.1.2.2.1,u12.2.1,a1.1,u13.1,()),(k21++[k9],()),(k23++[r23],()),(true,()))))) (
 .ob k17 fun r24=>
 .ob k25 fun r25=>letI u41:=r25.1.2.2.2;letI u42:=u41.2.2.2;letI u43:=u42.2.2.2.2;letI k10:=(a2.1,a2.2.1,r25.2.1.1,r25.2.1.2.1,r25.2.1.2.2.1,r25.2.1.2.2.2.1,r25.2.1.2.2.2.2.1,r25.2.1.2.2.2.2.2.1,r25.2.1.2.2.2.2.2.2.1,r25.2.1.2.2.2.2.2.2.2.1,r25.2.1.2.2.2.2.2.2.2.2.1,r25.2.1.2.2.2.2.2.2.2.2.2.1,r25.2.1.2.2.2.2.2.2.2.2.2.2.1,());
 .br (!r24.2.1) (
 .leaf (k6,([],()),(k7++[k1],()),(false,()))) (
 .br (r25.2.2.1 != 0) (
 .leaf (k6,([],()),(k7++[k1],()),(false,()))) (
 .chk (decide (([]:List Au).length+[k10].length<=4294967296)) <|
 .ob (G4 r25.1 r25.2.1) fun r26=>
 .chk (decide ((k7++[k1]).length+[r26].length<=4294967296)) <|
 .leaf ((r1.1,r1.2.1,u10.1,r25.1.1,r25.1.2.1,r25.1.2.2.1,u41.1,u41.2.1,u41.2.2.1,u42.1,u42.2.1,u42.2.2.1,u42.2.2.2.1,u43.1,u43.2.1,u43.2.2.1,u43.2.2.2.1,u43.2.2.2.2.1,r24.1.1,r24.1.2.1,r24.1.2.2.1,u12.2.1,a1.1,u13.1,()),(([]:List Au)++[k10],()),((k7++[k1])++[r26],()),(true,())))))) (
 .ob (Aq3 r18.1) fun r27=>letI u44:=r27.1.2.2;letI u45:=u44.2.2;letI u46:=u45.2.2;letI u47:=u46.2.2;letI u48:=u47.2.2;letI u49:=u48.2.2;letI k3:=(u11.1,u11.2.1,r27.2.1.1,r27.2.1.2.1,r27.2.1.2.2.1,r27.2.1.2.2.2.1,r27.2.1.2.2.2.2.1,r27.2.1.2.2.2.2.2.1,r27.2.1.2.2.2.2.2.2.1,r27.2.1.2.2.2.2.2.2.2.1,r27.2.1.2.2.2.2.2.2.2.2.1,r27.2.1.2.2.2.2.2.2.2.2.2.1,r27.2.1.2.2.2.2.2.2.2.2.2.2.1,());letI k15:=(r1.1,r1.2.1,u10.1,r27.1.1,r27.1.2.1,u44.1,u44.2.1,u45.1,u45.2.1,u46.1,u46.2.1,u47.1,u47.2.1,u48.1,u48.2.1,u49.1,u49.2.1,u49.2.2.1,u11.1,u11.2.1,u12.1,u12.2.1,a1.1,u13.1,());letI k22:=([]:List Au)++[k3];
 .br (r27.2.2.1==0) (
 .chk (decide (([]:List Au).length+[k3].length<=4294967296)) <|
 .ob (G4 r27.1 r27.2.1) fun r28=>
 .chk (decide (k7.length+[r28].length<=4294967296)) <|
 .ob k17 fun r29=>
 .ob (Di r27.1 (5,()) a4) fun r30=>letI u50:=r30.1.2.2.2;letI u51:=u50.2.2.2;letI u52:=u51.2.2.2.2;letI k11:=(a2.1,a2.2.1,r30.2.1.1,r30.2.1.2.1,r30.2.1.2.2.1,r30.2.1.2.2.2.1,r30.2.1.2.2.2.2.1,r30.2.1.2.2.2.2.2.1,r30.2.1.2.2.2.2.2.2.1,r30.2.1.2.2.2.2.2.2.2.1,r30.2.1.2.2.2.2.2.2.2.2.1,r30.2.1.2.2.2.2.2.2.2.2.2.1,r30.2.1.2.2.2.2.2.2.2.2.2.2.1,());
 .br (!r29.2.1) (
 .leaf (k15,(k22,()),(k7++[r28],()),(false,()))) (
 .br (r30.2.2.1 != 0) (
 .leaf (k15,(k22,()),(k7++[r28],()),(false,()))) (
 .chk (decide (k22.length+[k11].length<=4294967296)) <|
 .ob (G4 r30.1 r30.2.1) fun r31=>
 .chk (decide ((k7++[r28]).length+[r31].length<=4294967296)) <|
 .leaf ((r1.1,r1.2.1,u10.1,r30.1.1,r30.1.2.1,r30.1.2.2.1,u50.1,u50.2.1,u50.2.2.1,u51.1,u51.2.1,u51.2.2.1,u51.2.2.2.1,u52.1,u52.2.1,u52.2.2.1,u52.2.2.2.1,u52.2.2.2.2.1,r29.1.1,r29.1.2.1,r29.1.2.2.1,u12.2.1,a1.1,u13.1,()),(k22++[k11],()),((k7++[r28])++[r31],()),(true,()))))) (
 .ob k17 fun r32=>
 .ob k25 fun r33=>
 .br (!r32.2.1) (
 .leaf (k6,([],()),(k7,()),(false,()))) (
 .br (r33.2.2.1 != 0) (
 .leaf (k6,([],()),(k7,()),(false,()))) (
 Aco a2 r33 r7 r1 r32 a1))))) (
 U1 r1 a1 a2 a4 r4 r7)) (
 U1 r1 a1 a2 a4 r4 r7)))))))
def Tk a0 a1 a2 a3 a4:=(Aiv a0 a1 a2 a3 a4).val
def Ato (a0:As):Tree (YI):=
 .ob (Jf a0) fun r1=>
 .leaf ((r1.1.length:Int),())
def Ag8 a0:=(Ato a0).val
def Az7 (a0:List Ak×Unit) (a1:A6) (a2:YI):Tree ((List Ak×Unit)×(Bool×Unit)):=
 letI k1:=([]:List Ak)++a0.1; .chk (decide (([]:List Ak).length+a0.1.length<=4294967296)) <|
 .ob (Ae2 a0 a1) fun r1=>
 .br (decide (r1.1<0)) (
 .leaf ((k1,()),(false,()))) (
 .ob (Mi a0) fun r2=>
 .br (!r2.1) (
 .leaf ((k1,()),(false,()))) (
 .ob (N3 a0 a1) fun r3=>
 .ob (Bl a2 (0,()) r3) fun r4=>
 .br (!r4.1) (
 .leaf ((k1,()),(false,()))) (
 .ob (idx k1 r1.1) fun e5=>
 .ob (idx k1 r1.1) fun e6=>
 let q7:=(k1.set (r1.1).toNat (e6.1,e6.2.1,e6.2.2.1,i64.wrap (e5.2.2.2.1+a2.1),()))
 .leaf ((q7,()),(true,())))))
def A1t a0 a1 a2:=(Az7 a0 a1 a2).val
def Ot:Lst (List Au×List Au×Int×List YBs×List YB×List YB×Int×Int×List Al×List Ak×Unit) (List Au×List YBs×List YB×List YB×Int×Int×List Al×List Ak×Unit):=fun x10=>
 letI u1:=x10.2.2;letI u2:=u1.2.2;letI u3:=u2.2.2;letI u4:=u3.2.2;letI k1:=idx x10.1 u1.1;letI k2:=i64.wrap (u1.1+(1:Int));Tree.val <|
 .br (decide (u1.1<(x10.1.length:Int))) (
 .ob k1 fun e11=>
 .ob (Aj2 (u3.2.1,u4.1,()) (e11.1,e11.2.1,())) fun r12=>
 .br (!r12.1) (
 .ob k1 fun e13=>
 .ob k1 fun e14=>letI u5:=e14.2.2.2;letI u6:=u5.2.2.2;letI u7:=u6.2.2.2;
 .ob (Ag8 (e14.2.2.1,u5.1,u5.2.1,u5.2.2.1,u6.1,u6.2.1,u6.2.2.1,u7.1,u7.2.1,u7.2.2.1,u7.2.2.2.1,())) fun r15=>
 .ob (A1t (u4.2.1,()) (e13.1,e13.2.1,()) r15) fun r16=>
 .br (!r16.2.1) (
 .leaf (.inl (x10.1,x10.2.1,k2,u1.2.1,u2.1,u2.2.1,u3.1,u3.2.1,u4.1,u4.2.1,()))) (
 .ob k1 fun e17=>
 .chk (decide (x10.2.1.length+[e17].length<=4294967296)) <|
 .leaf (.inl (x10.1,x10.2.1++[e17],k2,u1.2.1,u2.1,u2.2.1,u3.1,u3.2.1,u4.1,r16.1.1,())))) (
 .ob k1 fun e18=>
 .chk (decide (x10.2.1.length+[e18].length<=4294967296)) <|
 .leaf (.inl (x10.1,x10.2.1++[e18],k2,u1.2.1,u2.1,u2.2.1,u3.1,u3.2.1,u4.1,u4.2.1,())))) (
 .leaf (.inr (x10.2.1,u1.2.1,u2.1,u2.2.1,u3.1,u3.2.1,u4.1,u4.2.1,())))
def Atp (a0:A0) (a1:List Au×Unit):Tree ((List Au×Unit)×A0):=
 letI u1:=a0.2.2.2;.ob (Ax Ot (a1.1,[],0,a0.1,a0.2.1,a0.2.2.1,u1.1,u1.2.1,u1.2.2.1,u1.2.2.2.1,())) fun o19=>letI u2:=o19.2.2.2;
 .leaf ((o19.1,()),(o19.2.1,o19.2.2.1,u2.1,u2.2.1,u2.2.2.1,u2.2.2.2.1,u2.2.2.2.2.1,()))
def Cu a0 a1:=(Atp a0 a1).val
def Bd0 (a0:A0) (a1:YI) (a2:A6) (r1:A0) (r5:List Ak×Unit) (f:As):Tree (A0×(List Au×Unit)×(List Am×Unit)):=
 letI u1:=r1.2.2;letI u2:=u1.2.2;letI k1:=(r1.1,r1.2.1,u1.1,u1.2.1,u2.1,u2.2.1,r5.1,());.br (decide (f.2.1>(a0.1.length:Int))) (
 .leaf (k1,([],()),([],()))) (
 .ob (Uz k1 a2 (45,())) fun r7=>
 .br (!r7.1) (
 .leaf (k1,([],()),([],()))) (
 .br (a0.2.2.2.1==10000) (
 .leaf (k1,([],()),([],()))) (
 .ob (Avk (a0.2.2.1,a0.2.2.2.1,())) fun r8=>
 .chk (decide (([]:List YB).length+f.2.2.1.length<=4294967296)) <|
 .ob (Avl (a0.2.1,()) a2 (f.2.1,()) (f.2.2.1,()) r8.2 a1) fun r9=>letI k2:=(a2.1,a2.2.1,(2:Int),(0:Int),([]:List YB)++f.2.2.1,r8.2.1,a1.1,r9.1,([]:List YB),(0:Int),(0:Int),([]:List YB),([]:List YB),());
 .ob (Rj r8.2) fun r10=>
 .ob (Tj a2 (f.2.1,()) (f.2.2.1,()) r8.2 a1) fun r11=>
 .ob (Avm (a0.2.1,()) r11) fun r12=>
 .chk (decide (([]:List Am).length+[r10,r12].length<=4294967296)) <|
 .chk (decide (([]:List Au).length+[k2].length<=4294967296)) <|
 .ob (Cu (r1.1,r1.2.1,r8.1.1,r8.1.2.1,u2.1,u2.2.1,r5.1,()) (([]:List Au)++[k2],())) fun r13=>
 .leaf (r13.2,r13.1,(([]:List Am)++[r10,r12],())))))
def Bk7 (a0:A0) (a1:YI) (a2:A6) (r1:A0) (r5:List Ak×Unit) (f:As):Tree (A0×(List Au×Unit)×(List Am×Unit)):=
 letI u1:=a0.2.2.2.2;letI u2:=r1.2.2;letI u3:=u2.2.2;letI k2:=(r1.1,r1.2.1,u2.1,u2.2.1,u3.1,u3.2.1,r5.1,());letI k6:=idx a0.1 (i64.wrap (f.2.1-(1:Int)));letI k7:=Cu k2 (([]:List Au),());.ob (A1q (a0.2.1,()) a1 a2 f) fun r14=>
 .br (r14.1 != 0) (
 .leaf (k2,([],()),([],()))) (
 .br (decide (f.2.1>(a0.1.length:Int))) (
 .leaf (k2,([],()),([],()))) (
 .ob k6 fun e15=>
 .ob (Aox e15 f) fun r16=>
 .br (!r16.1) (
 .leaf (k2,([],()),([],()))) (
 .ob (Uy (u1.1,u1.2.1,()) (f.2.2.2.1,())) fun r17=>
 .br (decide (r17.1<0)) (
 .ob k6 fun e18=>
 .ob (Aee e18 a1 a2 f) fun r19=>letI u4:=r19.2.2.2.2.2.2;letI k1:=((4:Int),f.2.1,(0:Int),([]:List YB)++f.2.2.1,([]:List YB)++f.2.2.2.1,(0:Int),(0:Int),([]:List YB),([]:List YB)++u4.1,a2.1,a2.2.1,a1.1,());
 .ob (Aoz (u1.1,u1.2.1,()) r19) fun r20=>letI k3:=Cu (r1.1,r1.2.1,u2.1,u2.2.1,r20.1.1,r20.1.2.1,r5.1,()) (([]:List Au),());letI k5:=i64.wrap ((r20.1.2.1.length:Int)-(1:Int));
 .br (r20.2.1 != 0) (
 .leaf (k2,([],()),([],()))) (
 .ob (Tj a2 (f.2.1,()) (f.2.2.1,()) (f.2.2.2.1,()) (f.2.2.2.2.1,())) fun r21=>
 .ob (Aj7 (a0.2.1,()) (f.2.2.2.1,()) r21) fun r22=>letI k8:=([]:List Am)++[r22];
 .chk (decide (([]:List Am).length+[r22].length<=4294967296)) <|
 .ob k6 fun e23=>
 .ob (W0 e23) fun r24=>
 .ob (W1 (f.2.1,()) (f.2.2.1,()) (f.2.2.2.1,()) (f.2.2.2.2.1,()) (f.2.2.2.2.2.1,())) fun r25=>
 .ob (Aj7 r24 (f.2.2.2.1,()) r25) fun r26=>letI k4:=(k8++[r26])++[k1];
 .chk (decide (k8.length+[r26].length<=4294967296)) <|
 .chk (decide (([]:List YB).length+f.2.2.1.length<=4294967296)) <|
 .chk (decide (([]:List YB).length+f.2.2.2.1.length<=4294967296)) <|
 .chk (decide (([]:List YB).length+r19.2.2.2.2.2.2.1.length<=4294967296)) <|
 .chk (decide ((k8++[r26]).length+[k1].length<=4294967296)) <|
 .ob (idx r20.1.2.1 k5) fun e27=>
 .br (!e27.2.2.2.2.2.2.2.2.2.2.2.2.2.2.2.2.2.2.2.2.2.2.2.1) (
 .br (e27.1==f.2.1) (
 .ob (M8 (e27.2.1,()) (f.2.2.1,())) fun r28=>
 .br r28.1 (
 .ob (V9 e27) fun r29=>
 .ob (idx r20.1.2.1 k5) fun e30=>
 let q31:=(r20.1.2.1.set (k5).toNat r29.1)
 .chk (decide (([]:List Au).length+r29.2.1.1.length<=4294967296)) <|
 .chk (decide (k4.length+r29.2.2.1.length<=4294967296)) <|
 .ob (Cu (r1.1,r1.2.1,u2.1,u2.2.1,r20.1.1,q31,r5.1,()) (([]:List Au)++r29.2.1.1,())) fun r32=>
 .leaf (r32.2,r32.1,(k4++r29.2.2.1,()))) (
 .ob k3 fun r33=>
 .leaf (r33.2,r33.1,(k4,())))) (
 .ob k3 fun r34=>
 .leaf (r34.2,r34.1,(k4,())))) (
 .ob k3 fun r35=>
 .leaf (r35.2,r35.1,(k4,()))))) (
 .ob (idx u3.2.1 r17.1) fun e36=>
 .br (!e36.2.2.2.2.2.2.2.2.2.2.2.2.2.2.2.2.2.2.2.2.2.2.2.1) (
 .br (e36.1==f.2.1) (
 .ob (M8 (e36.2.1,()) (f.2.2.1,())) fun r37=>
 .br r37.1 (
 .ob (V9 e36) fun r38=>
 .ob (idx u3.2.1 r17.1) fun e39=>
 let q40:=(r1.2.2.2.2.2.1.set (r17.1).toNat r38.1)
 .chk (decide (([]:List Au).length+r38.2.1.1.length<=4294967296)) <|
 .chk (decide (([]:List Am).length+r38.2.2.1.length<=4294967296)) <|
 .ob (Cu (r1.1,r1.2.1,u2.1,u2.2.1,u3.1,q40,r5.1,()) (([]:List Au)++r38.2.1.1,())) fun r41=>
 .leaf (r41.2,r41.1,(([]:List Am)++r38.2.2.1,()))) (
 .ob k7 fun r42=>
 .leaf (r42.2,r42.1,([],())))) (
 .ob k7 fun r43=>
 .leaf (r43.2,r43.1,([],())))) (
 .ob k7 fun r44=>
 .leaf (r44.2,r44.1,([],())))))))
def Bd1 (a0:A0) (a1:YI) (a2:A6) (r1:A0) (r5:List Ak×Unit) (f:As):Tree (A0×(List Au×Unit)×(List Am×Unit)):=
 letI u1:=a0.2.2.2.2;letI u2:=r1.2.2;letI u3:=u2.2.2;letI k1:=((7:Int),(0:Int),(0:Int),([]:List YB),([]:List YB)++f.2.2.2.1,(0:Int),(0:Int),([]:List YB)++([]:List YB),([]:List YB),a2.1,a2.2.1,a1.1,());letI k3:=(r1.1,r1.2.1,u2.1,u2.2.1,u3.1,u3.2.1,r5.1,());.ob (Uy (u1.1,u1.2.1,()) (f.2.2.2.1,())) fun r46=>letI k15:=idx u1.2.1 r46.1;
 .br (decide (r46.1<0)) (
 .leaf (k3,([],()),([],()))) (
 .ob k15 fun e47=>
 .br e47.2.2.2.2.2.2.2.2.2.2.2.2.2.2.2.2.2.2.2.2.2.2.2.1 (
 .leaf (k3,([],()),([],()))) (
 .ob (Avk (a0.2.2.1,a0.2.2.2.1,())) fun r48=>letI k2:=((7:Int),(0:Int),(0:Int),([]:List YB),([]:List YB)++f.2.2.2.1,(0:Int),(0:Int),([]:List YB)++r48.2.1,([]:List YB),a2.1,a2.2.1,a1.1,());letI k9:=decide (([]:List YB).length+r48.2.1.length<=4294967296);
 .ob (Uz k3 a2 (51,())) fun r49=>
 .br (!r49.1) (
 .ob k15 fun e50=>
 .ob (Tk e50 a1 a2 f ([],())) fun r51=>letI u4:=r51.2.2;letI k4:=(([]:List Au)++r51.2.1.1,());letI k13:=([]:List Am)++u4.1.1;
 .ob (idx u3.2.1 r46.1) fun e52=>
 let q53:=(r1.2.2.2.2.2.1.set (r46.1).toNat r51.1);letI k8:=Cu (r1.1,r1.2.1,r48.1.1,r48.1.2.1,u3.1,q53,r5.1,()) k4;letI k11:=Cu (r1.1,r1.2.1,u2.1,u2.2.1,u3.1,q53,r5.1,()) k4;
 .chk (decide (([]:List Au).length+r51.2.1.1.length<=4294967296)) <|
 .br u4.2.1 (
 .ob (Rj ([],())) fun r54=>letI k6:=(([]:List Am)++[r54])++u4.1.1;
 .chk (decide (([]:List Am).length+[r54].length<=4294967296)) <|
 .chk (decide ((([]:List Am)++[r54]).length+r51.2.2.1.1.length<=4294967296)) <|
 .br u4.2.1 (
 .chk (decide (([]:List YB).length+f.2.2.2.1.length<=4294967296)) <|
 .chk (decide (([]:List YB).length+([]:List YB).length<=4294967296)) <|
 .chk (decide (k6.length+[k1].length<=4294967296)) <|
 .ob k8 fun r55=>
 .leaf (r55.2,r55.1,(k6++[k1],()))) (
 .ob k8 fun r56=>
 .leaf (r56.2,r56.1,(k6,())))) (
 .chk (decide (([]:List Am).length+r51.2.2.1.1.length<=4294967296)) <|
 .br u4.2.1 (
 .chk (decide (([]:List YB).length+f.2.2.2.1.length<=4294967296)) <|
 .chk (decide (([]:List YB).length+([]:List YB).length<=4294967296)) <|
 .chk (decide (k13.length+[k1].length<=4294967296)) <|
 .ob k11 fun r57=>
 .leaf (r57.2,r57.1,(k13++[k1],()))) (
 .ob k11 fun r58=>
 .leaf (r58.2,r58.1,(k13,()))))) (
 .ob k15 fun e59=>
 .ob (Tk e59 a1 a2 f r48.2) fun r60=>letI u5:=r60.2.2;letI k5:=(([]:List Au)++r60.2.1.1,());letI k14:=([]:List Am)++u5.1.1;
 .ob (idx u3.2.1 r46.1) fun e61=>
 let q62:=(r1.2.2.2.2.2.1.set (r46.1).toNat r60.1);letI k10:=Cu (r1.1,r1.2.1,r48.1.1,r48.1.2.1,u3.1,q62,r5.1,()) k5;letI k12:=Cu (r1.1,r1.2.1,u2.1,u2.2.1,u3.1,q62,r5.1,()) k5;
 .chk (decide (([]:List Au).length+r60.2.1.1.length<=4294967296)) <|
 .br u5.2.1 (
 .ob (Rj r48.2) fun r63=>letI k7:=(([]:List Am)++[r63])++u5.1.1;
 .chk (decide (([]:List Am).length+[r63].length<=4294967296)) <|
 .chk (decide ((([]:List Am)++[r63]).length+r60.2.2.1.1.length<=4294967296)) <|
 .br u5.2.1 (
 .chk (decide (([]:List YB).length+f.2.2.2.1.length<=4294967296)) <|
 .chk k9 <|
 .chk (decide (k7.length+[k2].length<=4294967296)) <|
 .ob k10 fun r64=>
 .leaf (r64.2,r64.1,(k7++[k2],()))) (
 .ob k10 fun r65=>
 .leaf (r65.2,r65.1,(k7,())))) (
 .chk (decide (([]:List Am).length+r60.2.2.1.1.length<=4294967296)) <|
 .br u5.2.1 (
 .chk (decide (([]:List YB).length+f.2.2.2.1.length<=4294967296)) <|
 .chk k9 <|
 .chk (decide (k14.length+[k2].length<=4294967296)) <|
 .ob k12 fun r66=>
 .leaf (r66.2,r66.1,(k14++[k2],()))) (
 .ob k12 fun r67=>
 .leaf (r67.2,r67.1,(k14,())))))))
def Un (a0:A0) (a1:YI) (a2:A6) (a3:YBs):Tree (A0×(List Au×Unit)×(List Am×Unit)):=
 .ob (Aov a0) fun r1=>letI u1:=r1.2.2.2;
 .ob (Aj1 a0) fun r2=>
 .br (!r2.1) (
 .leaf (r1,([],()),([],()))) (
 .ob (Bl a1 (0,()) (1000000,())) fun r3=>
 .br (!r3.1) (
 .leaf (r1,([],()),([],()))) (
 .ob (Gg a2) fun r4=>
 .br (!r4.1) (
 .leaf (r1,([],()),([],()))) (
 .ob (Avi (a0.2.2.2.2.2.2.1,()) a2 ((a3.1.length:Int),())) fun r5=>letI k1:=(r1.1,r1.2.1,r1.2.2.1,u1.1,u1.2.1,u1.2.2.1,r5.1,());
 .ob (Aa2 a3) fun r6=>
 .br (!r6.2.1) (
 .leaf (k1,([],()),([],()))) (
 .br (r6.1.1==1) (Bd0 a0 a1 a2 r1 r5 r6.1) (
 .br (r6.1.1==3) (Bk7 a0 a1 a2 r1 r5 r6.1) (
 .ob (M9 (r6.1.1,())) fun r45=>
 .br r45.1 (Bd1 a0 a1 a2 r1 r5 r6.1) (
 .ob (Cu k1 ([],())) fun r68=>
 .leaf (r68.2,r68.1,([],())))))))))
def Acp a0 a1 a2 a3:=(Un a0 a1 a2 a3).val
def Az8 (a0:YBs):Tree (YBs):=
 .chk (decide (([]:List YB).length+a0.1.length<=4294967296)) <|
 .leaf (([]:List YB)++a0.1,())
def Bg a0:=(Az8 a0).val
def K9:Lst (List YBs×List YBs×Int×Int×Unit) (List YBs×Unit):=fun x1=>
 letI u1:=x1.2.2;Tree.val <|
 .br (decide (u1.2.1<u1.1)) (
 .ob (idx x1.2.1 u1.2.1) fun e2=>
 .ob (Bg e2) fun r3=>
 .chk (decide (x1.1.length+[r3].length<=4294967296)) <|
 .leaf (.inl (x1.1++[r3],x1.2.1,u1.1,i64.wrap (u1.2.1+1),()))) (
 .leaf (.inr (x1.1,())))
def Aiw (a0:List YBs×Unit):Tree (List YBs×Unit):=
 .ob (Ax K9 ([],a0.1,(a0.1.length:Int),0,())) fun o4=>
 .leaf o4
def Aj9 a0:=(Aiw a0).val
def Anw (a0:Cz):Tree (Cz):=
 .chk (decide (([]:List YI).length+a0.2.1.length<=4294967296)) <|
 .leaf (a0.1,([]:List YI)++a0.2.1,())
def Aef a0:=(Anw a0).val
def Atq (a0:YEp):Tree (YEp):=
 .ob (Bg (a0.2.1,())) fun r1=>
 .ob (Aef (a0.2.2.2.1,a0.2.2.2.2.1,())) fun r2=>
 .leaf (a0.1,r1.1,a0.2.2.1,r2.1,r2.2.1,())
def U2 a0:=(Atq a0).val
def Aix (a0:Aq):Tree (Aq):=
 letI u1:=a0.2.2.2;letI u2:=u1.2.2.2;letI u3:=u2.2.2.2.2;.ob (Bg (a0.2.1,())) fun r1=>
 .ob (Bg (u3.2.2.2.2.1,())) fun r2=>
 .ob (U2 (a0.2.2.1,u1.1,u1.2.1,u1.2.2.1,u2.1,())) fun r3=>
 .ob (U2 (u2.2.1,u2.2.2.1,u2.2.2.2.1,u3.1,u3.2.1,())) fun r4=>
 .leaf (a0.1,r1.1,r3.1,r3.2.1,r3.2.2.1,r3.2.2.2.1,r3.2.2.2.2.1,r4.1,r4.2.1,r4.2.2.1,r4.2.2.2.1,r4.2.2.2.2.1,u3.2.2.1,u3.2.2.2.1,r2.1,())
def H9 a0:=(Aix a0).val
def Jx:Lst (List Av×Int×Int×Int×Int×List Av×Int×Int×List Av×Unit) (Int×Int×List Av×Int×Int×List Av×Unit):=fun x1=>
 letI u1:=x1.2.2;letI u2:=u1.2.2;letI u3:=u2.2.2;Tree.val <|
 .br (decide (u1.1<x1.2.1)) (
 .ob (idx x1.1 u1.1) fun e2=>
 .ob (Bg (e2.2.2.1,())) fun r3=>letI k1:=(e2.1,e2.2.1,r3.1,e2.2.2.2.1,());
 .chk (decide (x1.2.2.2.2.2.2.2.2.1.length+[k1].length<=4294967296)) <|
 .leaf (.inl (x1.1,x1.2.1,i64.wrap (u1.1+1),u1.2.1,u2.1,u2.2.1,u3.1,u3.2.1,u3.2.2.1++[k1],()))) (
 .leaf (.inr (u1.2.1,u2.1,u2.2.1,u3.1,u3.2.1,u3.2.2.1,())))
def Afs (a0:Bd):Tree (Bd):=
 .ob (Ax Jx (a0.2.2.1,(a0.2.2.1.length:Int),0,0,0,[],a0.1,a0.2.1,[],())) fun o4=>
 .leaf (o4.2.2.2.1,o4.2.2.2.2.1,o4.2.2.2.2.2.1,())
def Fc a0:=(Afs a0).val
def Aiy (a0:Al):Tree (Al):=
 letI u1:=a0.2.2.2;letI u2:=u1.2.2.2;letI u3:=u2.2.2.2;letI u4:=u3.2.2.2;letI u5:=u4.2.2.2;letI u6:=u5.2.2.2.2;.ob (Bg (a0.2.1,())) fun r1=>
 .ob (Bg (a0.2.2.1,())) fun r2=>
 .ob (H9 (u1.1,u1.2.1,u1.2.2.1,u2.1,u2.2.1,u2.2.2.1,u3.1,u3.2.1,u3.2.2.1,u4.1,u4.2.1,u4.2.2.1,u5.1,u5.2.1,u5.2.2.1,())) fun r3=>letI u7:=r3.2.2.2;letI u8:=u7.2.2.2;letI u9:=u8.2.2.2.2;
 .ob (Fc (u5.2.2.2.1,u6.1,u6.2.1,())) fun r4=>
 .leaf (a0.1,r1.1,r2.1,r3.1,r3.2.1,r3.2.2.1,u7.1,u7.2.1,u7.2.2.1,u8.1,u8.2.1,u8.2.2.1,u8.2.2.2.1,u9.1,u9.2.1,u9.2.2.1,u9.2.2.2.1,u9.2.2.2.2.1,r4.1,r4.2.1,r4.2.2.1,u6.2.2.1,u6.2.2.2.1,u6.2.2.2.2.1,())
def Lv a0:=(Aiy a0).val
def Mg:Lst (List Al×Int×Int×Int×List Al×Int×List Al×Unit) (Int×List Al×Int×List Al×Unit):=fun x1=>
 letI u1:=x1.2.2;letI u2:=u1.2.2;Tree.val <|
 .br (decide (u1.1<x1.2.1)) (
 .ob (idx x1.1 u1.1) fun e2=>
 .ob (Lv e2) fun r3=>
 .chk (decide (x1.2.2.2.2.2.2.1.length+[r3].length<=4294967296)) <|
 .leaf (.inl (x1.1,x1.2.1,i64.wrap (u1.1+1),u1.2.1,u2.1,u2.2.1,u2.2.2.1++[r3],()))) (
 .leaf (.inr (u1.2.1,u2.1,u2.2.1,u2.2.2.1,())))
def Any (a0:B8):Tree (B8):=
 .ob (Ax Mg (a0.2.1,(a0.2.1.length:Int),0,0,[],a0.1,[],())) fun o4=>
 .leaf (o4.2.2.1,o4.2.2.2.1,())
def R9 a0:=(Any a0).val
def Aah (a0:List Ak×Unit):Tree (List Ak×Unit):=
 .chk (decide (([]:List Ak).length+a0.1.length<=4294967296)) <|
 .leaf (([]:List Ak)++a0.1,())
def Nd a0:=(Aah a0).val
def Acg (a0:A0):Tree (A0):=
 letI u1:=a0.2.2.2;.ob (Aj9 (a0.1,())) fun r1=>
 .ob (Bg (a0.2.1,())) fun r2=>
 .ob (Bg (a0.2.2.1,())) fun r3=>
 .ob (R9 (u1.2.1,u1.2.2.1,())) fun r4=>
 .ob (Nd (u1.2.2.2.1,())) fun r5=>
 .leaf (r1.1,r2.1,r3.1,u1.1,r4.1,r4.2.1,r5.1,())
def Acq a0:=(Acg a0).val
def Atr (a0 a1 a2:YI):Tree (Bool×Unit):=
 .br (decide (a0.1≥a1.1)) (
 .leaf (decide (a0.1<=a2.1),())) (
 .leaf (false,()))
def Be a0 a1 a2:=(Atr a0 a1 a2).val
def Bfx (a0:YBs):Tree (Bool×Unit):=
 .leaf ((a0.1.length:Int)==32,())
def Al0 a0:=(Bfx a0).val
def Atu (a0:C7):Tree (Bool×Unit):=
 .ob (Be ((a0.1.length:Int),()) (1,()) (32,())) fun r1=>
 .br r1.1 (
 .ob (Be (a0.2.1,()) (0,()) (10000,())) fun r2=>
 .leaf r2) (
 .leaf (false,()))
def Ag9 a0:=(Atu a0).val
def Kk:Lst (Int×List Al×Int×Int×Unit) (YI):=fun x1=>
 letI u1:=x1.2.2;letI k1:=i64.wrap (u1.2.1+(1:Int));Tree.val <|
 .br (decide (u1.2.1<u1.1)) (
 .ob (idx x1.2.1 u1.2.1) fun e2=>
 .br (!e2.2.2.2.2.2.2.2.2.2.2.2.2.2.2.2.2.2.2.2.2.2.2.2.1) (
 .leaf (.inl (i64.wrap (x1.1+1),x1.2.1,u1.1,k1,()))) (
 .leaf (.inl (x1.1,x1.2.1,u1.1,k1,())))) (
 .leaf (.inr (x1.1,())))
def Atv (a0:B8):Tree (YI):=
 .ob (Ax Kk (0,a0.2.1,(a0.2.1.length:Int),0,())) fun o3=>
 .leaf o3
def Xj a0:=(Atv a0).val
def A4w (a0:YBs):Tree (Bool×Unit):=
 .leaf ((a0.1.length:Int)==12,())
def Ds a0:=(A4w a0).val
def Ax2 (a0 a1:YBs):Tree (Bool×Unit):=
 .leaf (decide ((H8 a0.1)=(H8 a1.1)),())
def Ca a0 a1:=(Ax2 a0 a1).val
def Aqf:Lst (List YI×List YI×Int×Int×Unit) ((Bool×Unit)⊕(Unit)):=fun x1=>
 letI u1:=x1.2.2;Tree.val <|
 .br (decide (u1.2.1<u1.1)) (
 .ob (idx x1.2.1 u1.2.1) fun e2=>
 .ob (idx x1.1 u1.2.1) fun e3=>
 .br (e2.1 != e3.1) (
 .leaf (.inr (.inl (false,())))) (
 .leaf (.inl (x1.1,x1.2.1,u1.1,i64.wrap (u1.2.1+1),())))) (
 .leaf (.inr (.inr ())))
def Ai0 (a0 a1:List YI×Unit):Tree (Bool×Unit):=
 .br ((a0.1.length:Int) != (a1.1.length:Int)) (
 .leaf (false,())) (
 .ob (Ax Aqf (a1.1,a0.1,(a0.1.length:Int),0,())) fun o4=>
 .sm o4 (fun o5=>
 .leaf o5) (fun o6=>
 .leaf (true,())))
def Aka a0 a1:=(Ai0 a0 a1).val
def Atx (a0 a1:YEp):Tree (Bool×Unit):=
 .br (a0.1==a1.1) (
 .ob (Ca (a0.2.1,()) (a1.2.1,())) fun r1=>
 .br r1.1 (
 .br (a0.2.2.1==a1.2.2.1) (
 .br (a0.2.2.2.1==a1.2.2.2.1) (
 .ob (Aka (a0.2.2.2.2.1,()) (a1.2.2.2.2.1,())) fun r2=>
 .leaf r2) (
 .leaf (false,()))) (
 .leaf (false,()))) (
 .leaf (false,()))) (
 .leaf (false,()))
def Aa5 a0 a1:=(Atx a0 a1).val
def Ach (a0:Aq):Tree (Bool×Unit):=
 letI u1:=a0.2.2.2;letI u2:=u1.2.2.2;letI u3:=u2.2.2.2;.br (a0.1==0) (
 .br ((a0.2.1.length:Int)==0) (
 .ob (Aa5 (a0.2.2.1,u1.1,u1.2.1,u1.2.2.1,u2.1,()) (0,[],0,0,[],())) fun r1=>
 .br r1.1 (
 .ob (Aa5 (u2.2.1,u2.2.2.1,u3.1,u3.2.1,u3.2.2.1,()) (0,[],0,0,[],())) fun r2=>
 .br r2.1 (
 .br (!u3.2.2.2.1) (
 .br (u3.2.2.2.2.1==0) (
 .leaf ((a0.2.2.2.2.2.2.2.2.2.2.2.2.2.2.1.length:Int)==0,())) (
 .leaf (false,()))) (
 .leaf (false,()))) (
 .leaf (false,()))) (
 .leaf (false,()))) (
 .leaf (false,()))) (
 .leaf (false,()))
def Acr a0:=(Ach a0).val
def Aty (a0:YI):Tree (Bool×Unit):=
 .br (a0.1==0) (
 .leaf (true,())) (
 .leaf (a0.1==1,()))
def Qm a0:=(Aty a0).val
def Ov:Lst (List YI×Int×List YI×Int×Int×Unit) ((Bool×Unit)⊕(List YI×Int×Unit)):=fun x1=>
 letI u1:=x1.2.2;Tree.val <|
 .br (decide (u1.2.2.1<u1.2.1)) (
 .ob (idx u1.1 u1.2.2.1) fun e2=>
 .ob (Be e2 (0,()) (4294967295,())) fun r3=>
 .br (!r3.1) (
 .leaf (.inr (.inl (false,())))) (
 .leaf (.inl (x1.1,x1.2.1,u1.1,u1.2.1,i64.wrap (u1.2.2.1+1),())))) (
 .leaf (.inr (.inr (x1.1,x1.2.1,()))))
def Ai1 (a0:List YI×Unit) (a1:YI):Tree (Bool×Unit):=
 .ob (Ax Ov (a0.1,a1.1,a0.1,(a0.1.length:Int),0,())) fun o4=>
 .sm o4 (fun o5=>
 .leaf o5) (fun o6=>
 .leaf ((o6.1.length:Int)==o6.2.1,()))
def Tl a0 a1:=(Ai1 a0 a1).val
def At0 (a0:Cz) (a1:YI):Tree (Bool×Unit):=
 letI k1:=decide ((0:Int)<=a1.1); .chk k1 <|
 .chk (decide (0<=(a1.1%1024))) <|
 .ob (idx a0.2.1 ((a1.1%1024)/(32:Int))) fun e1=>
 .chk k1 <|
 .chk (decide (0<=(a1.1%32))) <|
 .leaf ((i64.wrap ((BitVec.ofInt i64.bits (Int.fdiv e1.1 (2^(min (a1.1%32).toNat i64.bits))) &&& BitVec.ofInt i64.bits 1).toNat:Nat))==1,())
def Aa6 a0 a1:=(At0 a0 a1).val
def Rw:Lst (Int×Int×List YI×Unit) ((Bool×Unit)⊕Cz):=fun x3=>
 Tree.val <|
 .br (decide (x3.1<1024)) (
 .ob (Aa6 (x3.2.1,x3.2.2.1,()) (x3.1,())) fun r4=>
 .br r4.1 (
 .leaf (.inr (.inl (false,())))) (
 .leaf (.inl (i64.wrap (x3.1+1),x3.2.1,x3.2.2.1,())))) (
 .leaf (.inr (.inr (x3.2.1,x3.2.2.1,()))))
def A0d (a0:Cz):Tree (Bool×Unit):=
 .ob (Be (a0.1,()) (-1,()) (281474976710655,())) fun r1=>
 .br (!r1.1) (
 .leaf (false,())) (
 .ob (Tl (a0.2.1,()) (32,())) fun r2=>
 .br (!r2.1) (
 .leaf (false,())) (
 .ob (Ax Rw (i64.wrap (a0.1+1),a0.1,a0.2.1,())) fun o5=>
 .sm o5 (fun o6=>
 .leaf o6) (fun o7=>
 .br (o7.1==(-1:Int)) (
 .leaf (true,())) (
 .ob (Aa6 o7 (o7.1,())) fun r8=>
 .leaf r8))))
def Al1 a0:=(A0d a0).val
def A61 (a0:YEp):Tree (Bool×Unit):=
 .ob (Be (a0.1,()) (0,()) (4294967295,())) fun r1=>
 .br r1.1 (
 .br ((a0.2.1.length:Int)==32) (
 .ob (Be (a0.2.2.1,()) (0,()) (281474976710656,())) fun r2=>
 .br r2.1 (
 .ob (Al1 (a0.2.2.2.1,a0.2.2.2.2.1,())) fun r3=>
 .leaf r3) (
 .leaf (false,()))) (
 .leaf (false,()))) (
 .leaf (false,()))
def Acs a0:=(A61 a0).val
def A0e (a0:Aq):Tree (Bool×Unit):=
 letI u1:=a0.2.2.2.2.2.2.2;letI u2:=u1.2.2;letI u3:=u2.2.2;letI k1:=(u1.1,u1.2.1,u2.1,u2.2.1,u3.1,());.br (!u3.2.1) (
 .ob (Aa5 k1 (0,[],0,0,[],())) fun r1=>
 .br r1.1 (
 .leaf (u3.2.2.1==0,())) (
 .leaf (false,()))) (
 .ob (Acs k1) fun r2=>
 .br (!r2.1) (
 .leaf (false,())) (
 .br (u1.1 != i64.wrap (a0.2.2.1-1)) (
 .leaf (false,())) (
 .ob (Be (u3.2.2.1,()) (0,()) (1000005,())) fun r3=>
 .br r3.1 (
 .leaf (true,())) (
 .br (u3.2.2.1==(-1:Int)) (
 .leaf (a0.1==1,())) (
 .leaf (false,()))))))
def A1u a0:=(A0e a0).val
def At1 (a0:Aq):Tree (Bool×Unit):=
 letI u1:=a0.2.2;letI k1:=(a0.2.2.2.2.2.2.2.2.2.2.2.2.2.2.1.length:Int);.ob (Qm (a0.1,())) fun r1=>
 .br (!r1.1) (
 .leaf (false,())) (
 .ob (Ds (a0.2.1,())) fun r2=>
 .br (!r2.1) (
 .leaf (false,())) (
 .ob (Acs (u1.1,u1.2.1,u1.2.2.1,u1.2.2.2.1,u1.2.2.2.2.1,())) fun r3=>
 .br (!r3.1) (
 .leaf (false,())) (
 .ob (A1u a0) fun r4=>
 .br (!r4.1) (
 .leaf (false,())) (
 .br (k1==0) (
 .leaf (true,())) (
 .br (a0.1==0) (
 .br (k1==32) (
 .leaf (decide (u1.1<4294967295),())) (
 .leaf (false,()))) (
 .leaf (false,())))))))
def Km a0:=(At1 a0).val
def At2 (a0:A6):Tree (Bool×Unit):=
 .ob (Be (a0.1,()) (0,()) (4294967295,())) fun r1=>
 .br r1.1 (
 .ob (Be (a0.2.1,()) (0,()) (65535,())) fun r2=>
 .leaf r2) (
 .leaf (false,()))
def Gi a0:=(At2 a0).val
def J5:Lst (List Av×Int×Int×List Av×Int×Int×Int×Int×List Av×Int×Int×List YB×Int×Unit) ((Bool×Unit)⊕(List Av×Int×Int×Int×Int×List Av×Unit)):=fun x7=>
 letI u1:=x7.2.2;letI u2:=u1.2.2.2;letI u3:=u2.2.2;letI u4:=u3.2.2;Tree.val <|
 .br (decide (u2.1<u1.2.2.1)) (
 .ob (idx u1.2.1 u2.1) fun e8=>
 .br (and (e8.1==u4.1) (and (e8.2.1==u4.2.1) true)) (
 .leaf (.inr (.inl (false,())))) (
 .leaf (.inl (x7.1,x7.2.1,u1.1,u1.2.1,u1.2.2.1,i64.wrap (u2.1+1),u2.2.1,u3.1,u3.2.1,u4.1,u4.2.1,u4.2.2.1,u4.2.2.2.1,())))) (
 .leaf (.inr (.inr (x7.1,x7.2.1,u1.1,u2.2.1,u3.1,u3.2.1,()))))
def Mh:Lst (List Av×Int×Int×Int×Int×List Av×Unit) ((Bool×Unit)⊕(Unit)):=fun x2=>
 letI u1:=x2.2.2;letI k1:=(x2.2.2.2.2.2.1.take (u1.1).toNat).drop (0:Int).toNat;Tree.val <|
 .br (decide (u1.1<x2.2.1)) (
 .ob (idx x2.1 u1.1) fun e3=>
 .ob (Gi (e3.1,e3.2.1,())) fun r4=>
 .br (!r4.1) (
 .leaf (.inr (.inl (false,())))) (
 .br (and (e3.1==u1.2.1) (and (e3.2.1==u1.2.2.1) true)) (
 .leaf (.inr (.inl (false,())))) (
 .ob (Ds (e3.2.2.1,())) fun r5=>
 .br (!r5.1) (
 .leaf (.inr (.inl (false,())))) (
 .ob (Be (e3.2.2.2.1,()) (0,()) (1000006,())) fun r6=>
 .br (!r6.1) (
 .leaf (.inr (.inl (false,())))) (
 .chk (decide (0<=u1.1)) <|
 .chk (decide (u1.1<=(x2.2.2.2.2.2.1.length:Int))) <|
 .ob (Ax J5 (x2.1,x2.2.1,u1.1,k1,(k1.length:Int),0,u1.2.1,u1.2.2.1,u1.2.2.2.1,e3.1,e3.2.1,e3.2.2.1,e3.2.2.2.1,())) fun o9=>
 .sm o9 (fun o10=>
 .leaf (.inr (.inl o10))) (fun o11=>
 .leaf (.inl (o11.1,o11.2.1,i64.wrap (o11.2.2.1+1),o11.2.2.2.1,o11.2.2.2.2.1,o11.2.2.2.2.2.1,())))))))) (
 .leaf (.inr (.inr ())))
def Ad0 (a0:Bd):Tree (Bool×Unit):=
 .ob (Gi (a0.1,a0.2.1,())) fun r1=>
 .br (!r1.1) (
 .leaf (false,())) (
 .br (decide ((a0.2.2.1.length:Int)>3)) (
 .leaf (false,())) (
 .ob (Ax Mh (a0.2.2.1,(a0.2.2.1.length:Int),0,a0.1,a0.2.1,a0.2.2.1,())) fun o12=>
 .sm o12 (fun o13=>
 .leaf o13) (fun o14=>
 .leaf (true,()))))
def Wa a0:=(Ad0 a0).val
def At3 (a0:Al):Tree (Bool×Unit):=
 letI u1:=a0.2.2;letI u2:=u1.2.2;letI u3:=u2.2.2;letI u4:=u3.2.2;letI u5:=u4.2.2;letI u6:=u5.2.2;letI u7:=u6.2.2;letI u8:=u7.2.2;letI u9:=u8.2.2;letI u10:=u9.2.2.2;letI k1:=(u1.2.1,u2.1,u2.2.1,u3.1,u3.2.1,u4.1,u4.2.1,u5.1,u5.2.1,u6.1,u6.2.1,u7.1,u7.2.1,u8.1,u8.2.1,());.ob (Be (a0.1,()) (1,()) (9,())) fun r1=>
 .br (!r1.1) (
 .leaf (false,())) (
 .ob (Ds (a0.2.1,())) fun r2=>
 .br (!r2.1) (
 .leaf (false,())) (
 .ob (Ds (u1.1,())) fun r3=>
 .br (!r3.1) (
 .leaf (false,())) (
 .ob (Be (u10.1,()) (0,()) (1000000,())) fun r4=>
 .br (!r4.1) (
 .leaf (false,())) (
 .br u10.2.2.1 (
 .ob (Acr k1) fun r5=>
 .br r5.1 (
 .br (and (u9.1==0) (and (u9.2.1==0) true)) (
 .br ((a0.2.2.2.2.2.2.2.2.2.2.2.2.2.2.2.2.2.2.2.2.1.length:Int)==0) (
 .leaf (u10.2.1==0,())) (
 .leaf (false,()))) (
 .leaf (false,()))) (
 .leaf (false,()))) (
 .ob (Km k1) fun r6=>
 .br r6.1 (
 .br (u1.2.1==1) (
 .ob (Ca (u2.1,()) (u1.1,())) fun r7=>
 .br r7.1 (
 .ob (Wa (u9.1,u9.2.1,u9.2.2.1,())) fun r8=>
 .br r8.1 (
 .ob (Be (u10.2.1,()) (0,()) (1000000,())) fun r9=>
 .leaf r9) (
 .leaf (false,()))) (
 .leaf (false,()))) (
 .leaf (false,()))) (
 .leaf (false,())))))))
def U3 a0:=(At3 a0).val
def S6:Lst (List YB×List Al×Int×Int×Unit) (YI⊕(Unit)):=fun x1=>
 letI u1:=x1.2.2;Tree.val <|
 .br (decide (u1.2.1<u1.1)) (
 .ob (idx x1.2.1 u1.2.1) fun e2=>
 .ob (Ca (e2.2.2.1,()) (x1.1,())) fun r3=>
 .br r3.1 (
 .leaf (.inr (.inl (u1.2.1,())))) (
 .leaf (.inl (x1.1,x1.2.1,u1.1,i64.wrap (u1.2.1+1),())))) (
 .leaf (.inr (.inr ())))
def At4 (a0:B8) (a1:YBs):Tree (YI):=
 .ob (Ax S6 (a1.1,a0.2.1,(a0.2.1.length:Int),0,())) fun o4=>
 .sm o4 (fun o5=>
 .leaf o5) (fun o6=>
 .leaf (-1,()))
def Nf a0 a1:=(At4 a0 a1).val
def V4:Lst (List Al×Int×Int×Int×List Al×Unit) ((Bool×Unit)⊕(Unit)):=fun x3=>
 letI u1:=x3.2.2;Tree.val <|
 .br (decide (u1.1<x3.2.1)) (
 .ob (idx x3.1 u1.1) fun e4=>
 .ob (U3 e4) fun r5=>
 .br (!r5.1) (
 .leaf (.inr (.inl (false,())))) (
 .ob (Nf (u1.2.1,u1.2.2.1,()) (e4.2.2.1,())) fun r6=>
 .br (decide (r6.1<u1.1)) (
 .leaf (.inr (.inl (false,())))) (
 .leaf (.inl (x3.1,x3.2.1,i64.wrap (u1.1+1),u1.2.1,u1.2.2.1,()))))) (
 .leaf (.inr (.inr ())))
def A0f (a0:B8):Tree (Bool×Unit):=
 .ob (Be (a0.1,()) (1,()) (6,())) fun r1=>
 .br (!r1.1) (
 .leaf (false,())) (
 .br (decide ((a0.2.1.length:Int)>12)) (
 .leaf (false,())) (
 .ob (Xj a0) fun r2=>
 .br (decide (r2.1>a0.1)) (
 .leaf (false,())) (
 .ob (Ax V4 (a0.2.1,(a0.2.1.length:Int),0,a0.1,a0.2.1,())) fun o7=>
 .sm o7 (fun o8=>
 .leaf o8) (fun o9=>
 .leaf (true,())))))
def Zd a0:=(A0f a0).val
def Ow:Lst (List Ak×Int×Int×Int×Int×Unit) (YI⊕(Unit)):=fun x1=>
 letI u1:=x1.2.2;Tree.val <|
 .br (decide (u1.1<x1.2.1)) (
 .ob (idx x1.1 u1.1) fun e2=>
 .br (and (e2.1==u1.2.1) (and (e2.2.1==u1.2.2.1) true)) (
 .leaf (.inr (.inl (u1.1,())))) (
 .leaf (.inl (x1.1,x1.2.1,i64.wrap (u1.1+1),u1.2.1,u1.2.2.1,())))) (
 .leaf (.inr (.inr ())))
def Ai4 (a0:List Ak×Unit) (a1:A6):Tree (YI):=
 .ob (Ax Ow (a0.1,(a0.1.length:Int),0,a1.1,a1.2.1,())) fun o3=>
 .sm o3 (fun o4=>
 .leaf o4) (fun o5=>
 .leaf (-1,()))
def Pd a0 a1:=(Ai4 a0 a1).val
def Ms:Lst (List Ak×List Ak×Int×Int×Unit) ((Bool×Unit)⊕(Unit)):=fun x1=>
 letI u1:=x1.2.2;Tree.val <|
 .br (decide (u1.2.1<u1.1)) (
 .ob (idx x1.2.1 u1.2.1) fun e2=>
 .ob (Gi (e2.1,e2.2.1,())) fun r3=>
 .br (!r3.1) (
 .leaf (.inr (.inl (false,())))) (
 .ob (Be (e2.2.2.1,()) (0,()) (1000000,())) fun r4=>
 .br (!r4.1) (
 .leaf (.inr (.inl (false,())))) (
 .ob (Be (e2.2.2.2.1,()) (0,()) (i64.wrap (3*e2.2.2.1),())) fun r5=>
 .br (!r5.1) (
 .leaf (.inr (.inl (false,())))) (
 .ob (Pd (x1.1,()) (e2.1,e2.2.1,())) fun r6=>
 .br (decide (r6.1<u1.2.1)) (
 .leaf (.inr (.inl (false,())))) (
 .leaf (.inl (x1.1,x1.2.1,u1.1,i64.wrap (u1.2.1+1),()))))))) (
 .leaf (.inr (.inr ())))
def Afu (a0:List Ak×Unit):Tree (Bool×Unit):=
 .br (decide ((a0.1.length:Int)>8)) (
 .leaf (false,())) (
 .ob (Ax Ms (a0.1,a0.1,(a0.1.length:Int),0,())) fun o7=>
 .sm o7 (fun o8=>
 .leaf o8) (fun o9=>
 .leaf (true,())))
def Mk a0:=(Afu a0).val
def A0g (a0:YBs):Tree (Bool×Unit):=
 .ob (Be ((a0.1.length:Int),()) (1,()) (32,())) fun r1=>
 .leaf r1
def Ze a0:=(A0g a0).val
def La:Lst (List YBs×Int×Int×List YBs×List YB×List YB×Int×Int×List Al×List Ak×Unit) ((Bool×Unit)⊕A0):=fun x6=>
 letI u1:=x6.2.2;letI u2:=u1.2.2;letI u3:=u2.2.2.2;Tree.val <|
 .br (decide (u1.1<x6.2.1)) (
 .ob (idx x6.1 u1.1) fun e7=>
 .ob (Ze e7) fun r8=>
 .br (!r8.1) (
 .leaf (.inr (.inl (false,())))) (
 .leaf (.inl (x6.1,x6.2.1,i64.wrap (u1.1+1),u1.2.1,u2.1,u2.2.1,u2.2.2.1,u3.1,u3.2.1,u3.2.2.1,())))) (
 .leaf (.inr (.inr (u1.2.1,u2.1,u2.2.1,u2.2.2.1,u3.1,u3.2.1,u3.2.2.1,()))))
def Jy:Lst (List Al×Int×Int×List YBs×List YB×List YB×Int×Int×List Al×List Ak×Unit) ((Bool×Unit)⊕(Unit)):=fun x12=>
 letI u1:=x12.2.2;letI u2:=u1.2.2.2;Tree.val <|
 .br (decide (u1.1<x12.2.1)) (
 .ob (idx x12.1 u1.1) fun e13=>
 .br (decide (e13.1>(x12.2.2.2.1.length:Int))) (
 .leaf (.inr (.inl (false,())))) (
 .leaf (.inl (x12.1,x12.2.1,i64.wrap (u1.1+1),u1.2.1,u1.2.2.1,u2.1,u2.2.1,u2.2.2.1,u2.2.2.2.1,u2.2.2.2.2.1,())))) (
 .leaf (.inr (.inr ())))
def Aal (a0:A0):Tree (Bool×Unit):=
 letI u1:=a0.2.2;letI u2:=u1.2.2;.ob (Be ((a0.1.length:Int),()) (1,()) (9,())) fun r1=>
 .br (!r1.1) (
 .leaf (false,())) (
 .ob (Al0 (a0.2.1,())) fun r2=>
 .br (!r2.1) (
 .leaf (false,())) (
 .ob (Ag9 (u1.1,u1.2.1,())) fun r3=>
 .br (!r3.1) (
 .leaf (false,())) (
 .ob (Zd (u2.1,u2.2.1,())) fun r4=>
 .br (!r4.1) (
 .leaf (false,())) (
 .ob (Mk (u2.2.2.1,())) fun r5=>
 .br (!r5.1) (
 .leaf (false,())) (
 .ob (Ax La (a0.1,(a0.1.length:Int),0,a0.1,a0.2.1,u1.1,u1.2.1,u2.1,u2.2.1,u2.2.2.1,())) fun o9=>
 .sm o9 (fun o10=>
 .leaf o10) (fun o11=>letI u3:=o11.2.2.2;
 .ob (Ax Jy (u3.2.2.1,(o11.2.2.2.2.2.1.length:Int),0,o11.1,o11.2.1,o11.2.2.1,u3.1,u3.2.1,u3.2.2.1,u3.2.2.2.1,())) fun o14=>
 .sm o14 (fun o15=>
 .leaf o15) (fun o16=>
 .leaf (true,()))))))))
def Akb a0:=(Aal a0).val
def A63 (a0:List Ak×Unit) (a1:A6) (a2:YI):Tree (List Ak×Unit):=
 letI k1:=(a1.1,a1.2.1,a2.1,(0:Int),()); .ob (Nd a0) fun r1=>
 .ob (Mk a0) fun r2=>
 .br (!r2.1) (
 .leaf r1) (
 .ob (Gi a1) fun r3=>
 .br (!r3.1) (
 .leaf r1) (
 .ob (Be a2 (0,()) (1000000,())) fun r4=>
 .br (!r4.1) (
 .leaf r1) (
 .ob (Pd a0 a1) fun r5=>
 .br (decide (r5.1≥0)) (
 .ob (idx r1.1 r5.1) fun e6=>letI k2:=i64.wrap (e6.2.2.1+a2.1);
 .ob (idx r1.1 r5.1) fun e7=>
 let q8:=(r1.1.set (r5.1).toNat (e7.1,e7.2.1,if (1000000:Int)<k2 then(1000000:Int)else k2,e7.2.2.2.1,()))
 .leaf (q8,())) (
 .br (decide ((a0.1.length:Int)<8)) (
 .chk (decide (r1.1.length+[k1].length<=4294967296)) <|
 .leaf (r1.1++[k1],())) (
 .leaf r1)))))
def A7s a0 a1 a2:=(A63 a0 a1 a2).val
def A0j (a0:YBs) (a1:YI):Tree (YBs×YBs):=
 letI k1:=if (a0.1.length:Int)<a1.1 then(a0.1.length:Int)else a1.1;letI k2:=(a0.1.length:Int); .chk (decide (0<=k1)) <|
 .chk (decide (k1<=k2)) <|
 .ob (Bg ((a0.1.take (k1).toNat).drop (0:Int).toNat,())) fun r1=>
 .chk (decide (0<=k1)) <|
 .chk (decide (k1<=k2)) <|
 .chk (decide (k2<=k2)) <|
 .leaf (r1,((a0.1.take (k2).toNat).drop (k1).toNat,()))
def Cg a0 a1:=(A0j a0 a1).val
def Bdc (a0:YBs) (a1 a2:YI):Tree (YBs×(Bool×Unit)):=
 letI k1:=(a0.1.take (i64.wrap (a1.1+a2.1)).toNat).drop (a1.1).toNat;letI k2:=(a0.1.length:Int);letI k3:=i64.wrap (a1.1+a2.1); .br (decide (a1.1<0)) (
 .leaf (([],()),(false,()))) (
 .br (decide (a2.1<0)) (
 .leaf (([],()),(false,()))) (
 .br (decide (a1.1>k2)) (
 .leaf (([],()),(false,()))) (
 .br (decide (a2.1>i64.wrap (k2-a1.1))) (
 .leaf (([],()),(false,()))) (
 .chk (decide (0<=a1.1)) <|
 .chk (decide (a1.1<=k3)) <|
 .chk (decide (k3<=k2)) <|
 .chk (decide (([]:List YB).length+k1.length<=4294967296)) <|
 .leaf ((([]:List YB)++k1,()),(true,()))))))
def Bd2 a0 a1 a2:=(Bdc a0 a1 a2).val
def Ur:Lst (Int×Int×Int×List YB×Int×Int×Unit) (Int×Int×Int×Unit):=fun x2=>
 letI u1:=x2.2.2;letI u2:=u1.2.2;Tree.val <|
 .br (decide (u2.2.1<u2.1)) (
 .ob (idx u1.2.1 u2.2.1) fun e3=>
 .leaf (.inl (x2.1,x2.2.1,i64.wrap (i64.wrap (256*u1.1)+i64.wrap e3.1),u1.2.1,u2.1,i64.wrap (u2.2.1+1),()))) (
 .leaf (.inr (x2.1,x2.2.1,u1.1,())))
def A65 (a0:YBs) (a1 a2:YI):Tree (YI×YI×(Bool×Unit)):=
 .br (decide (a2.1<1)) (
 .leaf ((0,()),(0,()),(false,()))) (
 .br (decide (a2.1>6)) (
 .leaf ((0,()),(0,()),(false,()))) (
 .ob (Bd2 a0 a1 a2) fun r1=>
 .br (!r1.2.1) (
 .leaf ((0,()),(0,()),(false,()))) (
 .ob (Ax Ur (a1.1,a2.1,0,r1.1.1,(r1.1.1.length:Int),0,())) fun o4=>
 .leaf ((o4.2.2.1,()),(i64.wrap (o4.1+o4.2.1),()),(true,())))))
def Avu a0 a1 a2:=(A65 a0 a1 a2).val
def At6 (a0:YBs) (a1:YI):Tree (YI×YBs):=
 .ob (Cg a0 a1) fun r1=>
 .ob (Avu r1.1 (0,()) a1) fun r2=>
 .leaf (r2.1,r1.2)
def Dt a0 a1:=(At6 a0 a1).val
def At7 (a0:YI):Tree (Bool×Unit):=
 .ob (Be a0 (4,()) (8,())) fun r1=>
 .leaf r1
def Ng a0:=(At7 a0).val
def At8 (a0 a1:YI):Tree (Bool×Unit):=
 .br (a0.1==4) (
 .leaf (decide (a1.1<=40),())) (
 .br (a0.1==5) (
 .leaf (a1.1==12,())) (
 .br (a0.1==6) (
 .leaf (a1.1==12,())) (
 .leaf (a1.1==4,()))))
def Avv a0 a1:=(At8 a0 a1).val
def Afv (a0 a1:As):Tree (Bool×Unit):=
 letI u1:=a0.2.2.2;letI u2:=u1.2.2.2;letI u3:=a1.2.2.2;letI u4:=u3.2.2.2;.br (a0.1==a1.1) (
 .br (a0.2.1==a1.2.1) (
 .br (u1.2.1==u3.2.1) (
 .br (u2.2.1==u4.2.1) (
 .br (u2.2.2.1==u4.2.2.1) (
 .ob (Ca (a0.2.2.1,()) (a1.2.2.1,())) fun r1=>
 .br r1.1 (
 .ob (Ca (u1.1,()) (u3.1,())) fun r2=>
 .br r2.1 (
 .ob (Ca (u1.2.2.1,()) (u3.2.2.1,())) fun r3=>
 .br r3.1 (
 .ob (Ca (u2.1,()) (u4.1,())) fun r4=>
 .br r4.1 (
 .ob (Ca (u2.2.2.2.1,()) (u4.2.2.2.1,())) fun r5=>
 .br r5.1 (
 .ob (Ca (u2.2.2.2.2.1,()) (u4.2.2.2.2.1,())) fun r6=>
 .leaf r6) (
 .leaf (false,()))) (
 .leaf (false,()))) (
 .leaf (false,()))) (
 .leaf (false,()))) (
 .leaf (false,()))) (
 .leaf (false,()))) (
 .leaf (false,()))) (
 .leaf (false,()))) (
 .leaf (false,()))) (
 .leaf (false,()))
def Ml a0 a1:=(Afv a0 a1).val
def An0 (a0:As):Tree (Bool×Unit):=
 letI u1:=a0.2.2;letI u2:=u1.2.2;letI u3:=u2.2.2.2;letI k1:=Be (u2.1,()) ((0:Int),()) ((1000000:Int),());letI k2:=Be (a0.2.1,()) ((1:Int),()) ((9:Int),());letI k3:=(a0.2.2.2.2.2.1.length:Int)==(16:Int);letI k4:=Ds (u1.2.1,());letI k5:=Ds (u1.1,());.br (a0.1==1) (
 .ob k2 fun r1=>
 .br r1.1 (
 .ob k5 fun r2=>
 .br r2.1 (
 .ob (Ml a0 (a0.1,a0.2.1,u1.1,[],0,[],[],0,0,[],[],())) fun r3=>
 .leaf r3) (
 .leaf (false,()))) (
 .leaf (false,()))) (
 .br (a0.1==2) (
 .ob k5 fun r4=>
 .br r4.1 (
 .ob k4 fun r5=>
 .br r5.1 (
 .ob k1 fun r6=>
 .br r6.1 (
 .br k3 (
 .ob (Ml a0 (a0.1,0,u1.1,u1.2.1,u2.1,u2.2.1,[],0,0,[],[],())) fun r7=>
 .leaf r7) (
 .leaf (false,()))) (
 .leaf (false,()))) (
 .leaf (false,()))) (
 .leaf (false,()))) (
 .br (a0.1==3) (
 .ob k2 fun r8=>
 .br r8.1 (
 .ob k5 fun r9=>
 .br r9.1 (
 .ob k4 fun r10=>
 .br r10.1 (
 .ob k1 fun r11=>
 .br r11.1 (
 .br k3 (
 .br ((a0.2.2.2.2.2.2.1.length:Int)==16) (
 .ob (Ml a0 (a0.1,a0.2.1,u1.1,u1.2.1,u2.1,u2.2.1,u2.2.2.1,0,0,[],[],())) fun r12=>
 .leaf r12) (
 .leaf (false,()))) (
 .leaf (false,()))) (
 .leaf (false,()))) (
 .leaf (false,()))) (
 .leaf (false,()))) (
 .leaf (false,()))) (
 .ob (Ng (a0.1,())) fun r13=>
 .br r13.1 (
 .ob k4 fun r14=>
 .br r14.1 (
 .ob (Be (u3.1,()) (0,()) (4294967295,())) fun r15=>
 .br r15.1 (
 .ob (Be (u3.2.1,()) (0,()) (281474976710655,())) fun r16=>
 .br r16.1 (
 .br ((a0.2.2.2.2.2.2.2.2.2.2.1.length:Int)==16) (
 .ob (Avv (a0.1,()) ((a0.2.2.2.2.2.2.2.2.2.1.length:Int),())) fun r17=>
 .br r17.1 (
 .ob (Ml a0 (a0.1,0,[],u1.2.1,0,[],[],u3.1,u3.2.1,u3.2.2.1,u3.2.2.2.1,())) fun r18=>
 .leaf r18) (
 .leaf (false,()))) (
 .leaf (false,()))) (
 .leaf (false,()))) (
 .leaf (false,()))) (
 .leaf (false,()))) (
 .leaf (false,())))))
def Dd a0:=(An0 a0).val
def Ox:Lst (List YB×List YBs×Int×Int×Unit) (YBs):=fun x1=>
 letI u1:=x1.2.2;Tree.val <|
 .br (decide (u1.2.1<u1.1)) (
 .ob (idx x1.2.1 u1.2.1) fun e2=>
 .chk (decide (x1.1.length+e2.1.length<=4294967296)) <|
 .leaf (.inl (x1.1++e2.1,x1.2.1,u1.1,i64.wrap (u1.2.1+1),()))) (
 .leaf (.inr (x1.1,())))
def At9 (a0:List YBs×Unit):Tree (YBs):=
 .ob (Ax Ox ([],a0.1,(a0.1.length:Int),0,())) fun o3=>
 .leaf o3
def Er a0:=(At9 a0).val
def Bad:Lst (Int×List YB×Int×Unit) (YBs):=fun x1=>
 letI u1:=x1.2.2;letI k1:=(i64.wrap ((BitVec.ofInt i64.bits (Int.fdiv x1.1 (2^(min (i64.wrap ((8:Int)*u1.1)).toNat i64.bits))) &&& BitVec.ofInt i64.bits (255:Int)).toNat:Nat));Tree.val <|
 .br (decide (u1.1≥0)) (
 .chk (decide (0<=i64.wrap (8*u1.1))) <|
 .chk (decide (x1.2.1.length+[(u8.wrap k1,())].length<=4294967296)) <|
 .leaf (.inl (x1.1,x1.2.1++[(u8.wrap k1,())],i64.wrap (u1.1-1),()))) (
 .leaf (.inr (x1.2.1,())))
def Bkd (a0:YBs) (a1 a2:YI):Tree (YBs):=
 letI k1:=([]:List YB)++a0.1; .chk (decide (([]:List YB).length+a0.1.length<=4294967296)) <|
 .br (decide (a2.1<1)) (
 .leaf (k1,())) (
 .br (decide (a2.1>6)) (
 .leaf (k1,())) (
 .ob (Ax Bad (a1.1,k1,i64.wrap (a2.1-1),())) fun o2=>
 .leaf o2))
def Fd a0 a1 a2:=(Bkd a0 a1 a2).val
def Ai7 (a0:As):Tree (YBs):=
 letI u1:=a0.2.2;letI u2:=u1.2.2;letI u3:=u2.2.2.2;letI k1:=Fd (([]:List YB),()) (u2.1,()) ((4:Int),());.ob (Dd a0) fun r1=>
 .br (!r1.1) (
 .leaf ([],())) (
 .br (a0.1==1) (
 .ob (Er ([([(u8.wrap a0.1,())],()),([(u8.wrap a0.2.1,())],()),(u1.1,()),(List.replicate (20:Int).toNat (0,()),())],())) fun r2=>
 .leaf r2) (
 .br (a0.1==2) (
 .ob k1 fun r3=>
 .ob (Er ([([(u8.wrap a0.1,())],()),(u1.1,()),(u1.2.1,()),r3,(u2.2.1,())],())) fun r4=>
 .leaf r4) (
 .br (a0.1==3) (
 .ob k1 fun r5=>
 .ob (Er ([([(u8.wrap a0.1,())],()),([(u8.wrap a0.2.1,())],()),(u1.1,()),(u1.2.1,()),r5,(u2.2.1,()),(u2.2.2.1,())],())) fun r6=>
 .leaf r6) (
 .ob (Fd ([],()) (u3.1,()) (4,())) fun r7=>
 .ob (Fd ([],()) (u3.2.1,()) (6,())) fun r8=>
 .ob (Er ([([(u8.wrap a0.1,())],()),(u1.2.1,()),r7,r8,(u3.2.2.2.1,()),(u3.2.2.1,())],())) fun r9=>
 .leaf r9))))
def Ea a0:=(Ai7 a0).val
def Aam (a0:YBs):Tree (As×(Bool×Unit)):=
 .ob (Dt a0 (1,())) fun r1=>letI k1:=(r1.1.1,(0:Int),([]:List YB),([]:List YB),(0:Int),([]:List YB),([]:List YB),(0:Int),(0:Int),([]:List YB),([]:List YB),());letI k12:=r1.1.1==(3:Int);letI k13:=Cg r1.2 ((12:Int),());letI k14:=Dt r1.2 ((1:Int),());
 .br (r1.1.1==1) (
 .ob k14 fun r2=>
 .ob (Cg r2.2 (12,())) fun r3=>letI k2:=(r1.1.1,r2.1.1,r3.1.1,([]:List YB),(0:Int),([]:List YB),([]:List YB),(0:Int),(0:Int),([]:List YB),([]:List YB),());
 .ob (Dd k2) fun r4=>
 .br (!r4.1) (
 .leaf ((0,0,[],[],0,[],[],0,0,[],[],()),(false,()))) (
 .ob (Ea k2) fun r5=>
 .ob (Ca r5 a0) fun r6=>
 .br (!r6.1) (
 .leaf ((0,0,[],[],0,[],[],0,0,[],[],()),(false,()))) (
 .leaf (k2,(true,()))))) (
 .br (r1.1.1==2) (
 .br k12 (
 .ob k14 fun r7=>
 .ob (Cg r7.2 (12,())) fun r8=>
 .ob (Cg r8.2 (12,())) fun r9=>
 .ob (Dt r9.2 (4,())) fun r10=>
 .ob (Cg r10.2 (16,())) fun r11=>letI k7:=(r1.1.1,r7.1.1,r8.1.1,r9.1.1,r10.1.1,r11.1.1,([]:List YB),(0:Int),(0:Int),([]:List YB),([]:List YB),());
 .br k12 (
 .ob (Cg r11.2 (16,())) fun r12=>letI k11:=(r1.1.1,r7.1.1,r8.1.1,r9.1.1,r10.1.1,r11.1.1,r12.1.1,(0:Int),(0:Int),([]:List YB),([]:List YB),());
 .ob (Dd k11) fun r13=>
 .br (!r13.1) (
 .leaf ((0,0,[],[],0,[],[],0,0,[],[],()),(false,()))) (
 .ob (Ea k11) fun r14=>
 .ob (Ca r14 a0) fun r15=>
 .br (!r15.1) (
 .leaf ((0,0,[],[],0,[],[],0,0,[],[],()),(false,()))) (
 .leaf (k11,(true,()))))) (
 .ob (Dd k7) fun r16=>
 .br (!r16.1) (
 .leaf ((0,0,[],[],0,[],[],0,0,[],[],()),(false,()))) (
 .ob (Ea k7) fun r17=>
 .ob (Ca r17 a0) fun r18=>
 .br (!r18.1) (
 .leaf ((0,0,[],[],0,[],[],0,0,[],[],()),(false,()))) (
 .leaf (k7,(true,())))))) (
 .ob k13 fun r19=>
 .ob (Cg r19.2 (12,())) fun r20=>
 .ob (Dt r20.2 (4,())) fun r21=>
 .ob (Cg r21.2 (16,())) fun r22=>letI k3:=(r1.1.1,(0:Int),r19.1.1,r20.1.1,r21.1.1,r22.1.1,([]:List YB),(0:Int),(0:Int),([]:List YB),([]:List YB),());
 .br k12 (
 .ob (Cg r22.2 (16,())) fun r23=>letI k8:=(r1.1.1,(0:Int),r19.1.1,r20.1.1,r21.1.1,r22.1.1,r23.1.1,(0:Int),(0:Int),([]:List YB),([]:List YB),());
 .ob (Dd k8) fun r24=>
 .br (!r24.1) (
 .leaf ((0,0,[],[],0,[],[],0,0,[],[],()),(false,()))) (
 .ob (Ea k8) fun r25=>
 .ob (Ca r25 a0) fun r26=>
 .br (!r26.1) (
 .leaf ((0,0,[],[],0,[],[],0,0,[],[],()),(false,()))) (
 .leaf (k8,(true,()))))) (
 .ob (Dd k3) fun r27=>
 .br (!r27.1) (
 .leaf ((0,0,[],[],0,[],[],0,0,[],[],()),(false,()))) (
 .ob (Ea k3) fun r28=>
 .ob (Ca r28 a0) fun r29=>
 .br (!r29.1) (
 .leaf ((0,0,[],[],0,[],[],0,0,[],[],()),(false,()))) (
 .leaf (k3,(true,()))))))) (
 .br k12 (
 .br k12 (
 .ob k14 fun r30=>
 .ob (Cg r30.2 (12,())) fun r31=>
 .ob (Cg r31.2 (12,())) fun r32=>
 .ob (Dt r32.2 (4,())) fun r33=>
 .ob (Cg r33.2 (16,())) fun r34=>letI k4:=(r1.1.1,r30.1.1,r31.1.1,r32.1.1,r33.1.1,r34.1.1,([]:List YB),(0:Int),(0:Int),([]:List YB),([]:List YB),());
 .br k12 (
 .ob (Cg r34.2 (16,())) fun r35=>letI k9:=(r1.1.1,r30.1.1,r31.1.1,r32.1.1,r33.1.1,r34.1.1,r35.1.1,(0:Int),(0:Int),([]:List YB),([]:List YB),());
 .ob (Dd k9) fun r36=>
 .br (!r36.1) (
 .leaf ((0,0,[],[],0,[],[],0,0,[],[],()),(false,()))) (
 .ob (Ea k9) fun r37=>
 .ob (Ca r37 a0) fun r38=>
 .br (!r38.1) (
 .leaf ((0,0,[],[],0,[],[],0,0,[],[],()),(false,()))) (
 .leaf (k9,(true,()))))) (
 .ob (Dd k4) fun r39=>
 .br (!r39.1) (
 .leaf ((0,0,[],[],0,[],[],0,0,[],[],()),(false,()))) (
 .ob (Ea k4) fun r40=>
 .ob (Ca r40 a0) fun r41=>
 .br (!r41.1) (
 .leaf ((0,0,[],[],0,[],[],0,0,[],[],()),(false,()))) (
 .leaf (k4,(true,())))))) (
 .ob k13 fun r42=>
 .ob (Cg r42.2 (12,())) fun r43=>
 .ob (Dt r43.2 (4,())) fun r44=>
 .ob (Cg r44.2 (16,())) fun r45=>letI k5:=(r1.1.1,(0:Int),r42.1.1,r43.1.1,r44.1.1,r45.1.1,([]:List YB),(0:Int),(0:Int),([]:List YB),([]:List YB),());
 .br k12 (
 .ob (Cg r45.2 (16,())) fun r46=>letI k10:=(r1.1.1,(0:Int),r42.1.1,r43.1.1,r44.1.1,r45.1.1,r46.1.1,(0:Int),(0:Int),([]:List YB),([]:List YB),());
 .ob (Dd k10) fun r47=>
 .br (!r47.1) (
 .leaf ((0,0,[],[],0,[],[],0,0,[],[],()),(false,()))) (
 .ob (Ea k10) fun r48=>
 .ob (Ca r48 a0) fun r49=>
 .br (!r49.1) (
 .leaf ((0,0,[],[],0,[],[],0,0,[],[],()),(false,()))) (
 .leaf (k10,(true,()))))) (
 .ob (Dd k5) fun r50=>
 .br (!r50.1) (
 .leaf ((0,0,[],[],0,[],[],0,0,[],[],()),(false,()))) (
 .ob (Ea k5) fun r51=>
 .ob (Ca r51 a0) fun r52=>
 .br (!r52.1) (
 .leaf ((0,0,[],[],0,[],[],0,0,[],[],()),(false,()))) (
 .leaf (k5,(true,()))))))) (
 .ob (Ng r1.1) fun r53=>
 .br r53.1 (
 .ob k13 fun r54=>
 .ob (Dt r54.2 (4,())) fun r55=>
 .ob (Dt r55.2 (6,())) fun r56=>
 .ob (Cg r56.2 (16,())) fun r57=>
 .ob (Cg r57.2 (41,())) fun r58=>letI k6:=(r1.1.1,(0:Int),([]:List YB),r54.1.1,(0:Int),([]:List YB),([]:List YB),r55.1.1,r56.1.1,r58.1.1,r57.1.1,());
 .ob (Dd k6) fun r59=>
 .br (!r59.1) (
 .leaf ((0,0,[],[],0,[],[],0,0,[],[],()),(false,()))) (
 .ob (Ea k6) fun r60=>
 .ob (Ca r60 a0) fun r61=>
 .br (!r61.1) (
 .leaf ((0,0,[],[],0,[],[],0,0,[],[],()),(false,()))) (
 .leaf (k6,(true,()))))) (
 .ob (Dd k1) fun r62=>
 .br (!r62.1) (
 .leaf ((0,0,[],[],0,[],[],0,0,[],[],()),(false,()))) (
 .ob (Ea k1) fun r63=>
 .ob (Ca r63 a0) fun r64=>
 .br (!r64.1) (
 .leaf ((0,0,[],[],0,[],[],0,0,[],[],()),(false,()))) (
 .leaf (k1,(true,()))))))))
def Pe a0:=(Aam a0).val
def Aan:Lst (List Al×Int×Int×Int×Int×Unit) ((Bool×Unit)⊕(Unit)):=fun x1=>
 letI u1:=x1.2.2;letI k1:=(x1.1,x1.2.1,i64.wrap (u1.1+(1:Int)),u1.2.1,u1.2.2.1,());Tree.val <|
 .br (decide (u1.1<x1.2.1)) (
 .ob (idx x1.1 u1.1) fun e2=>letI u2:=e2.2.2.2.2.2.2.2.2.2.2.2.2.2.2.2.2.2.2;
 .br (!u2.2.2.2.2.2.1) (
 .br (and (u2.1==u1.2.1) (and (u2.2.1==u1.2.2.1) true)) (
 .leaf (.inr (.inl (true,())))) (
 .leaf (.inl k1))) (
 .leaf (.inl k1))) (
 .leaf (.inr (.inr ())))
def A67 (a0:B8) (a1:A6):Tree (Bool×Unit):=
 .ob (Ax Aan (a0.2.1,(a0.2.1.length:Int),0,a1.1,a1.2.1,())) fun o3=>
 .sm o3 (fun o4=>
 .leaf o4) (fun o5=>
 .leaf (false,()))
def Acu a0 a1:=(A67 a0 a1).val
def Ad3 (a0:List Ak×Unit) (a1:A6):Tree (YI):=
 .ob (Pd a0 a1) fun r1=>
 .ob (Mk a0) fun r2=>
 .br (!r2.1) (
 .leaf (0,())) (
 .br (decide (r1.1<0)) (
 .leaf (0,())) (
 .ob (idx a0.1 r1.1) fun e3=>
 .ob (idx a0.1 r1.1) fun e4=>
 .leaf (i64.wrap (i64.wrap (3*e3.2.2.1)-e4.2.2.2.1),())))
def Kx a0 a1:=(Ad3 a0 a1).val
def Aub (a0:A0) (a1:A6) (a2:YI):Tree (Bool×Unit):=
 letI u1:=a0.2.2.2.2;.ob (Acu (u1.1,u1.2.1,()) a1) fun r1=>
 .br r1.1 (
 .leaf (true,())) (
 .ob (Kx (u1.2.2.1,()) a1) fun r2=>
 .leaf (decide (r2.1≥a2.1),()))
def Aha a0 a1 a2:=(Aub a0 a1 a2).val
def Bf3:Tree (List YI×Unit):=
 .leaf ([(1779033703,()),(3144134277,()),(1013904242,()),(2773480762,()),(1359893119,()),(2600822924,()),(528734635,()),(1541459225,())],())
def Bup:=Bf3.val
def A41:Tree (Sj):=
 .ob Bup fun r1=>
 .leaf (r1.1,[],0,())
def A5p:=A41.val
def Aud (a0:Sj):Tree (Bool×Unit):=
 .ob (Tl (a0.1,()) (8,())) fun r1=>
 .br r1.1 (
 .ob (Be (a0.2.2.1,()) (0,()) (1048576,())) fun r2=>
 .br r2.1 (
 .chk (decide (0<=a0.2.2.1)) <|
 .leaf ((a0.2.2.1%64)==(a0.2.1.length:Int),())) (
 .leaf (false,()))) (
 .leaf (false,()))
def Ahb a0:=(Aud a0).val
def Bdf (a0 a1:YI):Tree (YI):=
 letI k1:=i64.wrap ((BitVec.ofInt i64.bits a0.1 &&& BitVec.ofInt i64.bits (4294967295:Int)).toNat:Nat);letI k2:=i64.wrap ((32:Int)-a1.1); .br (decide (a1.1<0)) (
 .leaf (k1,())) (
 .br (decide (a1.1>31)) (
 .leaf (k1,())) (
 .chk (decide (0<=a1.1)) <|
 .chk (decide (0<=k2)) <|
 .leaf (i64.wrap ((BitVec.ofInt i64.bits (i64.wrap ((BitVec.ofInt i64.bits (Int.fdiv k1 (2^(min (a1.1).toNat i64.bits))) ||| BitVec.ofInt i64.bits (i64.wrap (k1*2^(min (k2).toNat i64.bits)))).toNat:Nat)) &&& BitVec.ofInt i64.bits 4294967295).toNat:Nat),())))
def Mm a0 a1:=(Bdf a0 a1).val
end
end Go.Proofs.YthccfdmiejmbaaaGreat

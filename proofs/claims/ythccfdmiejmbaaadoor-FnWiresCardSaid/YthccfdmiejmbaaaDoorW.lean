/-
  What the functions of the seat answer, as plain terms (printed by a program, proved in the texts P); nothing is assumed.
-/
import Derived.Test.YthccfdmiejmbaaaDoorEv2
namespace Go.Proofs.YthccfdmiejmbaaaDoor
open Go.RowKit IntKind
set_option linter.unusedVariables false
set_option maxRecDepth 100000
set_option maxHeartbeats 4000000
noncomputable section
abbrev Lst (a b:Type):=a->Option (a⊕b)
abbrev YB:Type:=Int×Unit
abbrev YI:Type:=Int×Unit
abbrev YBs:Type:=List YB×Unit
abbrev Ads:Type:=ByteArray×Int×Unit
abbrev Bt:Type:=Int×Int×Unit
abbrev Ahk:Type:=Int×Int×Bool×Int×Unit
abbrev Aq:Type:=List YB×Int×Int×Unit
abbrev Ag:Type:=Int×Int×Int×Int×List YB×Unit
abbrev A5:Type:=Int×Int×List YB×List YB×Int×List YB×List YB×Int×Int×List YB×List YB×Unit
def Abg (a0:YBs):Tree (Bool×Unit):=
 .leaf (decide ((a0.1.length:Int)>1048576),())
def Abj a0:=(Abg a0).val
def Jd:Lst (Aq) (List YB×Int×Unit):=fun x1=>
 Tree.val <|
 .br (decide (x1.2.2.1<(x1.1.length:Int))) (
 .br (decide (x1.2.2.1<4000)) (
 .ob (idx x1.1 x1.2.2.1) fun e2=>
 .leaf (.inl (x1.1,i64.wrap ((BitVec.ofInt i64.bits (i64.wrap (i64.wrap (i64.wrap (x1.2.1*137)+i64.wrap e2.1)+11)) &&& BitVec.ofInt i64.bits 1073741823).toNat:Nat),i64.wrap (x1.2.2.1+1),()))) (
 .leaf (.inr (x1.1,x1.2.1,())))) (
 .leaf (.inr (x1.1,x1.2.1,())))
def Pp (a0:YBs):Tree (Aq):=
 .ob (Ay Jd (a0.1,i64.wrap (127812+(a0.1.length:Int)),0,())) fun o3=>
 .leaf (o3.1,0,o3.2.1,())
def Lh a0:=(Pp a0).val
def Nj (a0:Aq):Tree (YI×Aq):=
 letI u1:=a0.2.2;letI k1:=i64.wrap ((BitVec.ofInt i64.bits (i64.wrap ((BitVec.ofInt i64.bits (Int.fdiv (i64.wrap (i64.wrap (u1.1*(6364136223846793005:Int))+(1442695040888963407:Int))) (2^(min (33:Int).toNat i64.bits))) ^^^ BitVec.ofInt i64.bits (Int.fdiv (i64.wrap (i64.wrap (u1.1*(6364136223846793005:Int))+(1442695040888963407:Int))) (2^(min (47:Int).toNat i64.bits)))).toNat:Nat)) &&& BitVec.ofInt i64.bits (255:Int)).toNat:Nat);letI k2:=i64.wrap (i64.wrap (u1.1*(6364136223846793005:Int))+(1442695040888963407:Int));.br (decide (a0.2.1<(a0.1.length:Int))) (
 .ob (idx a0.1 a0.2.1) fun e1=>
 .leaf ((i64.wrap ((BitVec.ofInt i64.bits (i64.wrap (k1+i64.wrap e1.1)) &&& BitVec.ofInt i64.bits 255).toNat:Nat),()),(a0.1,i64.wrap (a0.2.1+1),k2,()))) (
 .leaf ((k1,()),(a0.1,a0.2.1,k2,())))
def D1 a0:=(Nj a0).val
def Lz (a0:Aq) (a1:YI):Tree (YI×Aq):=
 letI k2:=decide ((0:Int)<a1.1); .br (decide (a1.1<=0)) (
 .leaf ((0,()),a0)) (
 .br (decide (a1.1<=256)) (
 .ob (D1 a0) fun r1=>
 .chk k2 <|
 .chk (decide (0<=r1.1.1)) <|
 .leaf ((r1.1.1%a1.1,()),(a0.1,r1.2.2.1,r1.2.2.2.1,()))) (
 .ob (D1 a0) fun r2=>
 .ob (D1 (a0.1,r2.2.2.1,r2.2.2.2.1,())) fun r3=>
 .ob (D1 (a0.1,r3.2.2.1,r3.2.2.2.1,())) fun r4=>letI k1:=i64.wrap (i64.wrap (i64.wrap (r2.1.1*(65536:Int))+i64.wrap (r3.1.1*(256:Int)))+r4.1.1);
 .chk k2 <|
 .chk (decide (0<=k1)) <|
 .leaf ((k1%a1.1,()),(a0.1,r4.2.2.1,r4.2.2.2.1,()))))
def Bg a0 a1:=(Lz a0 a1).val
def Nk (a0:Aq) (a1:YI):Tree ((Bool×Unit)×Aq):=
 .ob (Bg a0 a1) fun r1=>
 .leaf ((r1.1.1==0,()),(a0.1,r1.2.2.1,r1.2.2.2.1,()))
def Ey a0 a1:=(Nk a0 a1).val
def Si (a0 a1 a2:YI):Tree (Bool×Unit):=
 .br (decide (a0.1≥a1.1)) (
 .leaf (decide (a0.1<=a2.1),())) (
 .leaf (false,()))
def Cu a0 a1 a2:=(Si a0 a1 a2).val
def Sj (a0:YI):Tree (Bt):=
 .ob (Cu a0 (0,()) (255,())) fun r1=>
 .br (!r1.1) (
 .leaf (0,0,())) (
 .leaf (i64.wrap (167772160+a0.1),i64.wrap (7000+a0.1),()))
def Ez a0:=(Sj a0).val
def Pr (a0:Aq) (a1:List YI×Unit):Tree (YI×Aq):=
 .ob (Bg a0 ((a1.1.length:Int),())) fun r1=>
 .ob (idx a1.1 r1.1.1) fun e2=>
 .leaf (e2,(a0.1,r1.2.2.1,r1.2.2.2.1,()))
def C0 a0 a1:=(Pr a0 a1).val
def Ff:Lst (Int×List YB×Int×List YB×Int×Int×Unit) (List YB×List YB×Int×Int×Unit):=fun x1=>
 letI u1:=x1.2.2.2;Tree.val <|
 .br (decide (x1.2.2.1<x1.1)) (
 .ob (D1 (u1.1,u1.2.1,u1.2.2.1,())) fun r2=>
 .chk (decide (x1.2.1.length+[(u8.wrap r2.1.1,())].length<=4294967296)) <|
 .leaf (.inl (x1.1,x1.2.1++[(u8.wrap r2.1.1,())],i64.wrap (x1.2.2.1+1),u1.1,r2.2.2.1,r2.2.2.2.1,()))) (
 .leaf (.inr (x1.2.1,u1.1,u1.2.1,u1.2.2.1,())))
def L3 (a0:Aq) (a1:YI):Tree (YBs×Aq):=
 .ob (Ay Ff (a1.1,[],0,a0.1,a0.2.1,a0.2.2.1,())) fun o3=>
 .leaf ((o3.1,()),(o3.2.1,o3.2.2.1,o3.2.2.2.1,()))
def Bc a0 a1:=(L3 a0 a1).val
def Nm (a0:Aq):Tree (A5×Aq):=
 .ob (Bg a0 (8,())) fun r1=>letI u1:=r1.2.2;letI k1:=i64.wrap ((1:Int)+r1.1.1);letI k3:=Bc (a0.1,u1.1,u1.2.1,()) ((12:Int),());letI k4:=decide (k1≥(7:Int));letI k8:=k1==(3:Int);
 .br (k1==1) (
 .ob (Bg (a0.1,u1.1,u1.2.1,()) (9,())) fun r2=>
 .ob (Bc (a0.1,r2.2.2.1,r2.2.2.2.1,()) (12,())) fun r3=>
 .leaf ((k1,i64.wrap (1+r2.1.1),r3.1.1,[],0,[],[],0,0,[],[],()),(a0.1,r3.2.2.1,r3.2.2.2.1,()))) (
 .br (k1==2) (
 .ob k3 fun r4=>
 .ob (Bc (a0.1,r4.2.2.1,r4.2.2.2.1,()) (12,())) fun r5=>
 .ob (C0 (a0.1,r5.2.2.1,r5.2.2.2.1,()) ([(0,()),(1,()),(300,()),(1000000,())],())) fun r6=>
 .ob (Bc (a0.1,r6.2.2.1,r6.2.2.2.1,()) (16,())) fun r7=>letI k7:=(a0.1,r7.2.2.1,r7.2.2.2.1,());
 .br k8 (
 .ob (Bg k7 (9,())) fun r8=>
 .ob (Bc (a0.1,r8.2.2.1,r8.2.2.2.1,()) (16,())) fun r9=>
 .leaf ((k1,i64.wrap (1+r8.1.1),r4.1.1,r5.1.1,r6.1.1,r7.1.1,r9.1.1,0,0,[],[],()),(a0.1,r9.2.2.1,r9.2.2.2.1,()))) (
 .leaf ((k1,0,r4.1.1,r5.1.1,r6.1.1,r7.1.1,[],0,0,[],[],()),k7))) (
 .br k8 (
 .ob k3 fun r10=>
 .ob (Bc (a0.1,r10.2.2.1,r10.2.2.2.1,()) (12,())) fun r11=>
 .ob (C0 (a0.1,r11.2.2.1,r11.2.2.2.1,()) ([(0,()),(1,()),(300,()),(1000000,())],())) fun r12=>
 .ob (Bc (a0.1,r12.2.2.1,r12.2.2.2.1,()) (16,())) fun r13=>letI k6:=(a0.1,r13.2.2.1,r13.2.2.2.1,());
 .br k8 (
 .ob (Bg k6 (9,())) fun r14=>
 .ob (Bc (a0.1,r14.2.2.1,r14.2.2.2.1,()) (16,())) fun r15=>
 .leaf ((k1,i64.wrap (1+r14.1.1),r10.1.1,r11.1.1,r12.1.1,r13.1.1,r15.1.1,0,0,[],[],()),(a0.1,r15.2.2.1,r15.2.2.2.1,()))) (
 .leaf ((k1,0,r10.1.1,r11.1.1,r12.1.1,r13.1.1,[],0,0,[],[],()),k6))) (
 .ob k3 fun r16=>
 .ob (C0 (a0.1,r16.2.2.1,r16.2.2.2.1,()) ([(0,()),(1,()),(2,()),(4294967295,())],())) fun r17=>
 .ob (C0 (a0.1,r17.2.2.1,r17.2.2.2.1,()) ([(0,()),(1,()),(70000,()),(281474976710655,())],())) fun r18=>
 .ob (Bc (a0.1,r18.2.2.1,r18.2.2.2.1,()) (16,())) fun r19=>
 .ob (C0 (a0.1,r19.2.2.1,r19.2.2.2.1,()) ([(0,()),(1,()),(12,()),(40,())],())) fun r20=>letI u2:=r20.2.2;letI k2:=(a0.1,u2.1,u2.2.1,());letI k5:=Bc k2 ((4:Int),());
 .br (k1==5) (
 .br k4 (
 .ob k5 fun r21=>
 .leaf ((k1,0,[],r16.1.1,0,[],[],r17.1.1,r18.1.1,r21.1.1,r19.1.1,()),(a0.1,r21.2.2.1,r21.2.2.2.1,()))) (
 .ob (Bc k2 (12,())) fun r22=>
 .leaf ((k1,0,[],r16.1.1,0,[],[],r17.1.1,r18.1.1,r22.1.1,r19.1.1,()),(a0.1,r22.2.2.1,r22.2.2.2.1,())))) (
 .br (k1==6) (
 .br k4 (
 .ob k5 fun r23=>
 .leaf ((k1,0,[],r16.1.1,0,[],[],r17.1.1,r18.1.1,r23.1.1,r19.1.1,()),(a0.1,r23.2.2.1,r23.2.2.2.1,()))) (
 .ob (Bc k2 (12,())) fun r24=>
 .leaf ((k1,0,[],r16.1.1,0,[],[],r17.1.1,r18.1.1,r24.1.1,r19.1.1,()),(a0.1,r24.2.2.1,r24.2.2.2.1,())))) (
 .br k4 (
 .ob k5 fun r25=>
 .leaf ((k1,0,[],r16.1.1,0,[],[],r17.1.1,r18.1.1,r25.1.1,r19.1.1,()),(a0.1,r25.2.2.1,r25.2.2.2.1,()))) (
 .ob (Bc k2 r20.1) fun r26=>
 .leaf ((k1,0,[],r16.1.1,0,[],[],r17.1.1,r18.1.1,r26.1.1,r19.1.1,()),(a0.1,r26.2.2.1,r26.2.2.2.1,()))))))))
def N6 a0:=(Nm a0).val
def Nn (a0:YI):Tree (Bool×Unit):=
 .ob (Cu a0 (4,()) (8,())) fun r1=>
 .leaf r1
def N7 a0:=(Nn a0).val
def No (a0 a1:YI):Tree (Bool×Unit):=
 .br (a0.1==4) (
 .leaf (decide (a1.1<=40),())) (
 .br (a0.1==5) (
 .leaf (a1.1==12,())) (
 .br (a0.1==6) (
 .leaf (a1.1==12,())) (
 .leaf (a1.1==4,()))))
def N8 a0 a1:=(No a0 a1).val
def L4 (a0:A5):Tree (Bool×Unit):=
 letI u1:=a0.2.2.2.2;letI u2:=u1.2.2.2;letI k1:=(a0.2.2.2.2.2.2.1.length:Int);letI k2:=(a0.2.2.2.2.2.1.length:Int);letI k3:=(a0.2.2.2.1.length:Int)==(12:Int);letI k4:=Cu (u1.1,()) ((0:Int),()) ((1000000:Int),());letI k5:=Cu (a0.2.1,()) ((1:Int),()) ((9:Int),());letI k6:=(a0.2.2.2.2.2.2.2.2.2.2.1.length:Int);letI k7:=(a0.2.2.2.2.2.2.2.2.2.1.length:Int);letI k8:=k1==(0:Int);.ob (N7 (a0.1,())) fun r1=>
 .br r1.1 (
 .br (a0.2.1==0) (
 .br ((a0.2.2.1.length:Int)==0) (
 .br k3 (
 .br (u1.1==0) (
 .br (k2==0) (
 .br k8 (
 .ob (Cu (u2.1,()) (0,()) (4294967295,())) fun r2=>
 .br r2.1 (
 .ob (Cu (u2.2.1,()) (0,()) (281474976710655,())) fun r3=>
 .br r3.1 (
 .ob (N8 (a0.1,()) (k7,())) fun r4=>
 .br r4.1 (
 .leaf (k6==16,())) (
 .leaf (false,()))) (
 .leaf (false,()))) (
 .leaf (false,()))) (
 .leaf (false,()))) (
 .leaf (false,()))) (
 .leaf (false,()))) (
 .leaf (false,()))) (
 .leaf (false,()))) (
 .leaf (false,()))) (
 .br (u2.1 != 0) (
 .leaf (false,())) (
 .br (u2.2.1 != 0) (
 .leaf (false,())) (
 .br (k7 != 0) (
 .leaf (false,())) (
 .br (k6 != 0) (
 .leaf (false,())) (
 .br ((a0.2.2.1.length:Int) != 12) (
 .leaf (false,())) (
 .br (a0.1==1) (
 .ob k5 fun r5=>
 .br r5.1 (
 .br ((a0.2.2.2.1.length:Int)==0) (
 .br (u1.1==0) (
 .br (k2==0) (
 .leaf (k8,())) (
 .leaf (false,()))) (
 .leaf (false,()))) (
 .leaf (false,()))) (
 .leaf (false,()))) (
 .br (a0.1==2) (
 .br (a0.2.1==0) (
 .br k3 (
 .ob k4 fun r6=>
 .br r6.1 (
 .br (k2==16) (
 .leaf (k8,())) (
 .leaf (false,()))) (
 .leaf (false,()))) (
 .leaf (false,()))) (
 .leaf (false,()))) (
 .br (a0.1==3) (
 .ob k5 fun r7=>
 .br r7.1 (
 .br k3 (
 .ob k4 fun r8=>
 .br r8.1 (
 .br (k2==16) (
 .leaf (k1==16,())) (
 .leaf (false,()))) (
 .leaf (false,()))) (
 .leaf (false,()))) (
 .leaf (false,()))) (
 .leaf (false,()))))))))))
def Mh a0:=(L4 a0).val
def H4:Lst (Int×List YB×Int×Unit) (YBs):=fun x1=>
 letI u1:=x1.2.2;letI k1:=(i64.wrap ((BitVec.ofInt i64.bits (Int.fdiv x1.1 (2^(min (i64.wrap ((8:Int)*u1.1)).toNat i64.bits))) &&& BitVec.ofInt i64.bits (255:Int)).toNat:Nat));Tree.val <|
 .br (decide (u1.1≥0)) (
 .chk (decide (0<=i64.wrap (8*u1.1))) <|
 .chk (decide (x1.2.1.length+[(u8.wrap k1,())].length<=4294967296)) <|
 .leaf (.inl (x1.1,x1.2.1++[(u8.wrap k1,())],i64.wrap (u1.1-1),()))) (
 .leaf (.inr (x1.2.1,())))
def Sl (a0:YBs) (a1 a2:YI):Tree (YBs):=
 letI k1:=([]:List YB)++a0.1; .chk (decide (([]:List YB).length+a0.1.length<=4294967296)) <|
 .br (decide (a2.1<1)) (
 .leaf (k1,())) (
 .br (decide (a2.1>6)) (
 .leaf (k1,())) (
 .ob (Ay H4 (a1.1,k1,i64.wrap (a2.1-1),())) fun o2=>
 .leaf o2))
def E0 a0 a1 a2:=(Sl a0 a1 a2).val
def Dc:Lst (List YB×Int×Unit) (YBs):=fun x2=>
 Tree.val <|
 .br (decide (x2.2.1<20)) (
 .chk (decide (x2.1.length+[((0:Int),())].length<=4294967296)) <|
 .leaf (.inl (x2.1++[((0:Int),())],i64.wrap (x2.2.1+1),()))) (
 .leaf (.inr (x2.1,())))
def Kn (a0:A5):Tree (YBs):=
 letI u1:=a0.2.2;letI u2:=u1.2.2.2;letI u3:=u2.2.2.2;.ob (Mh a0) fun r1=>
 .br (!r1.1) (
 .leaf ([],())) (
 .br (a0.1==1) (
 .chk (decide ([(u8.wrap a0.1,())].length+[(u8.wrap a0.2.1,())].length<=4294967296)) <|
 .chk (decide (([(u8.wrap a0.1,())]++[(u8.wrap a0.2.1,())]).length+a0.2.2.1.length<=4294967296)) <|
 .ob (Ay Dc (([(u8.wrap a0.1,())]++[(u8.wrap a0.2.1,())])++u1.1,0,())) fun o3=>
 .leaf o3) (
 .br (a0.1==2) (
 .chk (decide ([(u8.wrap a0.1,())].length+a0.2.2.1.length<=4294967296)) <|
 .chk (decide (([(u8.wrap a0.1,())]++u1.1).length+a0.2.2.2.1.length<=4294967296)) <|
 .ob (E0 (([(u8.wrap a0.1,())]++u1.1)++u1.2.1,()) (u1.2.2.1,()) (4,())) fun r4=>
 .chk (decide (r4.1.length+a0.2.2.2.2.2.1.length<=4294967296)) <|
 .leaf (r4.1++u2.1,())) (
 .br (a0.1==3) (
 .chk (decide ([(u8.wrap a0.1,())].length+[(u8.wrap a0.2.1,())].length<=4294967296)) <|
 .chk (decide (([(u8.wrap a0.1,())]++[(u8.wrap a0.2.1,())]).length+a0.2.2.1.length<=4294967296)) <|
 .chk (decide ((([(u8.wrap a0.1,())]++[(u8.wrap a0.2.1,())])++u1.1).length+a0.2.2.2.1.length<=4294967296)) <|
 .ob (E0 ((([(u8.wrap a0.1,())]++[(u8.wrap a0.2.1,())])++u1.1)++u1.2.1,()) (u1.2.2.1,()) (4,())) fun r5=>
 .chk (decide (r5.1.length+a0.2.2.2.2.2.1.length<=4294967296)) <|
 .chk (decide ((r5.1++u2.1).length+a0.2.2.2.2.2.2.1.length<=4294967296)) <|
 .leaf ((r5.1++u2.1)++u2.2.1,())) (
 .chk (decide ([(u8.wrap a0.1,())].length+a0.2.2.2.1.length<=4294967296)) <|
 .ob (E0 ([(u8.wrap a0.1,())]++u1.2.1,()) (u2.2.2.1,()) (4,())) fun r6=>
 .ob (E0 r6 (u3.1,()) (6,())) fun r7=>
 .chk (decide (r7.1.length+a0.2.2.2.2.2.2.2.2.2.2.1.length<=4294967296)) <|
 .chk (decide ((r7.1++u3.2.2.1).length+a0.2.2.2.2.2.2.2.2.2.1.length<=4294967296)) <|
 .leaf ((r7.1++u3.2.2.1)++u3.2.1,())))))
def C8 a0:=(Kn a0).val
def Ko (a0 a1:Bt) (a2:A5):Tree (Ag):=
 .ob (C8 a2) fun r1=>
 .leaf (a0.1,a0.2.1,a1.1,a1.2.1,r1.1,())
def Qf a0 a1 a2:=(Ko a0 a1 a2).val
def L6 (a0:Aq):Tree (Ag×Aq):=
 .ob (Ey a0 (3,())) fun r1=>letI k1:=Bg (a0.1,r1.2.2.1,r1.2.2.2.1,()) ((3:Int),());
 .br r1.1.1 (
 .ob k1 fun r2=>
 .ob (Ez r2.1) fun r3=>
 .ob (Bg (a0.1,r2.2.2.1,r2.2.2.2.1,()) (3,())) fun r4=>
 .ob (Ez r4.1) fun r5=>
 .ob (C0 (a0.1,r4.2.2.1,r4.2.2.2.1,()) ([(0,()),(5,()),(45,()),(200,())],())) fun r6=>
 .ob (Bc (a0.1,r6.2.2.1,r6.2.2.2.1,()) r6.1) fun r7=>
 .leaf ((r3.1,r3.2.1,r5.1,r5.2.1,r7.1.1,()),(a0.1,r7.2.2.1,r7.2.2.2.1,()))) (
 .ob k1 fun r8=>
 .ob (Ez r8.1) fun r9=>
 .ob (Bg (a0.1,r8.2.2.1,r8.2.2.2.1,()) (3,())) fun r10=>
 .ob (Ez r10.1) fun r11=>
 .ob (N6 (a0.1,r10.2.2.1,r10.2.2.2.1,())) fun r12=>
 .ob (Qf r9 r11 r12.1) fun r13=>
 .leaf (r13,(a0.1,r12.2.2.1,r12.2.2.2.1,())))
def Ft a0:=(L6 a0).val
def Np (a0:Aq):Tree (Bt×Aq):=
 .ob (Ey a0 (3,())) fun r1=>letI k1:=(a0.1,r1.2.2.1,r1.2.2.2.1,());
 .br r1.1.1 (
 .ob (Bg k1 (16777216,())) fun r2=>
 .ob (D1 (a0.1,r2.2.2.1,r2.2.2.2.1,())) fun r3=>
 .ob (Bg (a0.1,r3.2.2.1,r3.2.2.2.1,()) (65536,())) fun r4=>
 .leaf ((i64.wrap (i64.wrap (r2.1.1*256)+r3.1.1),r4.1.1,()),(a0.1,r4.2.2.1,r4.2.2.2.1,()))) (
 .ob (Bg k1 (6,())) fun r5=>
 .ob (Ez r5.1) fun r6=>
 .leaf (r6,(a0.1,r5.2.2.1,r5.2.2.2.1,())))
def N9 a0:=(Np a0).val
def Pu (a0:Aq):Tree (YI×Aq):=
 .ob (C0 a0 ([(-1,()),(0,()),(1,()),(2,()),(255,()),(256,()),(65535,()),(2147483647,()),(2147483648,()),(4294967295,()),(4294967296,()),(-2147483648,()),(9223372036854775807,()),(-9223372036854775808,())],())) fun r1=>
 .leaf (r1.1,(a0.1,r1.2.2.1,r1.2.2.2.1,()))
def Qg a0:=(Pu a0).val
def Pv (a0:Aq):Tree (Bt×Aq):=
 .ob (N9 a0) fun r1=>
 .ob (Bg (a0.1,r1.2.2.1,r1.2.2.2.1,()) (10,())) fun r2=>letI u1:=r2.2.2;letI k1:=(a0.1,u1.1,u1.2.1,());
 .br (r2.1.1==0) (
 .ob (Qg k1) fun r3=>
 .leaf ((r3.1.1,r1.1.2.1,()),(a0.1,r3.2.2.1,r3.2.2.2.1,()))) (
 .br (r2.1.1==1) (
 .ob (C0 k1 ([(-1,()),(65535,()),(65536,()),(0,())],())) fun r4=>
 .leaf ((r1.1.1,r4.1.1,()),(a0.1,r4.2.2.1,r4.2.2.2.1,()))) (
 .leaf (r1.1,k1)))
def Li a0:=(Pv a0).val
def Nr (a0:Aq):Tree (Ag×Aq):=
 .ob (Ft a0) fun r1=>letI u1:=r1.1.2.2;
 .ob (Bg (a0.1,r1.2.2.1,r1.2.2.2.1,()) (8,())) fun r2=>letI u2:=r2.2.2;letI k1:=(a0.1,u2.1,u2.2.1,());
 .br (r2.1.1==0) (
 .ob (Li k1) fun r3=>
 .leaf ((r3.1.1,r3.1.2.1,u1.1,u1.2.1,u1.2.2.1,()),(a0.1,r3.2.2.1,r3.2.2.2.1,()))) (
 .br (r2.1.1==1) (
 .ob (Li k1) fun r4=>
 .leaf ((r1.1.1,r1.1.2.1,r4.1.1,r4.1.2.1,u1.2.2.1,()),(a0.1,r4.2.2.1,r4.2.2.2.1,()))) (
 .br (r2.1.1==2) (
 .ob (Bc k1 (201,())) fun r5=>
 .leaf ((r1.1.1,r1.1.2.1,u1.1,u1.2.1,r5.1.1,()),(a0.1,r5.2.2.1,r5.2.2.2.1,()))) (
 .leaf (r1.1,k1))))
def J8 a0:=(Nr a0).val
def Fg:Lst (List Ag×Int×List YB×Int×Int×Unit) (List Ag×List YB×Int×Int×Unit):=fun x2=>
 letI u1:=x2.2.2;Tree.val <|
 .br (decide (x2.2.1>0)) (
 .ob (Ft (u1.1,u1.2.1,u1.2.2.1,())) fun r3=>
 .chk (decide (x2.1.length+[r3.1].length<=4294967296)) <|
 .leaf (.inl (x2.1++[r3.1],i64.wrap (x2.2.1-1),u1.1,r3.2.2.1,r3.2.2.2.1,()))) (
 .leaf (.inr (x2.1,u1.1,u1.2.1,u1.2.2.1,())))
def Dq:Lst (List Ag×Int×List YB×Int×Int×Int×Int×Int×Int×List YB×Unit) (List Ag×List YB×Int×Int×Unit):=fun x12=>
 letI u1:=x12.2.2;letI u2:=u1.2.2;letI u3:=u2.2.2;letI u4:=u3.2.2;letI k1:=(u2.2.1,u3.1,u3.2.1,u4.1,u4.2.1,());Tree.val <|
 .br (decide ((x12.1.length:Int)<x12.2.1)) (
 .chk (decide (x12.1.length+[k1].length<=4294967296)) <|
 .leaf (.inl (x12.1++[k1],x12.2.1,u1.1,u1.2.1,u2.1,u2.2.1,u3.1,u3.2.1,u4.1,u4.2.1,()))) (
 .leaf (.inr (x12.1,u1.1,u1.2.1,u2.1,())))
def Jf (a0:Aq) (a1:YI):Tree ((List Ag×Unit)×Aq):=
 .ob (Bg a0 (i64.wrap (a1.1+1),())) fun r1=>
 .ob (Ay Fg ([],r1.1.1,a0.1,r1.2.2.1,r1.2.2.2.1,())) fun o4=>
 .ob (Ey (o4.2.1,o4.2.2.1,o4.2.2.2.1,()) (8,())) fun r5=>letI k2:=(o4.2.1,r5.2.2.1,r5.2.2.2.1,());
 .br r5.1.1 (
 .ob (J8 k2) fun r6=>
 .chk (decide (o4.1.length+[r6.1].length<=4294967296)) <|
 .ob (Ey (o4.2.1,r6.2.2.1,r6.2.2.2.1,()) (10,())) fun r7=>letI k3:=(o4.2.1,r7.2.2.1,r7.2.2.2.1,());
 .br r7.1.1 (
 .ob (Ft k3) fun r8=>
 .ob (C0 (o4.2.1,r8.2.2.1,r8.2.2.2.1,()) ([(89,()),(90,()),(91,())],())) fun r9=>
 .ob (Ay Dq (o4.1++[r6.1],r9.1.1,o4.2.1,r9.2.2.1,r9.2.2.2.1,r8.1.1,r8.1.2.1,r8.1.2.2.1,r8.1.2.2.2.1,r8.1.2.2.2.2.1,())) fun o13=>
 .leaf ((o13.1,()),(o13.2.1,o13.2.2.1,o13.2.2.2.1,()))) (
 .leaf ((o4.1++[r6.1],()),k3))) (
 .ob (Ey k2 (10,())) fun r14=>letI k1:=(o4.2.1,r14.2.2.1,r14.2.2.2.1,());
 .br r14.1.1 (
 .ob (Ft k1) fun r15=>
 .ob (C0 (o4.2.1,r15.2.2.1,r15.2.2.2.1,()) ([(89,()),(90,()),(91,())],())) fun r16=>
 .ob (Ay Dq (o4.1,r16.1.1,o4.2.1,r16.2.2.1,r16.2.2.2.1,r15.1.1,r15.1.2.1,r15.1.2.2.1,r15.1.2.2.2.1,r15.1.2.2.2.2.1,())) fun o17=>
 .leaf ((o17.1,()),(o17.2.1,o17.2.2.1,o17.2.2.2.1,()))) (
 .leaf ((o4.1,()),k1)))
def Jk a0 a1:=(Jf a0 a1).val
def Jg (a0:YBs):Tree ((List Ag×Unit)×Ag):=
 .ob (Lh a0) fun r1=>
 .ob (Jk r1 (6,())) fun r2=>
 .ob (J8 (r1.1,r2.2.2.1,r2.2.2.2.1,())) fun r3=>
 .leaf (r2.1,r3.1)
def Fu a0:=(Jg a0).val
def Pz (a0:YBs):Tree (YBs):=
 .chk (decide (([]:List YB).length+a0.1.length<=4294967296)) <|
 .leaf (([]:List YB)++a0.1,())
def Lj a0:=(Pz a0).val
def Dd:Lst (List Ag×List Ag×Int×Int×Unit) (List Ag×Unit):=fun x1=>
 letI u1:=x1.2.2;Tree.val <|
 .br (decide (u1.2.1<u1.1)) (
 .ob (idx x1.2.1 u1.2.1) fun e2=>letI u2:=e2.2.2;
 .ob (Lj (u2.2.2.1,())) fun r3=>letI k1:=(e2.1,e2.2.1,u2.1,u2.2.1,r3.1,());
 .chk (decide (x1.1.length+[k1].length<=4294967296)) <|
 .leaf (.inl (x1.1++[k1],x1.2.1,u1.1,i64.wrap (u1.2.1+1),()))) (
 .leaf (.inr (x1.1,())))
def Jx (a0:List Ag×Unit):Tree (List Ag×Unit):=
 .ob (Ay Dd ([],a0.1,(a0.1.length:Int),0,())) fun o4=>
 .leaf o4
def Fk a0:=(Jx a0).val
def Ns (a0 a1 a2:YI):Tree (Bool×Unit):=
 .br (decide (a0.1≥a1.1)) (
 .leaf (decide (a0.1<=a2.1),())) (
 .leaf (false,()))
def Cn a0 a1 a2:=(Ns a0 a1 a2).val
def Nu (a0:Bt):Tree (Bool×Unit):=
 .ob (Cn (a0.1,()) (0,()) (4294967295,())) fun r1=>
 .br r1.1 (
 .ob (Cn (a0.2.1,()) (0,()) (65535,())) fun r2=>
 .leaf r2) (
 .leaf (false,()))
def H8 a0:=(Nu a0).val
def Nv (a0:Ag):Tree (Bool×Unit):=
 .ob (H8 (a0.1,a0.2.1,())) fun r1=>
 .br r1.1 (
 .ob (H8 (a0.2.2.1,a0.2.2.2.1,())) fun r2=>
 .br r2.1 (
 .leaf (decide ((a0.2.2.2.2.1.length:Int)<=200),())) (
 .leaf (false,()))) (
 .leaf (false,()))
def Gm a0:=(Nv a0).val
def Fi:Lst (List Ag×List Ag×Int×Int×Unit) ((Bool×Unit)⊕(List Ag×Unit)):=fun x1=>
 letI u1:=x1.2.2;Tree.val <|
 .br (decide (u1.2.1<u1.1)) (
 .ob (idx x1.2.1 u1.2.1) fun e2=>
 .ob (Gm e2) fun r3=>
 .br (!r3.1) (
 .leaf (.inr (.inl (false,())))) (
 .leaf (.inl (x1.1,x1.2.1,u1.1,i64.wrap (u1.2.1+1),())))) (
 .leaf (.inr (.inr (x1.1,()))))
def Mb (a0:List Ag×Unit):Tree (Bool×Unit):=
 .ob (Ay Fi (a0.1,a0.1,(a0.1.length:Int),0,())) fun o4=>
 .sm o4 (fun o5=>
 .leaf o5) (fun o6=>
 .leaf (decide ((o6.1.length:Int)<=90),()))
def Fv a0:=(Mb a0).val
def U7 (a0:List Ag×Unit) (a1:Ag):Tree (List Ag×Unit):=
 .chk (decide (([]:List Ag).length+a0.1.length<=4294967296)) <|
 .chk (decide ((([]:List Ag)++a0.1).length+[a1].length<=4294967296)) <|
 .ob (Fk ((([]:List Ag)++a0.1)++[a1],())) fun r1=>
 .ob (Fv r1) fun r2=>
 .br (!r2.1) (
 .ob (Fk a0) fun r3=>
 .leaf r3) (
 .leaf r1)
def Vg a0 a1:=(U7 a0 a1).val
def H6 (a0:YBs):Tree ((List Ag×Unit)×Bt×Bt):=
 .ob (Lh a0) fun r1=>
 .ob (Jk r1 (10,())) fun r2=>
 .ob (Bg (r1.1,r2.2.2.1,r2.2.2.2.1,()) (3,())) fun r3=>
 .ob (Ez r3.1) fun r4=>
 .ob (Bg (r1.1,r3.2.2.1,r3.2.2.2.1,()) (3,())) fun r5=>
 .ob (Ez r5.1) fun r6=>
 .leaf (r2.1,r4,r6)
def H9 a0:=(H6 a0).val
def Di:Lst (List Ag×List Ag×Int×Int×Int×Int×Int×Int×Unit) (List Ag×Unit):=fun x2=>
 letI u1:=x2.2.2.2;letI u2:=u1.2.2;letI k1:=Nat.ble (Int.toNat u1.1+1) (Int.toNat (i64.wrap (u1.1+(1:Int))));letI k2:=(x2.1,x2.2.1,x2.2.2.1,i64.wrap (u1.1+(1:Int)),u1.2.1,u2.1,u2.2.1,u2.2.2.1,());Tree.val <|
 .br (decide (u1.1<x2.2.2.1)) (
 .chk (Nat.beq (Int.toNat u1.1) (Int.toNat u1.1)) <|
 .ob (idx x2.2.1 u1.1) fun e3=>
 .br (and (e3.1==u1.2.1) (and (e3.2.1==u2.1) true)) (
 .br (and (e3.2.2.1==u2.2.1) (and (e3.2.2.2.1==u2.2.2.1) true)) (
 .chk (decide (x2.1.length+[e3].length<=4294967296)) <|
 .chk k1 <|
 .leaf (.inl (x2.1++[e3],x2.2.1,x2.2.2.1,i64.wrap (u1.1+1),u1.2.1,u2.1,u2.2.1,u2.2.2.1,()))) (
 .chk k1 <|
 .leaf (.inl k2))) (
 .chk k1 <|
 .leaf (.inl k2))) (
 .leaf (.inr (x2.1,())))
def Ji (a0:List Ag×Unit) (a1 a2:Bt):Tree (List Ag×Unit):=
 .ob (Fk a0) fun r1=>
 .ob (Ay Di ([],r1.1,(r1.1.length:Int),0,a1.1,a1.2.1,a2.1,a2.2.1,())) fun o4=>
 .leaf o4
def Mi a0 a1 a2:=(Ji a0 a1 a2).val
def Sp (a0 a1:YBs):Tree (Bool×Unit):=
 .leaf (decide ((Cr a0.1)=(Cr a1.1)),())
def Oa a0 a1:=(Sp a0 a1).val
def Nx (a0:Bt):Tree (Bool×Unit):=
 .ob (Cu (a0.1,()) (0,()) (4294967295,())) fun r1=>
 .br r1.1 (
 .ob (Cu (a0.2.1,()) (0,()) (65535,())) fun r2=>
 .leaf r2) (
 .leaf (false,()))
def Ia a0:=(Nx a0).val
def Ny (a0:Ag):Tree (Bool×Unit):=
 .ob (Ia (a0.1,a0.2.1,())) fun r1=>
 .br r1.1 (
 .ob (Ia (a0.2.2.1,a0.2.2.2.1,())) fun r2=>
 .br r2.1 (
 .leaf (decide ((a0.2.2.2.2.1.length:Int)<=200),())) (
 .leaf (false,()))) (
 .leaf (false,()))
def Ib a0:=(Ny a0).val
def Fj:Lst (List Ag×Int×Unit) ((Bool×Unit)⊕(List Ag×Unit)):=fun x1=>
 Tree.val <|
 .br (decide (x1.2.1<(x1.1.length:Int))) (
 .ob (idx x1.1 x1.2.1) fun e2=>
 .ob (Ib e2) fun r3=>
 .br (!r3.1) (
 .leaf (.inr (.inl (false,())))) (
 .leaf (.inl (x1.1,i64.wrap (x1.2.1+1),())))) (
 .leaf (.inr (.inr (x1.1,()))))
def Me (a0:List Ag×Unit):Tree (Bool×Unit):=
 .ob (Ay Fj (a0.1,0,())) fun o4=>
 .sm o4 (fun o5=>
 .leaf o5) (fun o6=>
 .leaf (decide ((o6.1.length:Int)<=90),()))
def Mj a0:=(Me a0).val
def De:Lst (List Ag×List Ag×Int×Unit) ((Bool×Unit)⊕(Unit)):=fun x1=>
 letI u1:=x1.2.2;letI k1:=idx x1.2.1 u1.1;letI k2:=idx x1.1 u1.1;Tree.val <|
 .br (decide (u1.1<(x1.1.length:Int))) (
 .ob k2 fun e2=>
 .ob k1 fun e3=>
 .br (!(and (e2.1==e3.1) (and (e2.2.1==e3.2.1) true))) (
 .leaf (.inr (.inl (false,())))) (
 .ob k2 fun e4=>
 .ob k1 fun e5=>
 .br (!(and (e4.2.2.1==e5.2.2.1) (and (e4.2.2.2.1==e5.2.2.2.1) true))) (
 .leaf (.inr (.inl (false,())))) (
 .ob k2 fun e6=>
 .ob k1 fun e7=>
 .ob (Oa (e6.2.2.2.2.1,()) (e7.2.2.2.2.1,())) fun r8=>
 .br (!r8.1) (
 .leaf (.inr (.inl (false,())))) (
 .leaf (.inl (x1.1,x1.2.1,i64.wrap (u1.1+1),())))))) (
 .leaf (.inr (.inr ())))
def Jy (a0 a1:List Ag×Unit):Tree (Bool×Unit):=
 .br ((a0.1.length:Int) != (a1.1.length:Int)) (
 .leaf (false,())) (
 .ob (Ay De (a0.1,a1.1,0,())) fun o9=>
 .sm o9 (fun o10=>
 .leaf o10) (fun o11=>
 .leaf (true,())))
def Hb a0 a1:=(Jy a0 a1).val
def P2 (a0:YBs) (a1:YI):Tree (YBs×YBs):=
 letI k1:=if (a0.1.length:Int)<a1.1 then(a0.1.length:Int)else a1.1;letI k2:=(a0.1.length:Int); .chk (decide (0<=k1)) <|
 .chk (decide (k1<=k2)) <|
 .ob (Lj ((a0.1.take (k1).toNat).drop (0:Int).toNat,())) fun r1=>
 .chk (decide (0<=k1)) <|
 .chk (decide (k1<=k2)) <|
 .chk (decide (k2<=k2)) <|
 .leaf (r1,((a0.1.take (k2).toNat).drop (k1).toNat,()))
def Ax a0 a1:=(P2 a0 a1).val
def Va (a0:YBs) (a1 a2:YI):Tree (YBs×(Bool×Unit)):=
 letI k1:=(a0.1.take (i64.wrap (a1.1+a2.1)).toNat).drop (a1.1).toNat;letI k2:=(a0.1.length:Int);letI k3:=i64.wrap (a1.1+a2.1); .br (decide (a1.1<0)) (
 .leaf (([],()),(false,()))) (
 .br (decide (a2.1<0)) (
 .leaf (([],()),(false,()))) (
 .br (decide (a1.1>k2)) (
 .leaf (([],()),(false,()))) (
 .br (decide (a2.1>i64.wrap (k2-a1.1))) (
 .leaf (([],()),(false,()))) (
 .chk (decide (0<=a1.1)) <|
 .chk (decide (a1.1<=k3)) <|
 .chk (decide (k3<=k2)) <|
 .chk (decide (([]:List YB).length+k1.length<=4294967296)) <|
 .leaf ((([]:List YB)++k1,()),(true,()))))))
def Vh a0 a1 a2:=(Va a0 a1 a2).val
def Gk:Lst (Int×Int×Int×List YB×Int×Int×Unit) (Int×Int×Int×Unit):=fun x2=>
 letI u1:=x2.2.2;letI u2:=u1.2.2;Tree.val <|
 .br (decide (u2.2.1<u2.1)) (
 .ob (idx u1.2.1 u2.2.1) fun e3=>
 .leaf (.inl (x2.1,x2.2.1,i64.wrap (i64.wrap (256*u1.1)+i64.wrap e3.1),u1.2.1,u2.1,i64.wrap (u2.2.1+1),()))) (
 .leaf (.inr (x2.1,x2.2.1,u1.1,())))
def Sq (a0:YBs) (a1 a2:YI):Tree (YI×YI×(Bool×Unit)):=
 .br (decide (a2.1<1)) (
 .leaf ((0,()),(0,()),(false,()))) (
 .br (decide (a2.1>6)) (
 .leaf ((0,()),(0,()),(false,()))) (
 .ob (Vh a0 a1 a2) fun r1=>
 .br (!r1.2.1) (
 .leaf ((0,()),(0,()),(false,()))) (
 .ob (Ay Gk (a1.1,a2.1,0,r1.1.1,(r1.1.1.length:Int),0,())) fun o4=>
 .leaf ((o4.2.2.1,()),(i64.wrap (o4.1+o4.2.1),()),(true,())))))
def Ss a0 a1 a2:=(Sq a0 a1 a2).val
def Nz (a0:YBs) (a1:YI):Tree (YI×YBs):=
 .ob (Ax a0 a1) fun r1=>
 .ob (Ss r1.1 (0,()) a1) fun r2=>
 .leaf (r2.1,r1.2)
def Bl a0 a1:=(Nz a0 a1).val
def N3 (a0:YI):Tree (Bool×Unit):=
 .ob (Cn a0 (4,()) (8,())) fun r1=>
 .leaf r1
def J9 a0:=(N3 a0).val
def Ry (a0:YBs):Tree (Bool×Unit):=
 .leaf ((a0.1.length:Int)==12,())
def D9 a0:=(Ry a0).val
def N4 (a0 a1:YI):Tree (Bool×Unit):=
 .br (a0.1==4) (
 .leaf (decide (a1.1<=40),())) (
 .br (a0.1==5) (
 .leaf (a1.1==12,())) (
 .br (a0.1==6) (
 .leaf (a1.1==12,())) (
 .leaf (a1.1==4,()))))
def Ob a0 a1:=(N4 a0 a1).val
def Pf (a0 a1:YBs):Tree (Bool×Unit):=
 .leaf (decide ((Cr a0.1)=(Cr a1.1)),())
def A7 a0 a1:=(Pf a0 a1).val
def J0 (a0 a1:A5):Tree (Bool×Unit):=
 letI u1:=a0.2.2.2;letI u2:=u1.2.2.2;letI u3:=a1.2.2.2;letI u4:=u3.2.2.2;.br (a0.1==a1.1) (
 .br (a0.2.1==a1.2.1) (
 .br (u1.2.1==u3.2.1) (
 .br (u2.2.1==u4.2.1) (
 .br (u2.2.2.1==u4.2.2.1) (
 .ob (A7 (a0.2.2.1,()) (a1.2.2.1,())) fun r1=>
 .br r1.1 (
 .ob (A7 (u1.1,()) (u3.1,())) fun r2=>
 .br r2.1 (
 .ob (A7 (u1.2.2.1,()) (u3.2.2.1,())) fun r3=>
 .br r3.1 (
 .ob (A7 (u2.1,()) (u4.1,())) fun r4=>
 .br r4.1 (
 .ob (A7 (u2.2.2.2.1,()) (u4.2.2.2.1,())) fun r5=>
 .br r5.1 (
 .ob (A7 (u2.2.2.2.2.1,()) (u4.2.2.2.2.1,())) fun r6=>
 .leaf r6) (
 .leaf (false,()))) (
 .leaf (false,()))) (
 .leaf (false,()))) (
 .leaf (false,()))) (
 .leaf (false,()))) (
 .leaf (false,()))) (
 .leaf (false,()))) (
 .leaf (false,()))) (
 .leaf (false,()))) (
 .leaf (false,()))
def Dy a0 a1:=(J0 a0 a1).val
def Mg (a0:A5):Tree (Bool×Unit):=
 letI u1:=a0.2.2;letI u2:=u1.2.2;letI u3:=u2.2.2.2;letI k1:=Cn (u2.1,()) ((0:Int),()) ((1000000:Int),());letI k2:=Cn (a0.2.1,()) ((1:Int),()) ((9:Int),());letI k3:=(a0.2.2.2.2.2.1.length:Int)==(16:Int);letI k4:=D9 (u1.2.1,());letI k5:=D9 (u1.1,());.br (a0.1==1) (
 .ob k2 fun r1=>
 .br r1.1 (
 .ob k5 fun r2=>
 .br r2.1 (
 .ob (Dy a0 (a0.1,a0.2.1,u1.1,[],0,[],[],0,0,[],[],())) fun r3=>
 .leaf r3) (
 .leaf (false,()))) (
 .leaf (false,()))) (
 .br (a0.1==2) (
 .ob k5 fun r4=>
 .br r4.1 (
 .ob k4 fun r5=>
 .br r5.1 (
 .ob k1 fun r6=>
 .br r6.1 (
 .br k3 (
 .ob (Dy a0 (a0.1,0,u1.1,u1.2.1,u2.1,u2.2.1,[],0,0,[],[],())) fun r7=>
 .leaf r7) (
 .leaf (false,()))) (
 .leaf (false,()))) (
 .leaf (false,()))) (
 .leaf (false,()))) (
 .br (a0.1==3) (
 .ob k2 fun r8=>
 .br r8.1 (
 .ob k5 fun r9=>
 .br r9.1 (
 .ob k4 fun r10=>
 .br r10.1 (
 .ob k1 fun r11=>
 .br r11.1 (
 .br k3 (
 .br ((a0.2.2.2.2.2.2.1.length:Int)==16) (
 .ob (Dy a0 (a0.1,a0.2.1,u1.1,u1.2.1,u2.1,u2.2.1,u2.2.2.1,0,0,[],[],())) fun r12=>
 .leaf r12) (
 .leaf (false,()))) (
 .leaf (false,()))) (
 .leaf (false,()))) (
 .leaf (false,()))) (
 .leaf (false,()))) (
 .leaf (false,()))) (
 .ob (J9 (a0.1,())) fun r13=>
 .br r13.1 (
 .ob k4 fun r14=>
 .br r14.1 (
 .ob (Cn (u3.1,()) (0,()) (4294967295,())) fun r15=>
 .br r15.1 (
 .ob (Cn (u3.2.1,()) (0,()) (281474976710655,())) fun r16=>
 .br r16.1 (
 .br ((a0.2.2.2.2.2.2.2.2.2.2.1.length:Int)==16) (
 .ob (Ob (a0.1,()) ((a0.2.2.2.2.2.2.2.2.2.1.length:Int),())) fun r17=>
 .br r17.1 (
 .ob (Dy a0 (a0.1,0,[],u1.2.1,0,[],[],u3.1,u3.2.1,u3.2.2.1,u3.2.2.2.1,())) fun r18=>
 .leaf r18) (
 .leaf (false,()))) (
 .leaf (false,()))) (
 .leaf (false,()))) (
 .leaf (false,()))) (
 .leaf (false,()))) (
 .leaf (false,())))))
def Bz a0:=(Mg a0).val
def Ee:Lst (List YB×List YBs×Int×Int×Unit) (YBs):=fun x1=>
 letI u1:=x1.2.2;Tree.val <|
 .br (decide (u1.2.1<u1.1)) (
 .ob (idx x1.2.1 u1.2.1) fun e2=>
 .chk (decide (x1.1.length+e2.1.length<=4294967296)) <|
 .leaf (.inl (x1.1++e2.1,x1.2.1,u1.1,i64.wrap (u1.2.1+1),()))) (
 .leaf (.inr (x1.1,())))
def N5 (a0:List YBs×Unit):Tree (YBs):=
 .ob (Ay Ee ([],a0.1,(a0.1.length:Int),0,())) fun o3=>
 .leaf o3
def Gn a0:=(N5 a0).val
def T4:Lst (Int×List YB×Int×Unit) (YBs):=fun x1=>
 letI u1:=x1.2.2;letI k1:=(i64.wrap ((BitVec.ofInt i64.bits (Int.fdiv x1.1 (2^(min (i64.wrap ((8:Int)*u1.1)).toNat i64.bits))) &&& BitVec.ofInt i64.bits (255:Int)).toNat:Nat));Tree.val <|
 .br (decide (u1.1≥0)) (
 .chk (decide (0<=i64.wrap (8*u1.1))) <|
 .chk (decide (x1.2.1.length+[(u8.wrap k1,())].length<=4294967296)) <|
 .leaf (.inl (x1.1,x1.2.1++[(u8.wrap k1,())],i64.wrap (u1.1-1),()))) (
 .leaf (.inr (x1.2.1,())))
def X5 (a0:YBs) (a1 a2:YI):Tree (YBs):=
 letI k1:=([]:List YB)++a0.1; .chk (decide (([]:List YB).length+a0.1.length<=4294967296)) <|
 .br (decide (a2.1<1)) (
 .leaf (k1,())) (
 .br (decide (a2.1>6)) (
 .leaf (k1,())) (
 .ob (Ay T4 (a1.1,k1,i64.wrap (a2.1-1),())) fun o2=>
 .leaf o2))
def F4 a0 a1 a2:=(X5 a0 a1 a2).val
def Kp (a0:A5):Tree (YBs):=
 letI u1:=a0.2.2;letI u2:=u1.2.2;letI u3:=u2.2.2.2;letI k1:=F4 (([]:List YB),()) (u2.1,()) ((4:Int),());.ob (Bz a0) fun r1=>
 .br (!r1.1) (
 .leaf ([],())) (
 .br (a0.1==1) (
 .ob (Gn ([([(u8.wrap a0.1,())],()),([(u8.wrap a0.2.1,())],()),(u1.1,()),(List.replicate (20:Int).toNat (0,()),())],())) fun r2=>
 .leaf r2) (
 .br (a0.1==2) (
 .ob k1 fun r3=>
 .ob (Gn ([([(u8.wrap a0.1,())],()),(u1.1,()),(u1.2.1,()),r3,(u2.2.1,())],())) fun r4=>
 .leaf r4) (
 .br (a0.1==3) (
 .ob k1 fun r5=>
 .ob (Gn ([([(u8.wrap a0.1,())],()),([(u8.wrap a0.2.1,())],()),(u1.1,()),(u1.2.1,()),r5,(u2.2.1,()),(u2.2.2.1,())],())) fun r6=>
 .leaf r6) (
 .ob (F4 ([],()) (u3.1,()) (4,())) fun r7=>
 .ob (F4 ([],()) (u3.2.1,()) (6,())) fun r8=>
 .ob (Gn ([([(u8.wrap a0.1,())],()),(u1.2.1,()),r7,r8,(u3.2.2.2.1,()),(u3.2.2.1,())],())) fun r9=>
 .leaf r9))))
def Bw a0:=(Kp a0).val
def Kq (a0:YBs):Tree (A5×(Bool×Unit)):=
 .ob (Bl a0 (1,())) fun r1=>letI k1:=(r1.1.1,(0:Int),([]:List YB),([]:List YB),(0:Int),([]:List YB),([]:List YB),(0:Int),(0:Int),([]:List YB),([]:List YB),());letI k12:=r1.1.1==(3:Int);letI k13:=Ax r1.2 ((12:Int),());letI k14:=Bl r1.2 ((1:Int),());
 .br (r1.1.1==1) (
 .ob k14 fun r2=>
 .ob (Ax r2.2 (12,())) fun r3=>letI k2:=(r1.1.1,r2.1.1,r3.1.1,([]:List YB),(0:Int),([]:List YB),([]:List YB),(0:Int),(0:Int),([]:List YB),([]:List YB),());
 .ob (Bz k2) fun r4=>
 .br (!r4.1) (
 .leaf ((0,0,[],[],0,[],[],0,0,[],[],()),(false,()))) (
 .ob (Bw k2) fun r5=>
 .ob (A7 r5 a0) fun r6=>
 .br (!r6.1) (
 .leaf ((0,0,[],[],0,[],[],0,0,[],[],()),(false,()))) (
 .leaf (k2,(true,()))))) (
 .br (r1.1.1==2) (
 .br k12 (
 .ob k14 fun r7=>
 .ob (Ax r7.2 (12,())) fun r8=>
 .ob (Ax r8.2 (12,())) fun r9=>
 .ob (Bl r9.2 (4,())) fun r10=>
 .ob (Ax r10.2 (16,())) fun r11=>letI k7:=(r1.1.1,r7.1.1,r8.1.1,r9.1.1,r10.1.1,r11.1.1,([]:List YB),(0:Int),(0:Int),([]:List YB),([]:List YB),());
 .br k12 (
 .ob (Ax r11.2 (16,())) fun r12=>letI k11:=(r1.1.1,r7.1.1,r8.1.1,r9.1.1,r10.1.1,r11.1.1,r12.1.1,(0:Int),(0:Int),([]:List YB),([]:List YB),());
 .ob (Bz k11) fun r13=>
 .br (!r13.1) (
 .leaf ((0,0,[],[],0,[],[],0,0,[],[],()),(false,()))) (
 .ob (Bw k11) fun r14=>
 .ob (A7 r14 a0) fun r15=>
 .br (!r15.1) (
 .leaf ((0,0,[],[],0,[],[],0,0,[],[],()),(false,()))) (
 .leaf (k11,(true,()))))) (
 .ob (Bz k7) fun r16=>
 .br (!r16.1) (
 .leaf ((0,0,[],[],0,[],[],0,0,[],[],()),(false,()))) (
 .ob (Bw k7) fun r17=>
 .ob (A7 r17 a0) fun r18=>
 .br (!r18.1) (
 .leaf ((0,0,[],[],0,[],[],0,0,[],[],()),(false,()))) (
 .leaf (k7,(true,())))))) (
 .ob k13 fun r19=>
 .ob (Ax r19.2 (12,())) fun r20=>
 .ob (Bl r20.2 (4,())) fun r21=>
 .ob (Ax r21.2 (16,())) fun r22=>letI k3:=(r1.1.1,(0:Int),r19.1.1,r20.1.1,r21.1.1,r22.1.1,([]:List YB),(0:Int),(0:Int),([]:List YB),([]:List YB),());
 .br k12 (
 .ob (Ax r22.2 (16,())) fun r23=>letI k8:=(r1.1.1,(0:Int),r19.1.1,r20.1.1,r21.1.1,r22.1.1,r23.1.1,(0:Int),(0:Int),([]:List YB),([]:List YB),());
 .ob (Bz k8) fun r24=>
 .br (!r24.1) (
 .leaf ((0,0,[],[],0,[],[],0,0,[],[],()),(false,()))) (
 .ob (Bw k8) fun r25=>
 .ob (A7 r25 a0) fun r26=>
 .br (!r26.1) (
 .leaf ((0,0,[],[],0,[],[],0,0,[],[],()),(false,()))) (
 .leaf (k8,(true,()))))) (
 .ob (Bz k3) fun r27=>
 .br (!r27.1) (
 .leaf ((0,0,[],[],0,[],[],0,0,[],[],()),(false,()))) (
 .ob (Bw k3) fun r28=>
 .ob (A7 r28 a0) fun r29=>
 .br (!r29.1) (
 .leaf ((0,0,[],[],0,[],[],0,0,[],[],()),(false,()))) (
 .leaf (k3,(true,()))))))) (
 .br k12 (
 .br k12 (
 .ob k14 fun r30=>
 .ob (Ax r30.2 (12,())) fun r31=>
 .ob (Ax r31.2 (12,())) fun r32=>
 .ob (Bl r32.2 (4,())) fun r33=>
 .ob (Ax r33.2 (16,())) fun r34=>letI k4:=(r1.1.1,r30.1.1,r31.1.1,r32.1.1,r33.1.1,r34.1.1,([]:List YB),(0:Int),(0:Int),([]:List YB),([]:List YB),());
 .br k12 (
 .ob (Ax r34.2 (16,())) fun r35=>letI k9:=(r1.1.1,r30.1.1,r31.1.1,r32.1.1,r33.1.1,r34.1.1,r35.1.1,(0:Int),(0:Int),([]:List YB),([]:List YB),());
 .ob (Bz k9) fun r36=>
 .br (!r36.1) (
 .leaf ((0,0,[],[],0,[],[],0,0,[],[],()),(false,()))) (
 .ob (Bw k9) fun r37=>
 .ob (A7 r37 a0) fun r38=>
 .br (!r38.1) (
 .leaf ((0,0,[],[],0,[],[],0,0,[],[],()),(false,()))) (
 .leaf (k9,(true,()))))) (
 .ob (Bz k4) fun r39=>
 .br (!r39.1) (
 .leaf ((0,0,[],[],0,[],[],0,0,[],[],()),(false,()))) (
 .ob (Bw k4) fun r40=>
 .ob (A7 r40 a0) fun r41=>
 .br (!r41.1) (
 .leaf ((0,0,[],[],0,[],[],0,0,[],[],()),(false,()))) (
 .leaf (k4,(true,())))))) (
 .ob k13 fun r42=>
 .ob (Ax r42.2 (12,())) fun r43=>
 .ob (Bl r43.2 (4,())) fun r44=>
 .ob (Ax r44.2 (16,())) fun r45=>letI k5:=(r1.1.1,(0:Int),r42.1.1,r43.1.1,r44.1.1,r45.1.1,([]:List YB),(0:Int),(0:Int),([]:List YB),([]:List YB),());
 .br k12 (
 .ob (Ax r45.2 (16,())) fun r46=>letI k10:=(r1.1.1,(0:Int),r42.1.1,r43.1.1,r44.1.1,r45.1.1,r46.1.1,(0:Int),(0:Int),([]:List YB),([]:List YB),());
 .ob (Bz k10) fun r47=>
 .br (!r47.1) (
 .leaf ((0,0,[],[],0,[],[],0,0,[],[],()),(false,()))) (
 .ob (Bw k10) fun r48=>
 .ob (A7 r48 a0) fun r49=>
 .br (!r49.1) (
 .leaf ((0,0,[],[],0,[],[],0,0,[],[],()),(false,()))) (
 .leaf (k10,(true,()))))) (
 .ob (Bz k5) fun r50=>
 .br (!r50.1) (
 .leaf ((0,0,[],[],0,[],[],0,0,[],[],()),(false,()))) (
 .ob (Bw k5) fun r51=>
 .ob (A7 r51 a0) fun r52=>
 .br (!r52.1) (
 .leaf ((0,0,[],[],0,[],[],0,0,[],[],()),(false,()))) (
 .leaf (k5,(true,()))))))) (
 .ob (J9 r1.1) fun r53=>
 .br r53.1 (
 .ob k13 fun r54=>
 .ob (Bl r54.2 (4,())) fun r55=>
 .ob (Bl r55.2 (6,())) fun r56=>
 .ob (Ax r56.2 (16,())) fun r57=>
 .ob (Ax r57.2 (41,())) fun r58=>letI k6:=(r1.1.1,(0:Int),([]:List YB),r54.1.1,(0:Int),([]:List YB),([]:List YB),r55.1.1,r56.1.1,r58.1.1,r57.1.1,());
 .ob (Bz k6) fun r59=>
 .br (!r59.1) (
 .leaf ((0,0,[],[],0,[],[],0,0,[],[],()),(false,()))) (
 .ob (Bw k6) fun r60=>
 .ob (A7 r60 a0) fun r61=>
 .br (!r61.1) (
 .leaf ((0,0,[],[],0,[],[],0,0,[],[],()),(false,()))) (
 .leaf (k6,(true,()))))) (
 .ob (Bz k1) fun r62=>
 .br (!r62.1) (
 .leaf ((0,0,[],[],0,[],[],0,0,[],[],()),(false,()))) (
 .ob (Bw k1) fun r63=>
 .ob (A7 r63 a0) fun r64=>
 .br (!r64.1) (
 .leaf ((0,0,[],[],0,[],[],0,0,[],[],()),(false,()))) (
 .leaf (k1,(true,()))))))))
def Kx a0:=(Kq a0).val
def Kr (a0:YI):Tree (ByteArray×Unit):=
 .ob (Cn a0 (1,()) (8,())) fun r1=>
 .br (!r1.1) (
 .leaf (Ac [],())) (
 .ob (idx [(Ac [105,110,105,116],()),(Ac [99,111,111,107,105,101],()),(Ac [102,105,110,105,115,104],()),(Ac [100,97,116,97],()),(Ac [99,104,97,108,108,101,110,103,101],()),(Ac [114,101,115,112,111,110,115,101],()),(Ac [114,101,107,101,121],()),(Ac [114,101,107,101,121,97,99,107],())] (i64.wrap (a0.1-1))) fun e2=>
 .leaf e2)
def Ky a0:=(Kr a0).val
def Mx (a0:YI):Tree (ByteArray×Unit):=.leaf (Eb a0.1,())
def Eg a0:=(Mx a0).val
def I0 (a0:List (ByteArray×Unit)×Unit) (a1:ByteArray×Unit):Tree (ByteArray×Unit):=
 .chk (decide (List.length a0.1+(Fy a0.1 a1.1).length<=4294967296)) <|
 .leaf (⟨(Fy a0.1 a1.1).toArray⟩,())
def I1 a0 a1:=(I0 a0 a1).val
def Cf:Lst ((List (ByteArray×Unit))×Int×Int×Int×Unit) ((List (ByteArray×Unit))×Int×Int×Unit):=fun x2=>
 letI u1:=x2.2.2;letI k1:=i64.wrap ((8:Int)*x2.2.1);Tree.val <|
 .br (decide (x2.2.1≥0)) (
 .chk (decide (0<=k1)) <|
 .ob (Eg (i64.wrap ((BitVec.ofInt i64.bits (Int.fdiv u1.1 (2^(min (k1).toNat i64.bits))) &&& BitVec.ofInt i64.bits 255).toNat:Nat),())) fun r3=>
 .chk (decide (x2.1.length+[r3].length<=4294967296)) <|
 .leaf (.inl (x2.1++[r3],i64.wrap (x2.2.1-1),u1.1,u1.2.1,()))) (
 .leaf (.inr (x2.1,u1.1,u1.2.1,())))
def Ks (a0:Bt):Tree (ByteArray×Unit):=
 .ob (H8 a0) fun r1=>
 .br (!r1.1) (
 .leaf (Ac [],())) (
 .ob (Ay Cf (([]:List (ByteArray×Unit)),3,a0.1,a0.2.1,())) fun o4=>
 .ob (I1 (o4.1,()) (Ac [46],())) fun r5=>
 .chk (decide (r5.1.size+(Ac [58]).size<=4294967296)) <|
 .ob (Eg (o4.2.2.1,())) fun r6=>
 .chk (decide ((r5.1++Ac [58]).size+r6.1.size<=4294967296)) <|
 .leaf ((r5.1++Ac [58])++r6.1,()))
def Eh a0:=(Ks a0).val
def Kt (a0:Ag):Tree (ByteArray×Unit):=
 letI u1:=a0.2.2;letI k4:=Eg ((a0.2.2.2.2.1.length:Int),());.ob (Gm a0) fun r1=>
 .br (!r1.1) (
 .leaf (Ac [],())) (
 .ob (Kx (u1.2.2.1,())) fun r2=>
 .br r2.2.1 (
 .ob (Ky (r2.1.1,())) fun r3=>
 .ob (Eh (a0.1,a0.2.1,())) fun r4=>letI k5:=r4.1++(Ac [62]);
 .chk (decide (r4.1.size+(Ac [62]).size<=4294967296)) <|
 .ob (Eh (u1.1,u1.2.1,())) fun r5=>letI k2:=(k5++r5.1)++(Ac [32]);letI k6:=(k2++r3.1)++(Ac [32]);
 .chk (decide (k5.size+r5.1.size<=4294967296)) <|
 .chk (decide ((k5++r5.1).size+(Ac [32]).size<=4294967296)) <|
 .chk (decide (k2.size+r3.1.size<=4294967296)) <|
 .chk (decide ((k2++r3.1).size+(Ac [32]).size<=4294967296)) <|
 .ob k4 fun r6=>
 .chk (decide (k6.size+r6.1.size<=4294967296)) <|
 .leaf (k6++r6.1,())) (
 .ob (Eh (a0.1,a0.2.1,())) fun r7=>letI k3:=r7.1++(Ac [62]);
 .chk (decide (r7.1.size+(Ac [62]).size<=4294967296)) <|
 .ob (Eh (u1.1,u1.2.1,())) fun r8=>letI k1:=((k3++r8.1)++Ac [32])++(Ac [110,111,105,115,101]);
 .chk (decide (k3.size+r8.1.size<=4294967296)) <|
 .chk (decide ((k3++r8.1).size+(Ac [32]).size<=4294967296)) <|
 .chk (decide (((k3++r8.1)++Ac [32]).size+(Ac [110,111,105,115,101]).size<=4294967296)) <|
 .chk (decide (k1.size+(Ac [32]).size<=4294967296)) <|
 .ob k4 fun r9=>
 .chk (decide ((k1++Ac [32]).size+r9.1.size<=4294967296)) <|
 .leaf ((k1++Ac [32])++r9.1,())))
def Kz a0:=(Kt a0).val
def Gl:Lst (List YB×Int×Int×Int×Int×Unit) (Int×Int×Int×Unit):=fun x1=>
 letI u1:=x1.2.2;Tree.val <|
 .br (decide (u1.2.2.1<u1.1)) (
 .ob (idx x1.1 (i64.wrap (x1.2.1+u1.2.2.1))) fun e2=>
 .leaf (.inl (x1.1,x1.2.1,u1.1,i64.wrap (i64.wrap (u1.2.1*256)+i64.wrap e2.1),i64.wrap (u1.2.2.1+1),()))) (
 .leaf (.inr (x1.2.1,u1.1,u1.2.1,())))
def Sr (a0:YBs) (a1 a2:YI):Tree (YI×YI×(Bool×Unit)):=
 .br (decide (a2.1<1)) (
 .leaf ((0,()),(0,()),(false,()))) (
 .br (decide (a2.1>6)) (
 .leaf ((0,()),(0,()),(false,()))) (
 .br (decide (a1.1<0)) (
 .leaf ((0,()),(0,()),(false,()))) (
 .br (decide (a1.1>i64.wrap ((a0.1.length:Int)-a2.1))) (
 .leaf ((0,()),(0,()),(false,()))) (
 .ob (Ay Gl (a0.1,a1.1,a2.1,0,0,())) fun o3=>
 .leaf ((o3.2.2.1,()),(i64.wrap (o3.1+o3.2.1),()),(true,()))))))
def I2 a0 a1 a2:=(Sr a0 a1 a2).val
def Ku (a0:YBs):Tree (A5×(Bool×Unit)):=
 letI k1:=(a0.1.length:Int);letI k6:=(a0.1.take (14:Int).toNat).drop (2:Int).toNat;letI k7:=(a0.1.take (13:Int).toNat).drop (1:Int).toNat;letI k8:=a0.1.take (k1).toNat;letI k10:=(a0.1.take (25:Int).toNat).drop (13:Int).toNat;letI k11:=(a0.1.take (26:Int).toNat).drop (14:Int).toNat;letI k12:=(a0.1.take (46:Int).toNat).drop (30:Int).toNat;letI k13:=(a0.1.take (39:Int).toNat).drop (23:Int).toNat;letI k14:=decide (([]:List YB).length+k6.length<=4294967296);letI k15:=decide (([]:List YB).length+k7.length<=4294967296);letI k16:=decide (k1<=k1);letI k17:=k8.drop (29:Int).toNat;letI k18:=k8.drop (46:Int).toNat;letI k19:=k8.drop (39:Int).toNat;letI k20:=decide ((14:Int)<=k1);letI k21:=decide ((13:Int)<=k1);letI k22:=decide ((46:Int)<=k1);letI k23:=decide ((39:Int)<=k1); .br (k1==0) (
 .leaf ((0,0,[],[],0,[],[],0,0,[],[],()),(false,()))) (
 .ob (idx a0.1 0) fun e1=>letI k9:=i64.wrap (e1.1);
 .br (k9==1) (
 .br (k1 != 34) (
 .leaf ((0,0,[],[],0,[],[],0,0,[],[],()),(false,()))) (
 .ob (idx a0.1 1) fun e2=>letI k5:=(k9,i64.wrap e2.1,([]:List YB)++k6,([]:List YB),(0:Int),([]:List YB),([]:List YB),(0:Int),(0:Int),([]:List YB),([]:List YB),());
 .chk k20 <|
 .chk k14 <|
 .ob (C8 k5) fun r3=>
 .br (!(decide ((Cr r3.1)=(Cr a0.1)))) (
 .leaf ((0,0,[],[],0,[],[],0,0,[],[],()),(false,()))) (
 .leaf (k5,(true,()))))) (
 .br (k9==2) (
 .br (k1 != 45) (
 .leaf ((0,0,[],[],0,[],[],0,0,[],[],()),(false,()))) (
 .chk k21 <|
 .chk k15 <|
 .chk (decide (25<=k1)) <|
 .chk (decide (([]:List YB).length+k10.length<=4294967296)) <|
 .ob (I2 a0 (25,()) (4,())) fun r4=>letI k3:=(k9,(0:Int),([]:List YB)++k7,([]:List YB)++k10,r4.1.1,([]:List YB)++k17,([]:List YB),(0:Int),(0:Int),([]:List YB),([]:List YB),());
 .chk (decide (29<=k1)) <|
 .chk k16 <|
 .chk (decide (([]:List YB).length+k17.length<=4294967296)) <|
 .ob (C8 k3) fun r5=>
 .br (!(decide ((Cr r5.1)=(Cr a0.1)))) (
 .leaf ((0,0,[],[],0,[],[],0,0,[],[],()),(false,()))) (
 .leaf (k3,(true,()))))) (
 .br (k9==3) (
 .br (k1 != 62) (
 .leaf ((0,0,[],[],0,[],[],0,0,[],[],()),(false,()))) (
 .ob (idx a0.1 1) fun e6=>
 .chk k20 <|
 .chk k14 <|
 .chk (decide (26<=k1)) <|
 .chk (decide (([]:List YB).length+k11.length<=4294967296)) <|
 .ob (I2 a0 (26,()) (4,())) fun r7=>letI k2:=(k9,i64.wrap e6.1,([]:List YB)++k6,([]:List YB)++k11,r7.1.1,([]:List YB)++k12,([]:List YB)++k18,(0:Int),(0:Int),([]:List YB),([]:List YB),());
 .chk k22 <|
 .chk (decide (([]:List YB).length+k12.length<=4294967296)) <|
 .chk k22 <|
 .chk k16 <|
 .chk (decide (([]:List YB).length+k18.length<=4294967296)) <|
 .ob (C8 k2) fun r8=>
 .br (!(decide ((Cr r8.1)=(Cr a0.1)))) (
 .leaf ((0,0,[],[],0,[],[],0,0,[],[],()),(false,()))) (
 .leaf (k2,(true,()))))) (
 .br (decide (k1<39)) (
 .leaf ((0,0,[],[],0,[],[],0,0,[],[],()),(false,()))) (
 .chk k21 <|
 .chk k15 <|
 .ob (I2 a0 (13,()) (4,())) fun r9=>
 .ob (I2 a0 (17,()) (6,())) fun r10=>letI k4:=(k9,(0:Int),([]:List YB),([]:List YB)++k7,(0:Int),([]:List YB),([]:List YB),r9.1.1,r10.1.1,([]:List YB)++k19,([]:List YB)++k13,());
 .chk k23 <|
 .chk (decide (([]:List YB).length+k13.length<=4294967296)) <|
 .chk k23 <|
 .chk k16 <|
 .chk (decide (([]:List YB).length+k19.length<=4294967296)) <|
 .ob (C8 k4) fun r11=>
 .br (!(decide ((Cr r11.1)=(Cr a0.1)))) (
 .leaf ((0,0,[],[],0,[],[],0,0,[],[],()),(false,()))) (
 .leaf (k4,(true,()))))))))
def K0 a0:=(Ku a0).val
def H7 (a0:YI):Tree (ByteArray×Unit):=
 .ob (Cu a0 (1,()) (8,())) fun r1=>
 .br (!r1.1) (
 .leaf (Ac [],())) (
 .ob (idx [(Ac [105,110,105,116],()),(Ac [99,111,111,107,105,101],()),(Ac [102,105,110,105,115,104],()),(Ac [100,97,116,97],()),(Ac [99,104,97,108,108,101,110,103,101],()),(Ac [114,101,115,112,111,110,115,101],()),(Ac [114,101,107,101,121],()),(Ac [114,101,107,101,121,97,99,107],())] (i64.wrap (a0.1-1))) fun e2=>
 .leaf e2)
def F5 a0:=(H7 a0).val
def D8:Lst (Int×ByteArray×Unit) (ByteArray×Unit):=fun x1=>
 letI k1:=(i64.wrap ((48:Int)+(x1.1%(10:Int))));letI k2:=decide ((0:Int)<=x1.1); Tree.val <|
 .br (decide (x1.1>0)) (
 .chk k2 <|
 .chk (decide ((Cr [(u8.wrap k1,())]).size+x1.2.1.size<=4294967296)) <|
 .chk k2 <|
 .leaf (.inl (x1.1/(10:Int),Cr [(u8.wrap k1,())]++x1.2.1,()))) (
 .leaf (.inr (x1.2.1,())))
def Qc (a0:YI):Tree (ByteArray×Unit):=
 .br (a0.1==0) (
 .leaf (Ac [48],())) (
 .ob (Ay D8 (a0.1,Ac [],())) fun o2=>
 .leaf o2)
def Cp a0:=(Qc a0).val
def Kv (a0:Bt):Tree (ByteArray×Unit):=
 .ob (Ia a0) fun r1=>
 .br (!r1.1) (
 .leaf (Ac [],())) (
 .ob (Cp (Int.fdiv a0.1 (2^(min (24:Int).toNat i64.bits)),())) fun r2=>letI k3:=r2.1++(Ac [46]);
 .chk (decide (r2.1.size+(Ac [46]).size<=4294967296)) <|
 .ob (Cp (i64.wrap ((BitVec.ofInt i64.bits (Int.fdiv a0.1 (2^(min (16:Int).toNat i64.bits))) &&& BitVec.ofInt i64.bits 255).toNat:Nat),())) fun r3=>letI k1:=(k3++r3.1)++(Ac [46]);
 .chk (decide (k3.size+r3.1.size<=4294967296)) <|
 .chk (decide ((k3++r3.1).size+(Ac [46]).size<=4294967296)) <|
 .ob (Cp (i64.wrap ((BitVec.ofInt i64.bits (Int.fdiv a0.1 (2^(min (8:Int).toNat i64.bits))) &&& BitVec.ofInt i64.bits 255).toNat:Nat),())) fun r4=>letI k2:=(k1++r4.1)++(Ac [46]);
 .chk (decide (k1.size+r4.1.size<=4294967296)) <|
 .chk (decide ((k1++r4.1).size+(Ac [46]).size<=4294967296)) <|
 .ob (Cp (i64.wrap ((BitVec.ofInt i64.bits a0.1 &&& BitVec.ofInt i64.bits 255).toNat:Nat),())) fun r5=>letI k4:=(k2++r5.1)++(Ac [58]);
 .chk (decide (k2.size+r5.1.size<=4294967296)) <|
 .chk (decide ((k2++r5.1).size+(Ac [58]).size<=4294967296)) <|
 .ob (Cp (a0.2.1,())) fun r6=>
 .chk (decide (k4.size+r6.1.size<=4294967296)) <|
 .leaf (k4++r6.1,()))
def Ei a0:=(Kv a0).val
def Kw (a0:Ag):Tree (ByteArray×Unit):=
 letI u1:=a0.2.2;letI k4:=Cp ((a0.2.2.2.2.1.length:Int),());.ob (Ib a0) fun r1=>
 .br (!r1.1) (
 .leaf (Ac [],())) (
 .ob (K0 (u1.2.2.1,())) fun r2=>
 .br r2.2.1 (
 .ob (F5 (r2.1.1,())) fun r3=>
 .ob (Ei (a0.1,a0.2.1,())) fun r4=>letI k5:=r4.1++(Ac [62]);
 .chk (decide (r4.1.size+(Ac [62]).size<=4294967296)) <|
 .ob (Ei (u1.1,u1.2.1,())) fun r5=>letI k2:=(k5++r5.1)++(Ac [32]);letI k6:=(k2++r3.1)++(Ac [32]);
 .chk (decide (k5.size+r5.1.size<=4294967296)) <|
 .chk (decide ((k5++r5.1).size+(Ac [32]).size<=4294967296)) <|
 .chk (decide (k2.size+r3.1.size<=4294967296)) <|
 .chk (decide ((k2++r3.1).size+(Ac [32]).size<=4294967296)) <|
 .ob k4 fun r6=>
 .chk (decide (k6.size+r6.1.size<=4294967296)) <|
 .leaf (k6++r6.1,())) (
 .ob (Ei (a0.1,a0.2.1,())) fun r7=>letI k3:=r7.1++(Ac [62]);
 .chk (decide (r7.1.size+(Ac [62]).size<=4294967296)) <|
 .ob (Ei (u1.1,u1.2.1,())) fun r8=>letI k1:=((k3++r8.1)++Ac [32])++(Ac [110,111,105,115,101]);
 .chk (decide (k3.size+r8.1.size<=4294967296)) <|
 .chk (decide ((k3++r8.1).size+(Ac [32]).size<=4294967296)) <|
 .chk (decide (((k3++r8.1)++Ac [32]).size+(Ac [110,111,105,115,101]).size<=4294967296)) <|
 .chk (decide (k1.size+(Ac [32]).size<=4294967296)) <|
 .ob k4 fun r9=>
 .chk (decide ((k1++Ac [32]).size+r9.1.size<=4294967296)) <|
 .leaf ((k1++Ac [32])++r9.1,())))
def K1 a0:=(Kw a0).val
def Dx:Lst (List Ag×List Ag×List Ag×List Ag×Int×Int×Int×Int×Int×Int×List YB×Int×Int×Int×Int×Unit) ((Bool×Unit)⊕(List Ag×List Ag×List Ag×Int×Int×Int×Int×Int×List YB×Unit)):=fun x6=>
 letI u1:=x6.2.2;letI u2:=u1.2.2;letI u3:=u2.2.2;letI u4:=u3.2.2;letI u5:=u4.2.2;letI u6:=u5.2.2;letI k1:=(x6.1,x6.2.1,u1.1,u1.2.1,u2.1,i64.wrap (u2.2.1+(1:Int)),u3.1,u3.2.1,u4.1,u4.2.1,u5.1,u5.2.1,u6.1,u6.2.1,u6.2.2.1,());letI k2:=idx u1.1 u2.2.1;Tree.val <|
 .br (decide (u2.2.1<(x6.2.2.1.length:Int))) (
 .ob k2 fun e7=>
 .br (and (e7.1==u5.2.1) (and (e7.2.1==u6.1) true)) (
 .ob k2 fun e8=>
 .br (and (e8.2.2.1==u6.2.1) (and (e8.2.2.2.1==u6.2.2.1) true)) (
 .br (decide (u2.1≥(x6.2.2.2.1.length:Int))) (
 .leaf (.inr (.inl (false,())))) (
 .ob (idx u1.2.1 u2.1) fun e9=>
 .ob k2 fun e10=>
 .ob (Oa (e9.2.2.2.2.1,()) (e10.2.2.2.2.1,())) fun r11=>
 .br (!r11.1) (
 .leaf (.inr (.inl (false,())))) (
 .leaf (.inl (x6.1,x6.2.1,u1.1,u1.2.1,i64.wrap (u2.1+1),i64.wrap (u2.2.1+1),u3.1,u3.2.1,u4.1,u4.2.1,u5.1,u5.2.1,u6.1,u6.2.1,u6.2.2.1,()))))) (
 .leaf (.inl k1))) (
 .leaf (.inl k1))) (
 .leaf (.inr (.inr (x6.1,x6.2.1,u1.2.1,u2.1,u3.1,u3.2.1,u4.1,u4.2.1,u5.1,()))))
def G3 (a0:YBs):Tree (Bool×Unit):=
 .ob (Abj a0) fun r1=>
 .br r1.1 (
 .leaf (true,())) (
 .ob (Fu a0) fun r2=>
 .ob (Vg r2.1 r2.2) fun r3=>
 .ob (H9 a0) fun r4=>
 .ob (Mi r4.1 r4.2.1 r4.2.2) fun r5=>
 .ob (Ay Dx (r2.1.1,r3.1,r4.1.1,r5.1,0,0,r2.2.1,r2.2.2.1,r2.2.2.2.1,r2.2.2.2.2.1,r2.2.2.2.2.2.1,r4.2.1.1,r4.2.1.2.1,r4.2.2.1,r4.2.2.2.1,())) fun o12=>
 .sm o12 (fun o13=>
 .leaf o13) (fun o14=>letI u1:=o14.2.2.2.2;letI u2:=u1.2.2;letI u3:=u2.2.2;letI k1:=(o14.1.length:Int);letI k2:=(o14.2.1.length:Int);letI k3:=(u1.1,u1.2.1,u2.1,u2.2.1,u3.1,());letI k4:=(k2==k1,());
 .ob (Fv (o14.1,())) fun r15=>
 .ob (Mj (o14.1,())) fun r16=>
 .br (!(r15.1==r16.1)) (
 .leaf (false,())) (
 .ob (Gm k3) fun r17=>
 .ob (Ib k3) fun r18=>
 .br (!(r17.1==r18.1)) (
 .leaf (false,())) (
 .br (o14.2.2.2.1 != (o14.2.2.1.length:Int)) (
 .leaf (false,())) (
 .br (decide (k2<k1)) (
 .leaf (false,())) (
 .chk (decide (0<=k1)) <|
 .chk (decide (k1<=k2)) <|
 .ob (Hb ((o14.2.1.take (k1).toNat).drop (0:Int).toNat,()) (o14.1,())) fun r19=>
 .br (!r19.1) (
 .leaf (false,())) (
 .ob (Kz k3) fun r20=>
 .ob (K1 k3) fun r21=>
 .br (!(decide (r20.1=r21.1))) (
 .leaf (false,())) (
 .ob (Fv (o14.1,())) fun r22=>
 .br (!r22.1) (
 .leaf k4) (
 .ob (Gm k3) fun r23=>
 .br (!r23.1) (
 .leaf k4) (
 .br (k1==90) (
 .leaf k4) (
 .br (k2==i64.wrap (k1+1)) (
 .ob (Fv (o14.2.1,())) fun r24=>
 .br r24.1 (
 .chk (decide (0<=k1)) <|
 .chk (decide (k1<=k2)) <|
 .chk (decide (k2<=k2)) <|
 .ob (Hb ((o14.2.1.take (k2).toNat).drop (k1).toNat,()) ([k3],())) fun r25=>
 .leaf r25) (
 .leaf (false,()))) (
 .leaf (false,())))))))))))))
def R0 a0:=(G3 a0).val
end
end Go.Proofs.YthccfdmiejmbaaaDoor

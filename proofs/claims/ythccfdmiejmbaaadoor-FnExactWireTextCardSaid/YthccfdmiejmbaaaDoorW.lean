/-
  What the functions of the seat answer, as plain terms (printed by a program, proved in the texts P); nothing is assumed.
-/
import Derived.Test.YthccfdmiejmbaaaDoorEv2
namespace Go.Proofs.YthccfdmiejmbaaaDoor
open Go.RowKit IntKind
set_option linter.unusedVariables false
set_option maxRecDepth 100000
set_option maxHeartbeats 4000000
noncomputable section
abbrev Lst (a b:Type):=a->Option (a⊕b)
abbrev YB:Type:=Int×Unit
abbrev YI:Type:=Int×Unit
abbrev YBs:Type:=List YB×Unit
abbrev Zi:Type:=ByteArray×Int×Unit
abbrev Bv:Type:=Int×Int×Unit
abbrev Ac6:Type:=Int×Int×Bool×Int×Unit
abbrev Ad9:Type:=List YB×Int×Int×Unit
abbrev Br:Type:=Int×Int×Int×Int×List YB×Unit
abbrev A0:Type:=Int×Int×List YB×List YB×Int×List YB×List YB×Int×Int×List YB×List YB×Unit
def Jt (a0:YBs) (a1:YI):Tree (YI):=
 letI k1:=i64.wrap (a1.1-(a0.1.length:Int)); .br (decide (k1<0)) (
 .leaf (-1,())) (
 .leaf (k1,()))
def Jz a0 a1:=(Jt a0 a1).val
def Kr (a0:Br) (a1:YI):Tree (YI):=
 .ob (Jz (a0.2.2.2.2.1,()) a1) fun r1=>
 .br (decide (r1.1<0)) (
 .leaf (-1,())) (
 .leaf r1)
def Lb a0 a1:=(Kr a0 a1).val
def Ks (a0:Bv):Tree (Bv):=
 .leaf a0
def H7 a0:=(Ks a0).val
def Ee:Lst (List YB×List YB×Int×Unit) (YBs):=fun x1=>
 letI u1:=x1.2.2;Tree.val <|
 .br (decide (u1.1<(x1.1.length:Int))) (
 .ob (idx x1.1 u1.1) fun e2=>
 .ob (idx x1.2.1 u1.1) fun e3=>
 let q4:=(x1.2.1.set (u1.1).toNat e2)
 .leaf (.inl (x1.1,q4,i64.wrap (u1.1+1),()))) (
 .leaf (.inr (x1.2.1,())))
def Ju (a0:YBs):Tree (YBs):=
 letI k1:=(a0.1.length:Int); .chk (decide (0<=k1)) <|
 .chk (decide (k1<=4294967296)) <|
 .chk (decide (k1=k1)) <|
 .ob (Bb Ee (a0.1,List.replicate (k1).toNat (0,()),0,())) fun o5=>
 .leaf o5
def J0 a0:=(Ju a0).val
def Kt (a0:Br):Tree (Br):=
 .ob (H7 (a0.1,a0.2.1,())) fun r1=>
 .ob (H7 (a0.2.2.1,a0.2.2.2.1,())) fun r2=>
 .ob (J0 (a0.2.2.2.2.1,())) fun r3=>
 .leaf (r1.1,r1.2.1,r2.1,r2.2.1,r3.1,())
def Gl a0:=(Kt a0).val
def O6 (a0 a1 a2:YI):Tree (Bool×Unit):=
 .br (decide (a0.1≥a1.1)) (
 .leaf (decide (a0.1<=a2.1),())) (
 .leaf (false,()))
def Cu a0 a1 a2:=(O6 a0 a1 a2).val
def Kv (a0:Bv):Tree (Bool×Unit):=
 .ob (Cu (a0.1,()) (0,()) (4294967295,())) fun r1=>
 .br r1.1 (
 .ob (Cu (a0.2.1,()) (0,()) (65535,())) fun r2=>
 .leaf r2) (
 .leaf (false,()))
def Gm a0:=(Kv a0).val
def Kw (a0:Br):Tree (Bool×Unit):=
 .ob (Gm (a0.1,a0.2.1,())) fun r1=>
 .br r1.1 (
 .ob (Gm (a0.2.2.1,a0.2.2.2.1,())) fun r2=>
 .br r2.1 (
 .leaf (decide ((a0.2.2.2.2.1.length:Int)<=200),())) (
 .leaf (false,()))) (
 .leaf (false,()))
def Lc a0:=(Kw a0).val
def Fd:Lst (List YB×Int×Int×Int×Int×Unit) (Int×Int×Int×Unit):=fun x1=>
 letI u1:=x1.2.2;Tree.val <|
 .br (decide (u1.2.2.1<u1.1)) (
 .ob (idx x1.1 (i64.wrap (x1.2.1+u1.2.2.1))) fun e2=>
 .leaf (.inl (x1.1,x1.2.1,u1.1,i64.wrap (i64.wrap (u1.2.1*256)+i64.wrap e2.1),i64.wrap (u1.2.2.1+1),()))) (
 .leaf (.inr (x1.2.1,u1.1,u1.2.1,())))
def O7 (a0:YBs) (a1 a2:YI):Tree (YI×YI×(Bool×Unit)):=
 .br (decide (a2.1<1)) (
 .leaf ((0,()),(0,()),(false,()))) (
 .br (decide (a2.1>6)) (
 .leaf ((0,()),(0,()),(false,()))) (
 .br (decide (a1.1<0)) (
 .leaf ((0,()),(0,()),(false,()))) (
 .br (decide (a1.1>i64.wrap ((a0.1.length:Int)-a2.1))) (
 .leaf ((0,()),(0,()),(false,()))) (
 .ob (Bb Fd (a0.1,a1.1,a2.1,0,0,())) fun o3=>
 .leaf ((o3.2.2.1,()),(i64.wrap (o3.1+o3.2.1),()),(true,()))))))
def He a0 a1 a2:=(O7 a0 a1 a2).val
def Kx (a0:YI):Tree (Bool×Unit):=
 .ob (Cu a0 (4,()) (8,())) fun r1=>
 .leaf r1
def Ld a0:=(Kx a0).val
def Ky (a0 a1:YI):Tree (Bool×Unit):=
 .br (a0.1==4) (
 .leaf (decide (a1.1<=40),())) (
 .br (a0.1==5) (
 .leaf (a1.1==12,())) (
 .br (a0.1==6) (
 .leaf (a1.1==12,())) (
 .leaf (a1.1==4,()))))
def Le a0 a1:=(Ky a0 a1).val
def Jv (a0:A0):Tree (Bool×Unit):=
 letI u1:=a0.2.2.2.2;letI u2:=u1.2.2.2;letI k1:=(a0.2.2.2.2.2.2.1.length:Int);letI k2:=(a0.2.2.2.2.2.1.length:Int);letI k3:=(a0.2.2.2.1.length:Int)==(12:Int);letI k4:=Cu (u1.1,()) ((0:Int),()) ((1000000:Int),());letI k5:=Cu (a0.2.1,()) ((1:Int),()) ((9:Int),());letI k6:=(a0.2.2.2.2.2.2.2.2.2.2.1.length:Int);letI k7:=(a0.2.2.2.2.2.2.2.2.2.1.length:Int);letI k8:=k1==(0:Int);.ob (Ld (a0.1,())) fun r1=>
 .br r1.1 (
 .br (a0.2.1==0) (
 .br ((a0.2.2.1.length:Int)==0) (
 .br k3 (
 .br (u1.1==0) (
 .br (k2==0) (
 .br k8 (
 .ob (Cu (u2.1,()) (0,()) (4294967295,())) fun r2=>
 .br r2.1 (
 .ob (Cu (u2.2.1,()) (0,()) (281474976710655,())) fun r3=>
 .br r3.1 (
 .ob (Le (a0.1,()) (k7,())) fun r4=>
 .br r4.1 (
 .leaf (k6==16,())) (
 .leaf (false,()))) (
 .leaf (false,()))) (
 .leaf (false,()))) (
 .leaf (false,()))) (
 .leaf (false,()))) (
 .leaf (false,()))) (
 .leaf (false,()))) (
 .leaf (false,()))) (
 .leaf (false,()))) (
 .br (u2.1 != 0) (
 .leaf (false,())) (
 .br (u2.2.1 != 0) (
 .leaf (false,())) (
 .br (k7 != 0) (
 .leaf (false,())) (
 .br (k6 != 0) (
 .leaf (false,())) (
 .br ((a0.2.2.1.length:Int) != 12) (
 .leaf (false,())) (
 .br (a0.1==1) (
 .ob k5 fun r5=>
 .br r5.1 (
 .br ((a0.2.2.2.1.length:Int)==0) (
 .br (u1.1==0) (
 .br (k2==0) (
 .leaf (k8,())) (
 .leaf (false,()))) (
 .leaf (false,()))) (
 .leaf (false,()))) (
 .leaf (false,()))) (
 .br (a0.1==2) (
 .br (a0.2.1==0) (
 .br k3 (
 .ob k4 fun r6=>
 .br r6.1 (
 .br (k2==16) (
 .leaf (k8,())) (
 .leaf (false,()))) (
 .leaf (false,()))) (
 .leaf (false,()))) (
 .leaf (false,()))) (
 .br (a0.1==3) (
 .ob k5 fun r7=>
 .br r7.1 (
 .br k3 (
 .ob k4 fun r8=>
 .br r8.1 (
 .br (k2==16) (
 .leaf (k1==16,())) (
 .leaf (false,()))) (
 .leaf (false,()))) (
 .leaf (false,()))) (
 .leaf (false,()))) (
 .leaf (false,()))))))))))
def J1 a0:=(Jv a0).val
def Gi:Lst (Int×List YB×Int×Unit) (YBs):=fun x1=>
 letI u1:=x1.2.2;letI k1:=(i64.wrap ((BitVec.ofInt i64.bits (Int.fdiv x1.1 (2^(min (i64.wrap ((8:Int)*u1.1)).toNat i64.bits))) &&& BitVec.ofInt i64.bits (255:Int)).toNat:Nat));Tree.val <|
 .br (decide (u1.1≥0)) (
 .chk (decide (0<=i64.wrap (8*u1.1))) <|
 .chk (decide (x1.2.1.length+[(u8.wrap k1,())].length<=4294967296)) <|
 .leaf (.inl (x1.1,x1.2.1++[(u8.wrap k1,())],i64.wrap (u1.1-1),()))) (
 .leaf (.inr (x1.2.1,())))
def O8 (a0:YBs) (a1 a2:YI):Tree (YBs):=
 letI k1:=([]:List YB)++a0.1; .chk (decide (([]:List YB).length+a0.1.length<=4294967296)) <|
 .br (decide (a2.1<1)) (
 .leaf (k1,())) (
 .br (decide (a2.1>6)) (
 .leaf (k1,())) (
 .ob (Bb Gi (a1.1,k1,i64.wrap (a2.1-1),())) fun o2=>
 .leaf o2))
def D4 a0 a1 a2:=(O8 a0 a1 a2).val
def Cr:Lst (List YB×Int×Unit) (YBs):=fun x2=>
 Tree.val <|
 .br (decide (x2.2.1<20)) (
 .chk (decide (x2.1.length+[((0:Int),())].length<=4294967296)) <|
 .leaf (.inl (x2.1++[((0:Int),())],i64.wrap (x2.2.1+1),()))) (
 .leaf (.inr (x2.1,())))
def Im (a0:A0):Tree (YBs):=
 letI u1:=a0.2.2;letI u2:=u1.2.2.2;letI u3:=u2.2.2.2;.ob (J1 a0) fun r1=>
 .br (!r1.1) (
 .leaf ([],())) (
 .br (a0.1==1) (
 .chk (decide ([(u8.wrap a0.1,())].length+[(u8.wrap a0.2.1,())].length<=4294967296)) <|
 .chk (decide (([(u8.wrap a0.1,())]++[(u8.wrap a0.2.1,())]).length+a0.2.2.1.length<=4294967296)) <|
 .ob (Bb Cr (([(u8.wrap a0.1,())]++[(u8.wrap a0.2.1,())])++u1.1,0,())) fun o3=>
 .leaf o3) (
 .br (a0.1==2) (
 .chk (decide ([(u8.wrap a0.1,())].length+a0.2.2.1.length<=4294967296)) <|
 .chk (decide (([(u8.wrap a0.1,())]++u1.1).length+a0.2.2.2.1.length<=4294967296)) <|
 .ob (D4 (([(u8.wrap a0.1,())]++u1.1)++u1.2.1,()) (u1.2.2.1,()) (4,())) fun r4=>
 .chk (decide (r4.1.length+a0.2.2.2.2.2.1.length<=4294967296)) <|
 .leaf (r4.1++u2.1,())) (
 .br (a0.1==3) (
 .chk (decide ([(u8.wrap a0.1,())].length+[(u8.wrap a0.2.1,())].length<=4294967296)) <|
 .chk (decide (([(u8.wrap a0.1,())]++[(u8.wrap a0.2.1,())]).length+a0.2.2.1.length<=4294967296)) <|
 .chk (decide ((([(u8.wrap a0.1,())]++[(u8.wrap a0.2.1,())])++u1.1).length+a0.2.2.2.1.length<=4294967296)) <|
 .ob (D4 ((([(u8.wrap a0.1,())]++[(u8.wrap a0.2.1,())])++u1.1)++u1.2.1,()) (u1.2.2.1,()) (4,())) fun r5=>
 .chk (decide (r5.1.length+a0.2.2.2.2.2.1.length<=4294967296)) <|
 .chk (decide ((r5.1++u2.1).length+a0.2.2.2.2.2.2.1.length<=4294967296)) <|
 .leaf ((r5.1++u2.1)++u2.2.1,())) (
 .chk (decide ([(u8.wrap a0.1,())].length+a0.2.2.2.1.length<=4294967296)) <|
 .ob (D4 ([(u8.wrap a0.1,())]++u1.2.1,()) (u2.2.2.1,()) (4,())) fun r6=>
 .ob (D4 r6 (u3.1,()) (6,())) fun r7=>
 .chk (decide (r7.1.length+a0.2.2.2.2.2.2.2.2.2.2.1.length<=4294967296)) <|
 .chk (decide ((r7.1++u3.2.2.1).length+a0.2.2.2.2.2.2.2.2.2.1.length<=4294967296)) <|
 .leaf ((r7.1++u3.2.2.1)++u3.2.1,())))))
def C6 a0:=(Im a0).val
def Ip (a0:YBs):Tree (A0×(Bool×Unit)):=
 letI k1:=(a0.1.length:Int);letI k6:=(a0.1.take (14:Int).toNat).drop (2:Int).toNat;letI k7:=(a0.1.take (13:Int).toNat).drop (1:Int).toNat;letI k8:=a0.1.take (k1).toNat;letI k10:=(a0.1.take (25:Int).toNat).drop (13:Int).toNat;letI k11:=(a0.1.take (26:Int).toNat).drop (14:Int).toNat;letI k12:=(a0.1.take (46:Int).toNat).drop (30:Int).toNat;letI k13:=(a0.1.take (39:Int).toNat).drop (23:Int).toNat;letI k14:=decide (([]:List YB).length+k6.length<=4294967296);letI k15:=decide (([]:List YB).length+k7.length<=4294967296);letI k16:=decide (k1<=k1);letI k17:=k8.drop (29:Int).toNat;letI k18:=k8.drop (46:Int).toNat;letI k19:=k8.drop (39:Int).toNat;letI k20:=decide ((14:Int)<=k1);letI k21:=decide ((13:Int)<=k1);letI k22:=decide ((46:Int)<=k1);letI k23:=decide ((39:Int)<=k1); .br (k1==0) (
 .leaf ((0,0,[],[],0,[],[],0,0,[],[],()),(false,()))) (
 .ob (idx a0.1 0) fun e1=>letI k9:=i64.wrap (e1.1);
 .br (k9==1) (
 .br (k1 != 34) (
 .leaf ((0,0,[],[],0,[],[],0,0,[],[],()),(false,()))) (
 .ob (idx a0.1 1) fun e2=>letI k5:=(k9,i64.wrap e2.1,([]:List YB)++k6,([]:List YB),(0:Int),([]:List YB),([]:List YB),(0:Int),(0:Int),([]:List YB),([]:List YB),());
 .chk k20 <|
 .chk k14 <|
 .ob (C6 k5) fun r3=>
 .br (!(decide ((Ch r3.1)=(Ch a0.1)))) (
 .leaf ((0,0,[],[],0,[],[],0,0,[],[],()),(false,()))) (
 .leaf (k5,(true,()))))) (
 .br (k9==2) (
 .br (k1 != 45) (
 .leaf ((0,0,[],[],0,[],[],0,0,[],[],()),(false,()))) (
 .chk k21 <|
 .chk k15 <|
 .chk (decide (25<=k1)) <|
 .chk (decide (([]:List YB).length+k10.length<=4294967296)) <|
 .ob (He a0 (25,()) (4,())) fun r4=>letI k3:=(k9,(0:Int),([]:List YB)++k7,([]:List YB)++k10,r4.1.1,([]:List YB)++k17,([]:List YB),(0:Int),(0:Int),([]:List YB),([]:List YB),());
 .chk (decide (29<=k1)) <|
 .chk k16 <|
 .chk (decide (([]:List YB).length+k17.length<=4294967296)) <|
 .ob (C6 k3) fun r5=>
 .br (!(decide ((Ch r5.1)=(Ch a0.1)))) (
 .leaf ((0,0,[],[],0,[],[],0,0,[],[],()),(false,()))) (
 .leaf (k3,(true,()))))) (
 .br (k9==3) (
 .br (k1 != 62) (
 .leaf ((0,0,[],[],0,[],[],0,0,[],[],()),(false,()))) (
 .ob (idx a0.1 1) fun e6=>
 .chk k20 <|
 .chk k14 <|
 .chk (decide (26<=k1)) <|
 .chk (decide (([]:List YB).length+k11.length<=4294967296)) <|
 .ob (He a0 (26,()) (4,())) fun r7=>letI k2:=(k9,i64.wrap e6.1,([]:List YB)++k6,([]:List YB)++k11,r7.1.1,([]:List YB)++k12,([]:List YB)++k18,(0:Int),(0:Int),([]:List YB),([]:List YB),());
 .chk k22 <|
 .chk (decide (([]:List YB).length+k12.length<=4294967296)) <|
 .chk k22 <|
 .chk k16 <|
 .chk (decide (([]:List YB).length+k18.length<=4294967296)) <|
 .ob (C6 k2) fun r8=>
 .br (!(decide ((Ch r8.1)=(Ch a0.1)))) (
 .leaf ((0,0,[],[],0,[],[],0,0,[],[],()),(false,()))) (
 .leaf (k2,(true,()))))) (
 .br (decide (k1<39)) (
 .leaf ((0,0,[],[],0,[],[],0,0,[],[],()),(false,()))) (
 .chk k21 <|
 .chk k15 <|
 .ob (He a0 (13,()) (4,())) fun r9=>
 .ob (He a0 (17,()) (6,())) fun r10=>letI k4:=(k9,(0:Int),([]:List YB),([]:List YB)++k7,(0:Int),([]:List YB),([]:List YB),r9.1.1,r10.1.1,([]:List YB)++k19,([]:List YB)++k13,());
 .chk k23 <|
 .chk (decide (([]:List YB).length+k13.length<=4294967296)) <|
 .chk k23 <|
 .chk k16 <|
 .chk (decide (([]:List YB).length+k19.length<=4294967296)) <|
 .ob (C6 k4) fun r11=>
 .br (!(decide ((Ch r11.1)=(Ch a0.1)))) (
 .leaf ((0,0,[],[],0,[],[],0,0,[],[],()),(false,()))) (
 .leaf (k4,(true,()))))))))
def Ix a0:=(Ip a0).val
def Gj (a0:YI):Tree (ByteArray×Unit):=
 .ob (Cu a0 (1,()) (8,())) fun r1=>
 .br (!r1.1) (
 .leaf (Ac [],())) (
 .ob (idx [(Ac [105,110,105,116],()),(Ac [99,111,111,107,105,101],()),(Ac [102,105,110,105,115,104],()),(Ac [100,97,116,97],()),(Ac [99,104,97,108,108,101,110,103,101],()),(Ac [114,101,115,112,111,110,115,101],()),(Ac [114,101,107,101,121],()),(Ac [114,101,107,101,121,97,99,107],())] (i64.wrap (a0.1-1))) fun e2=>
 .leaf e2)
def Eu a0:=(Gj a0).val
def Dk:Lst (Int×ByteArray×Unit) (ByteArray×Unit):=fun x1=>
 letI k1:=(i64.wrap ((48:Int)+(x1.1%(10:Int))));letI k2:=decide ((0:Int)<=x1.1); Tree.val <|
 .br (decide (x1.1>0)) (
 .chk k2 <|
 .chk (decide ((Ch [(u8.wrap k1,())]).size+x1.2.1.size<=4294967296)) <|
 .chk k2 <|
 .leaf (.inl (x1.1/(10:Int),Ch [(u8.wrap k1,())]++x1.2.1,()))) (
 .leaf (.inr (x1.2.1,())))
def Mr (a0:YI):Tree (ByteArray×Unit):=
 .br (a0.1==0) (
 .leaf (Ac [48],())) (
 .ob (Bb Dk (a0.1,Ac [],())) fun o2=>
 .leaf o2)
def Cb a0:=(Mr a0).val
def Iq (a0:Bv):Tree (ByteArray×Unit):=
 .ob (Gm a0) fun r1=>
 .br (!r1.1) (
 .leaf (Ac [],())) (
 .ob (Cb (Int.fdiv a0.1 (2^(min (24:Int).toNat i64.bits)),())) fun r2=>letI k3:=r2.1++(Ac [46]);
 .chk (decide (r2.1.size+(Ac [46]).size<=4294967296)) <|
 .ob (Cb (i64.wrap ((BitVec.ofInt i64.bits (Int.fdiv a0.1 (2^(min (16:Int).toNat i64.bits))) &&& BitVec.ofInt i64.bits 255).toNat:Nat),())) fun r3=>letI k1:=(k3++r3.1)++(Ac [46]);
 .chk (decide (k3.size+r3.1.size<=4294967296)) <|
 .chk (decide ((k3++r3.1).size+(Ac [46]).size<=4294967296)) <|
 .ob (Cb (i64.wrap ((BitVec.ofInt i64.bits (Int.fdiv a0.1 (2^(min (8:Int).toNat i64.bits))) &&& BitVec.ofInt i64.bits 255).toNat:Nat),())) fun r4=>letI k2:=(k1++r4.1)++(Ac [46]);
 .chk (decide (k1.size+r4.1.size<=4294967296)) <|
 .chk (decide ((k1++r4.1).size+(Ac [46]).size<=4294967296)) <|
 .ob (Cb (i64.wrap ((BitVec.ofInt i64.bits a0.1 &&& BitVec.ofInt i64.bits 255).toNat:Nat),())) fun r5=>letI k4:=(k2++r5.1)++(Ac [58]);
 .chk (decide (k2.size+r5.1.size<=4294967296)) <|
 .chk (decide ((k2++r5.1).size+(Ac [58]).size<=4294967296)) <|
 .ob (Cb (a0.2.1,())) fun r6=>
 .chk (decide (k4.size+r6.1.size<=4294967296)) <|
 .leaf (k4++r6.1,()))
def Dp a0:=(Iq a0).val
def Ir (a0:Br):Tree (ByteArray×Unit):=
 letI u1:=a0.2.2;letI k4:=Cb ((a0.2.2.2.2.1.length:Int),());.ob (Lc a0) fun r1=>
 .br (!r1.1) (
 .leaf (Ac [],())) (
 .ob (Ix (u1.2.2.1,())) fun r2=>
 .br r2.2.1 (
 .ob (Eu (r2.1.1,())) fun r3=>
 .ob (Dp (a0.1,a0.2.1,())) fun r4=>letI k5:=r4.1++(Ac [62]);
 .chk (decide (r4.1.size+(Ac [62]).size<=4294967296)) <|
 .ob (Dp (u1.1,u1.2.1,())) fun r5=>letI k2:=(k5++r5.1)++(Ac [32]);letI k6:=(k2++r3.1)++(Ac [32]);
 .chk (decide (k5.size+r5.1.size<=4294967296)) <|
 .chk (decide ((k5++r5.1).size+(Ac [32]).size<=4294967296)) <|
 .chk (decide (k2.size+r3.1.size<=4294967296)) <|
 .chk (decide ((k2++r3.1).size+(Ac [32]).size<=4294967296)) <|
 .ob k4 fun r6=>
 .chk (decide (k6.size+r6.1.size<=4294967296)) <|
 .leaf (k6++r6.1,())) (
 .ob (Dp (a0.1,a0.2.1,())) fun r7=>letI k3:=r7.1++(Ac [62]);
 .chk (decide (r7.1.size+(Ac [62]).size<=4294967296)) <|
 .ob (Dp (u1.1,u1.2.1,())) fun r8=>letI k1:=((k3++r8.1)++Ac [32])++(Ac [110,111,105,115,101]);
 .chk (decide (k3.size+r8.1.size<=4294967296)) <|
 .chk (decide ((k3++r8.1).size+(Ac [32]).size<=4294967296)) <|
 .chk (decide (((k3++r8.1)++Ac [32]).size+(Ac [110,111,105,115,101]).size<=4294967296)) <|
 .chk (decide (k1.size+(Ac [32]).size<=4294967296)) <|
 .ob k4 fun r9=>
 .chk (decide ((k1++Ac [32]).size+r9.1.size<=4294967296)) <|
 .leaf ((k1++Ac [32])++r9.1,())))
def Iy a0:=(Ir a0).val
def Kz (a0 a1 a2:YI):Tree (Bool×Unit):=
 .br (decide (a0.1≥a1.1)) (
 .leaf (decide (a0.1<=a2.1),())) (
 .leaf (false,()))
def B9 a0 a1 a2:=(Kz a0 a1 a2).val
def K1 (a0:Bv):Tree (Bool×Unit):=
 .ob (B9 (a0.1,()) (0,()) (4294967295,())) fun r1=>
 .br r1.1 (
 .ob (B9 (a0.2.1,()) (0,()) (65535,())) fun r2=>
 .leaf r2) (
 .leaf (false,()))
def Gn a0:=(K1 a0).val
def K2 (a0:Br):Tree (Bool×Unit):=
 .ob (Gn (a0.1,a0.2.1,())) fun r1=>
 .br r1.1 (
 .ob (Gn (a0.2.2.1,a0.2.2.2.1,())) fun r2=>
 .br r2.1 (
 .leaf (decide ((a0.2.2.2.2.1.length:Int)<=200),())) (
 .leaf (false,()))) (
 .leaf (false,()))
def Lf a0:=(K2 a0).val
def Mu (a0:YBs):Tree (YBs):=
 .chk (decide (([]:List YB).length+a0.1.length<=4294967296)) <|
 .leaf (([]:List YB)++a0.1,())
def M6 a0:=(Mu a0).val
def Mw (a0:YBs) (a1:YI):Tree (YBs×YBs):=
 letI k1:=if (a0.1.length:Int)<a1.1 then(a0.1.length:Int)else a1.1;letI k2:=(a0.1.length:Int); .chk (decide (0<=k1)) <|
 .chk (decide (k1<=k2)) <|
 .ob (M6 ((a0.1.take (k1).toNat).drop (0:Int).toNat,())) fun r1=>
 .chk (decide (0<=k1)) <|
 .chk (decide (k1<=k2)) <|
 .chk (decide (k2<=k2)) <|
 .leaf (r1,((a0.1.take (k2).toNat).drop (k1).toNat,()))
def Am a0 a1:=(Mw a0 a1).val
def Rd (a0:YBs) (a1 a2:YI):Tree (YBs×(Bool×Unit)):=
 letI k1:=(a0.1.take (i64.wrap (a1.1+a2.1)).toNat).drop (a1.1).toNat;letI k2:=(a0.1.length:Int);letI k3:=i64.wrap (a1.1+a2.1); .br (decide (a1.1<0)) (
 .leaf (([],()),(false,()))) (
 .br (decide (a2.1<0)) (
 .leaf (([],()),(false,()))) (
 .br (decide (a1.1>k2)) (
 .leaf (([],()),(false,()))) (
 .br (decide (a2.1>i64.wrap (k2-a1.1))) (
 .leaf (([],()),(false,()))) (
 .chk (decide (0<=a1.1)) <|
 .chk (decide (a1.1<=k3)) <|
 .chk (decide (k3<=k2)) <|
 .chk (decide (([]:List YB).length+k1.length<=4294967296)) <|
 .leaf ((([]:List YB)++k1,()),(true,()))))))
def Rj a0 a1 a2:=(Rd a0 a1 a2).val
def Fe:Lst (Int×Int×Int×List YB×Int×Int×Unit) (Int×Int×Int×Unit):=fun x2=>
 letI u1:=x2.2.2;letI u2:=u1.2.2;Tree.val <|
 .br (decide (u2.2.1<u2.1)) (
 .ob (idx u1.2.1 u2.2.1) fun e3=>
 .leaf (.inl (x2.1,x2.2.1,i64.wrap (i64.wrap (256*u1.1)+i64.wrap e3.1),u1.2.1,u2.1,i64.wrap (u2.2.1+1),()))) (
 .leaf (.inr (x2.1,x2.2.1,u1.1,())))
def O9 (a0:YBs) (a1 a2:YI):Tree (YI×YI×(Bool×Unit)):=
 .br (decide (a2.1<1)) (
 .leaf ((0,()),(0,()),(false,()))) (
 .br (decide (a2.1>6)) (
 .leaf ((0,()),(0,()),(false,()))) (
 .ob (Rj a0 a1 a2) fun r1=>
 .br (!r1.2.1) (
 .leaf ((0,()),(0,()),(false,()))) (
 .ob (Bb Fe (a1.1,a2.1,0,r1.1.1,(r1.1.1.length:Int),0,())) fun o4=>
 .leaf ((o4.2.2.1,()),(i64.wrap (o4.1+o4.2.1),()),(true,())))))
def Pa a0 a1 a2:=(O9 a0 a1 a2).val
def K3 (a0:YBs) (a1:YI):Tree (YI×YBs):=
 .ob (Am a0 a1) fun r1=>
 .ob (Pa r1.1 (0,()) a1) fun r2=>
 .leaf (r2.1,r1.2)
def Ba a0 a1:=(K3 a0 a1).val
def K5 (a0:YI):Tree (Bool×Unit):=
 .ob (B9 a0 (4,()) (8,())) fun r1=>
 .leaf r1
def H8 a0:=(K5 a0).val
def Oo (a0:YBs):Tree (Bool×Unit):=
 .leaf ((a0.1.length:Int)==12,())
def Dl a0:=(Oo a0).val
def K6 (a0 a1:YI):Tree (Bool×Unit):=
 .br (a0.1==4) (
 .leaf (decide (a1.1<=40),())) (
 .br (a0.1==5) (
 .leaf (a1.1==12,())) (
 .br (a0.1==6) (
 .leaf (a1.1==12,())) (
 .leaf (a1.1==4,()))))
def Lg a0 a1:=(K6 a0 a1).val
def Me (a0 a1:YBs):Tree (Bool×Unit):=
 .leaf (decide ((Ch a0.1)=(Ch a1.1)),())
def Ax a0 a1:=(Me a0 a1).val
def H2 (a0 a1:A0):Tree (Bool×Unit):=
 letI u1:=a0.2.2.2;letI u2:=u1.2.2.2;letI u3:=a1.2.2.2;letI u4:=u3.2.2.2;.br (a0.1==a1.1) (
 .br (a0.2.1==a1.2.1) (
 .br (u1.2.1==u3.2.1) (
 .br (u2.2.1==u4.2.1) (
 .br (u2.2.2.1==u4.2.2.1) (
 .ob (Ax (a0.2.2.1,()) (a1.2.2.1,())) fun r1=>
 .br r1.1 (
 .ob (Ax (u1.1,()) (u3.1,())) fun r2=>
 .br r2.1 (
 .ob (Ax (u1.2.2.1,()) (u3.2.2.1,())) fun r3=>
 .br r3.1 (
 .ob (Ax (u2.1,()) (u4.1,())) fun r4=>
 .br r4.1 (
 .ob (Ax (u2.2.2.2.1,()) (u4.2.2.2.1,())) fun r5=>
 .br r5.1 (
 .ob (Ax (u2.2.2.2.2.1,()) (u4.2.2.2.2.1,())) fun r6=>
 .leaf r6) (
 .leaf (false,()))) (
 .leaf (false,()))) (
 .leaf (false,()))) (
 .leaf (false,()))) (
 .leaf (false,()))) (
 .leaf (false,()))) (
 .leaf (false,()))) (
 .leaf (false,()))) (
 .leaf (false,()))) (
 .leaf (false,()))
def Db a0 a1:=(H2 a0 a1).val
def Jx (a0:A0):Tree (Bool×Unit):=
 letI u1:=a0.2.2;letI u2:=u1.2.2;letI u3:=u2.2.2.2;letI k1:=B9 (u2.1,()) ((0:Int),()) ((1000000:Int),());letI k2:=B9 (a0.2.1,()) ((1:Int),()) ((9:Int),());letI k3:=(a0.2.2.2.2.2.1.length:Int)==(16:Int);letI k4:=Dl (u1.2.1,());letI k5:=Dl (u1.1,());.br (a0.1==1) (
 .ob k2 fun r1=>
 .br r1.1 (
 .ob k5 fun r2=>
 .br r2.1 (
 .ob (Db a0 (a0.1,a0.2.1,u1.1,[],0,[],[],0,0,[],[],())) fun r3=>
 .leaf r3) (
 .leaf (false,()))) (
 .leaf (false,()))) (
 .br (a0.1==2) (
 .ob k5 fun r4=>
 .br r4.1 (
 .ob k4 fun r5=>
 .br r5.1 (
 .ob k1 fun r6=>
 .br r6.1 (
 .br k3 (
 .ob (Db a0 (a0.1,0,u1.1,u1.2.1,u2.1,u2.2.1,[],0,0,[],[],())) fun r7=>
 .leaf r7) (
 .leaf (false,()))) (
 .leaf (false,()))) (
 .leaf (false,()))) (
 .leaf (false,()))) (
 .br (a0.1==3) (
 .ob k2 fun r8=>
 .br r8.1 (
 .ob k5 fun r9=>
 .br r9.1 (
 .ob k4 fun r10=>
 .br r10.1 (
 .ob k1 fun r11=>
 .br r11.1 (
 .br k3 (
 .br ((a0.2.2.2.2.2.2.1.length:Int)==16) (
 .ob (Db a0 (a0.1,a0.2.1,u1.1,u1.2.1,u2.1,u2.2.1,u2.2.2.1,0,0,[],[],())) fun r12=>
 .leaf r12) (
 .leaf (false,()))) (
 .leaf (false,()))) (
 .leaf (false,()))) (
 .leaf (false,()))) (
 .leaf (false,()))) (
 .leaf (false,()))) (
 .ob (H8 (a0.1,())) fun r13=>
 .br r13.1 (
 .ob k4 fun r14=>
 .br r14.1 (
 .ob (B9 (u3.1,()) (0,()) (4294967295,())) fun r15=>
 .br r15.1 (
 .ob (B9 (u3.2.1,()) (0,()) (281474976710655,())) fun r16=>
 .br r16.1 (
 .br ((a0.2.2.2.2.2.2.2.2.2.2.1.length:Int)==16) (
 .ob (Lg (a0.1,()) ((a0.2.2.2.2.2.2.2.2.2.1.length:Int),())) fun r17=>
 .br r17.1 (
 .ob (Db a0 (a0.1,0,[],u1.2.1,0,[],[],u3.1,u3.2.1,u3.2.2.1,u3.2.2.2.1,())) fun r18=>
 .leaf r18) (
 .leaf (false,()))) (
 .leaf (false,()))) (
 .leaf (false,()))) (
 .leaf (false,()))) (
 .leaf (false,()))) (
 .leaf (false,())))))
def Bj a0:=(Jx a0).val
def Do:Lst (List YB×List YBs×Int×Int×Unit) (YBs):=fun x1=>
 letI u1:=x1.2.2;Tree.val <|
 .br (decide (u1.2.1<u1.1)) (
 .ob (idx x1.2.1 u1.2.1) fun e2=>
 .chk (decide (x1.1.length+e2.1.length<=4294967296)) <|
 .leaf (.inl (x1.1++e2.1,x1.2.1,u1.1,i64.wrap (u1.2.1+1),()))) (
 .leaf (.inr (x1.1,())))
def K7 (a0:List YBs×Unit):Tree (YBs):=
 .ob (Bb Do ([],a0.1,(a0.1.length:Int),0,())) fun o3=>
 .leaf o3
def Ff a0:=(K7 a0).val
def Qk:Lst (Int×List YB×Int×Unit) (YBs):=fun x1=>
 letI u1:=x1.2.2;letI k1:=(i64.wrap ((BitVec.ofInt i64.bits (Int.fdiv x1.1 (2^(min (i64.wrap ((8:Int)*u1.1)).toNat i64.bits))) &&& BitVec.ofInt i64.bits (255:Int)).toNat:Nat));Tree.val <|
 .br (decide (u1.1≥0)) (
 .chk (decide (0<=i64.wrap (8*u1.1))) <|
 .chk (decide (x1.2.1.length+[(u8.wrap k1,())].length<=4294967296)) <|
 .leaf (.inl (x1.1,x1.2.1++[(u8.wrap k1,())],i64.wrap (u1.1-1),()))) (
 .leaf (.inr (x1.2.1,())))
def Tz (a0:YBs) (a1 a2:YI):Tree (YBs):=
 letI k1:=([]:List YB)++a0.1; .chk (decide (([]:List YB).length+a0.1.length<=4294967296)) <|
 .br (decide (a2.1<1)) (
 .leaf (k1,())) (
 .br (decide (a2.1>6)) (
 .leaf (k1,())) (
 .ob (Bb Qk (a1.1,k1,i64.wrap (a2.1-1),())) fun o2=>
 .leaf o2))
def Ev a0 a1 a2:=(Tz a0 a1 a2).val
def Is (a0:A0):Tree (YBs):=
 letI u1:=a0.2.2;letI u2:=u1.2.2;letI u3:=u2.2.2.2;letI k1:=Ev (([]:List YB),()) (u2.1,()) ((4:Int),());.ob (Bj a0) fun r1=>
 .br (!r1.1) (
 .leaf ([],())) (
 .br (a0.1==1) (
 .ob (Ff ([([(u8.wrap a0.1,())],()),([(u8.wrap a0.2.1,())],()),(u1.1,()),(List.replicate (20:Int).toNat (0,()),())],())) fun r2=>
 .leaf r2) (
 .br (a0.1==2) (
 .ob k1 fun r3=>
 .ob (Ff ([([(u8.wrap a0.1,())],()),(u1.1,()),(u1.2.1,()),r3,(u2.2.1,())],())) fun r4=>
 .leaf r4) (
 .br (a0.1==3) (
 .ob k1 fun r5=>
 .ob (Ff ([([(u8.wrap a0.1,())],()),([(u8.wrap a0.2.1,())],()),(u1.1,()),(u1.2.1,()),r5,(u2.2.1,()),(u2.2.2.1,())],())) fun r6=>
 .leaf r6) (
 .ob (Ev ([],()) (u3.1,()) (4,())) fun r7=>
 .ob (Ev ([],()) (u3.2.1,()) (6,())) fun r8=>
 .ob (Ff ([([(u8.wrap a0.1,())],()),(u1.2.1,()),r7,r8,(u3.2.2.2.1,()),(u3.2.2.1,())],())) fun r9=>
 .leaf r9))))
def Bf a0:=(Is a0).val
def It (a0:YBs):Tree (A0×(Bool×Unit)):=
 .ob (Ba a0 (1,())) fun r1=>letI k1:=(r1.1.1,(0:Int),([]:List YB),([]:List YB),(0:Int),([]:List YB),([]:List YB),(0:Int),(0:Int),([]:List YB),([]:List YB),());letI k12:=r1.1.1==(3:Int);letI k13:=Am r1.2 ((12:Int),());letI k14:=Ba r1.2 ((1:Int),());
 .br (r1.1.1==1) (
 .ob k14 fun r2=>
 .ob (Am r2.2 (12,())) fun r3=>letI k2:=(r1.1.1,r2.1.1,r3.1.1,([]:List YB),(0:Int),([]:List YB),([]:List YB),(0:Int),(0:Int),([]:List YB),([]:List YB),());
 .ob (Bj k2) fun r4=>
 .br (!r4.1) (
 .leaf ((0,0,[],[],0,[],[],0,0,[],[],()),(false,()))) (
 .ob (Bf k2) fun r5=>
 .ob (Ax r5 a0) fun r6=>
 .br (!r6.1) (
 .leaf ((0,0,[],[],0,[],[],0,0,[],[],()),(false,()))) (
 .leaf (k2,(true,()))))) (
 .br (r1.1.1==2) (
 .br k12 (
 .ob k14 fun r7=>
 .ob (Am r7.2 (12,())) fun r8=>
 .ob (Am r8.2 (12,())) fun r9=>
 .ob (Ba r9.2 (4,())) fun r10=>
 .ob (Am r10.2 (16,())) fun r11=>letI k7:=(r1.1.1,r7.1.1,r8.1.1,r9.1.1,r10.1.1,r11.1.1,([]:List YB),(0:Int),(0:Int),([]:List YB),([]:List YB),());
 .br k12 (
 .ob (Am r11.2 (16,())) fun r12=>letI k11:=(r1.1.1,r7.1.1,r8.1.1,r9.1.1,r10.1.1,r11.1.1,r12.1.1,(0:Int),(0:Int),([]:List YB),([]:List YB),());
 .ob (Bj k11) fun r13=>
 .br (!r13.1) (
 .leaf ((0,0,[],[],0,[],[],0,0,[],[],()),(false,()))) (
 .ob (Bf k11) fun r14=>
 .ob (Ax r14 a0) fun r15=>
 .br (!r15.1) (
 .leaf ((0,0,[],[],0,[],[],0,0,[],[],()),(false,()))) (
 .leaf (k11,(true,()))))) (
 .ob (Bj k7) fun r16=>
 .br (!r16.1) (
 .leaf ((0,0,[],[],0,[],[],0,0,[],[],()),(false,()))) (
 .ob (Bf k7) fun r17=>
 .ob (Ax r17 a0) fun r18=>
 .br (!r18.1) (
 .leaf ((0,0,[],[],0,[],[],0,0,[],[],()),(false,()))) (
 .leaf (k7,(true,())))))) (
 .ob k13 fun r19=>
 .ob (Am r19.2 (12,())) fun r20=>
 .ob (Ba r20.2 (4,())) fun r21=>
 .ob (Am r21.2 (16,())) fun r22=>letI k3:=(r1.1.1,(0:Int),r19.1.1,r20.1.1,r21.1.1,r22.1.1,([]:List YB),(0:Int),(0:Int),([]:List YB),([]:List YB),());
 .br k12 (
 .ob (Am r22.2 (16,())) fun r23=>letI k8:=(r1.1.1,(0:Int),r19.1.1,r20.1.1,r21.1.1,r22.1.1,r23.1.1,(0:Int),(0:Int),([]:List YB),([]:List YB),());
 .ob (Bj k8) fun r24=>
 .br (!r24.1) (
 .leaf ((0,0,[],[],0,[],[],0,0,[],[],()),(false,()))) (
 .ob (Bf k8) fun r25=>
 .ob (Ax r25 a0) fun r26=>
 .br (!r26.1) (
 .leaf ((0,0,[],[],0,[],[],0,0,[],[],()),(false,()))) (
 .leaf (k8,(true,()))))) (
 .ob (Bj k3) fun r27=>
 .br (!r27.1) (
 .leaf ((0,0,[],[],0,[],[],0,0,[],[],()),(false,()))) (
 .ob (Bf k3) fun r28=>
 .ob (Ax r28 a0) fun r29=>
 .br (!r29.1) (
 .leaf ((0,0,[],[],0,[],[],0,0,[],[],()),(false,()))) (
 .leaf (k3,(true,()))))))) (
 .br k12 (
 .br k12 (
 .ob k14 fun r30=>
 .ob (Am r30.2 (12,())) fun r31=>
 .ob (Am r31.2 (12,())) fun r32=>
 .ob (Ba r32.2 (4,())) fun r33=>
 .ob (Am r33.2 (16,())) fun r34=>letI k4:=(r1.1.1,r30.1.1,r31.1.1,r32.1.1,r33.1.1,r34.1.1,([]:List YB),(0:Int),(0:Int),([]:List YB),([]:List YB),());
 .br k12 (
 .ob (Am r34.2 (16,())) fun r35=>letI k9:=(r1.1.1,r30.1.1,r31.1.1,r32.1.1,r33.1.1,r34.1.1,r35.1.1,(0:Int),(0:Int),([]:List YB),([]:List YB),());
 .ob (Bj k9) fun r36=>
 .br (!r36.1) (
 .leaf ((0,0,[],[],0,[],[],0,0,[],[],()),(false,()))) (
 .ob (Bf k9) fun r37=>
 .ob (Ax r37 a0) fun r38=>
 .br (!r38.1) (
 .leaf ((0,0,[],[],0,[],[],0,0,[],[],()),(false,()))) (
 .leaf (k9,(true,()))))) (
 .ob (Bj k4) fun r39=>
 .br (!r39.1) (
 .leaf ((0,0,[],[],0,[],[],0,0,[],[],()),(false,()))) (
 .ob (Bf k4) fun r40=>
 .ob (Ax r40 a0) fun r41=>
 .br (!r41.1) (
 .leaf ((0,0,[],[],0,[],[],0,0,[],[],()),(false,()))) (
 .leaf (k4,(true,())))))) (
 .ob k13 fun r42=>
 .ob (Am r42.2 (12,())) fun r43=>
 .ob (Ba r43.2 (4,())) fun r44=>
 .ob (Am r44.2 (16,())) fun r45=>letI k5:=(r1.1.1,(0:Int),r42.1.1,r43.1.1,r44.1.1,r45.1.1,([]:List YB),(0:Int),(0:Int),([]:List YB),([]:List YB),());
 .br k12 (
 .ob (Am r45.2 (16,())) fun r46=>letI k10:=(r1.1.1,(0:Int),r42.1.1,r43.1.1,r44.1.1,r45.1.1,r46.1.1,(0:Int),(0:Int),([]:List YB),([]:List YB),());
 .ob (Bj k10) fun r47=>
 .br (!r47.1) (
 .leaf ((0,0,[],[],0,[],[],0,0,[],[],()),(false,()))) (
 .ob (Bf k10) fun r48=>
 .ob (Ax r48 a0) fun r49=>
 .br (!r49.1) (
 .leaf ((0,0,[],[],0,[],[],0,0,[],[],()),(false,()))) (
 .leaf (k10,(true,()))))) (
 .ob (Bj k5) fun r50=>
 .br (!r50.1) (
 .leaf ((0,0,[],[],0,[],[],0,0,[],[],()),(false,()))) (
 .ob (Bf k5) fun r51=>
 .ob (Ax r51 a0) fun r52=>
 .br (!r52.1) (
 .leaf ((0,0,[],[],0,[],[],0,0,[],[],()),(false,()))) (
 .leaf (k5,(true,()))))))) (
 .ob (H8 r1.1) fun r53=>
 .br r53.1 (
 .ob k13 fun r54=>
 .ob (Ba r54.2 (4,())) fun r55=>
 .ob (Ba r55.2 (6,())) fun r56=>
 .ob (Am r56.2 (16,())) fun r57=>
 .ob (Am r57.2 (41,())) fun r58=>letI k6:=(r1.1.1,(0:Int),([]:List YB),r54.1.1,(0:Int),([]:List YB),([]:List YB),r55.1.1,r56.1.1,r58.1.1,r57.1.1,());
 .ob (Bj k6) fun r59=>
 .br (!r59.1) (
 .leaf ((0,0,[],[],0,[],[],0,0,[],[],()),(false,()))) (
 .ob (Bf k6) fun r60=>
 .ob (Ax r60 a0) fun r61=>
 .br (!r61.1) (
 .leaf ((0,0,[],[],0,[],[],0,0,[],[],()),(false,()))) (
 .leaf (k6,(true,()))))) (
 .ob (Bj k1) fun r62=>
 .br (!r62.1) (
 .leaf ((0,0,[],[],0,[],[],0,0,[],[],()),(false,()))) (
 .ob (Bf k1) fun r63=>
 .ob (Ax r63 a0) fun r64=>
 .br (!r64.1) (
 .leaf ((0,0,[],[],0,[],[],0,0,[],[],()),(false,()))) (
 .leaf (k1,(true,()))))))))
def Iz a0:=(It a0).val
def Iu (a0:YI):Tree (ByteArray×Unit):=
 .ob (B9 a0 (1,()) (8,())) fun r1=>
 .br (!r1.1) (
 .leaf (Ac [],())) (
 .ob (idx [(Ac [105,110,105,116],()),(Ac [99,111,111,107,105,101],()),(Ac [102,105,110,105,115,104],()),(Ac [100,97,116,97],()),(Ac [99,104,97,108,108,101,110,103,101],()),(Ac [114,101,115,112,111,110,115,101],()),(Ac [114,101,107,101,121],()),(Ac [114,101,107,101,121,97,99,107],())] (i64.wrap (a0.1-1))) fun e2=>
 .leaf e2)
def I0 a0:=(Iu a0).val
def Ka (a0:YI):Tree (ByteArray×Unit):=.leaf (Dm a0.1,())
def Dq a0:=(Ka a0).val
def Hd (a0:List (ByteArray×Unit)×Unit) (a1:ByteArray×Unit):Tree (ByteArray×Unit):=
 .chk (decide (List.length a0.1+(Ep a0.1 a1.1).length<=4294967296)) <|
 .leaf (⟨(Ep a0.1 a1.1).toArray⟩,())
def Hf a0 a1:=(Hd a0 a1).val
def Bx:Lst ((List (ByteArray×Unit))×Int×Int×Int×Unit) ((List (ByteArray×Unit))×Int×Int×Unit):=fun x2=>
 letI u1:=x2.2.2;letI k1:=i64.wrap ((8:Int)*x2.2.1);Tree.val <|
 .br (decide (x2.2.1≥0)) (
 .chk (decide (0<=k1)) <|
 .ob (Dq (i64.wrap ((BitVec.ofInt i64.bits (Int.fdiv u1.1 (2^(min (k1).toNat i64.bits))) &&& BitVec.ofInt i64.bits 255).toNat:Nat),())) fun r3=>
 .chk (decide (x2.1.length+[r3].length<=4294967296)) <|
 .leaf (.inl (x2.1++[r3],i64.wrap (x2.2.1-1),u1.1,u1.2.1,()))) (
 .leaf (.inr (x2.1,u1.1,u1.2.1,())))
def Iv (a0:Bv):Tree (ByteArray×Unit):=
 .ob (Gn a0) fun r1=>
 .br (!r1.1) (
 .leaf (Ac [],())) (
 .ob (Bb Bx (([]:List (ByteArray×Unit)),3,a0.1,a0.2.1,())) fun o4=>
 .ob (Hf (o4.1,()) (Ac [46],())) fun r5=>
 .chk (decide (r5.1.size+(Ac [58]).size<=4294967296)) <|
 .ob (Dq (o4.2.2.1,())) fun r6=>
 .chk (decide ((r5.1++Ac [58]).size+r6.1.size<=4294967296)) <|
 .leaf ((r5.1++Ac [58])++r6.1,()))
def Dr a0:=(Iv a0).val
def Iw (a0:Br):Tree (ByteArray×Unit):=
 letI u1:=a0.2.2;letI k4:=Dq ((a0.2.2.2.2.1.length:Int),());.ob (Lf a0) fun r1=>
 .br (!r1.1) (
 .leaf (Ac [],())) (
 .ob (Iz (u1.2.2.1,())) fun r2=>
 .br r2.2.1 (
 .ob (I0 (r2.1.1,())) fun r3=>
 .ob (Dr (a0.1,a0.2.1,())) fun r4=>letI k5:=r4.1++(Ac [62]);
 .chk (decide (r4.1.size+(Ac [62]).size<=4294967296)) <|
 .ob (Dr (u1.1,u1.2.1,())) fun r5=>letI k2:=(k5++r5.1)++(Ac [32]);letI k6:=(k2++r3.1)++(Ac [32]);
 .chk (decide (k5.size+r5.1.size<=4294967296)) <|
 .chk (decide ((k5++r5.1).size+(Ac [32]).size<=4294967296)) <|
 .chk (decide (k2.size+r3.1.size<=4294967296)) <|
 .chk (decide ((k2++r3.1).size+(Ac [32]).size<=4294967296)) <|
 .ob k4 fun r6=>
 .chk (decide (k6.size+r6.1.size<=4294967296)) <|
 .leaf (k6++r6.1,())) (
 .ob (Dr (a0.1,a0.2.1,())) fun r7=>letI k3:=r7.1++(Ac [62]);
 .chk (decide (r7.1.size+(Ac [62]).size<=4294967296)) <|
 .ob (Dr (u1.1,u1.2.1,())) fun r8=>letI k1:=((k3++r8.1)++Ac [32])++(Ac [110,111,105,115,101]);
 .chk (decide (k3.size+r8.1.size<=4294967296)) <|
 .chk (decide ((k3++r8.1).size+(Ac [32]).size<=4294967296)) <|
 .chk (decide (((k3++r8.1)++Ac [32]).size+(Ac [110,111,105,115,101]).size<=4294967296)) <|
 .chk (decide (k1.size+(Ac [32]).size<=4294967296)) <|
 .ob k4 fun r9=>
 .chk (decide ((k1++Ac [32]).size+r9.1.size<=4294967296)) <|
 .leaf ((k1++Ac [32])++r9.1,())))
def I1 a0:=(Iw a0).val
def K8 (a0 a1:Bv):Tree (Bool×Unit):=
 .br (a0.1 != a1.1) (
 .leaf (false,())) (
 .br (a0.2.1 != a1.2.1) (
 .leaf (false,())) (
 .leaf (true,())))
def H9 a0 a1:=(K8 a0 a1).val
def Eg:Lst (List YB×List YB×Int×Unit) ((Bool×Unit)⊕(Unit)):=fun x1=>
 Tree.val <|
 .br (decide (x1.2.2.1<(x1.1.length:Int))) (
 .ob (idx x1.1 x1.2.2.1) fun e2=>
 .ob (idx x1.2.1 x1.2.2.1) fun e3=>
 .br (e2.1 != e3.1) (
 .leaf (.inr (.inl (false,())))) (
 .leaf (.inl (x1.1,x1.2.1,i64.wrap (x1.2.2.1+1),())))) (
 .leaf (.inr (.inr ())))
def Jy (a0 a1:YBs):Tree (Bool×Unit):=
 .br ((a0.1.length:Int) != (a1.1.length:Int)) (
 .leaf (false,())) (
 .ob (Bb Eg (a0.1,a1.1,0,())) fun o4=>
 .sm o4 (fun o5=>
 .leaf o5) (fun o6=>
 .leaf (true,())))
def J2 a0 a1:=(Jy a0 a1).val
def K9 (a0 a1:Br):Tree (Bool×Unit):=
 .ob (H9 (a0.1,a0.2.1,()) (a1.1,a1.2.1,())) fun r1=>
 .br (!r1.1) (
 .leaf (false,())) (
 .ob (H9 (a0.2.2.1,a0.2.2.2.1,()) (a1.2.2.1,a1.2.2.2.1,())) fun r2=>
 .br (!r2.1) (
 .leaf (false,())) (
 .ob (J2 (a0.2.2.2.2.1,()) (a1.2.2.2.2.1,())) fun r3=>
 .br (!r3.1) (
 .leaf (false,())) (
 .leaf (true,()))))
def Lh a0 a1:=(K9 a0 a1).val
def Ck (a0:Br):Tree (Bool×Unit):=
 .ob (Lb a0 (1048576,())) fun r1=>
 .br (decide (r1.1<0)) (
 .leaf (true,())) (
 .ob (Gl a0) fun r2=>
 .ob (Iy r2) fun r3=>
 .ob (Gl a0) fun r4=>
 .ob (I1 r4) fun r5=>
 .br (!(decide (r5.1=r3.1))) (
 .leaf (false,())) (
 .ob (Gl a0) fun r6=>
 .ob (Lh r4 r6) fun r7=>
 .br (!r7.1) (
 .leaf (false,())) (
 .leaf (true,()))))
def Hb a0:=(Ck a0).val
end
end Go.Proofs.YthccfdmiejmbaaaDoor

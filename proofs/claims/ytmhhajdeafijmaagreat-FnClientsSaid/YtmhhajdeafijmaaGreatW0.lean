/-
  What the functions of the seat answer, as plain terms (printed by a program, proved in the texts P); nothing is assumed.
-/
import Derived.Test.YtmhhajdeafijmaaGreatEv2
namespace Go.Proofs.YtmhhajdeafijmaaGreat
open Go.RowKit IntKind
set_option linter.unusedVariables false
set_option maxRecDepth 100000
set_option maxHeartbeats 4000000
noncomputable section
abbrev YB:Type:=Int×Unit
abbrev YI:Type:=Int×Unit
abbrev YBs:Type:=List YB×Unit
abbrev A6s:Type:=ByteArray×Int×Unit
abbrev Hk:Type:=Int×Int×Unit
abbrev Baw:Type:=(List YB)×Int×Unit
abbrev Bs:Type:=Int×(List YI)×Unit
abbrev Bb6:Type:=Int×Int×Bool×Int×Unit
abbrev B0:Type:=Bool×Int×Int×Int×Unit
abbrev Au:Type:=(List YB)×Int×Int×Unit
abbrev Ba3:Type:=Int×Int×Int×Int×Unit
abbrev Ja:Type:=(List YI)×(List YB)×Int×Unit
abbrev Bax:Type:=Int×Int×(List YB)×Int×Unit
abbrev YEp:Type:=Int×(List YB)×Int×Int×(List YI)×Unit
abbrev Bd2:Type:=Int×Int×(List Bax)×Unit
abbrev Ah:Type:=Int×Int×Int×(List YB)×(List YB)×Int×Int×(List YB)×(List YB)×Int×Int×Int×Unit
abbrev Ab:Type:=Int×Int×(List YB)×(List YB)×Int×(List YB)×(List YB)×Int×Int×(List YB)×(List YB)×Unit
abbrev Bd4:Type:=Int×Int×Int×Int×(List YB)×(List YB)×Int×(List YB)×(List YB)×Int×Int×(List YB)×(List YB)×Unit
abbrev Ai:Type:=Int×(List YB)×Int×(List YB)×Int×Int×(List YI)×Int×(List YB)×Int×Int×(List YI)×Bool×Int×(List YB)×Unit
abbrev Bay:Type:=Int×(List YB)×(List YB)×Int×(List YB)×Int×(List YB)×Int×Int×(List YI)×Int×(List YB)×Int×Int×(List YI)×Bool×Int×(List YB)×Int×Int×(List Bax)×Int×Int×Bool×Unit
abbrev Bd5:Type:=Int×(List Bay)×Unit
abbrev Bd1:Type:=(List YBs)×(List YB)×(List YB)×Int×Int×(List Bay)×(List Ba3)×Unit
abbrev Ac:Type:=Int×(List YB)×Int×Int×Int×(List YB)×Int×Int×(List YB)×(List YB)×Int×(List YB)×(List YB)×Int×Int×(List YB)×(List YB)×Int×(List YB)×Int×(List YB)×Int×Int×(List YI)×Int×(List YB)×Int×Int×(List YI)×Bool×Int×(List YB)×Bool×Int×Int×Int×Bool×Int×Int×Int×Int×Unit
def A24 (a0:YBs):Tree ((Bool×Unit)):=
 .leaf ((decide ((a0.1.length:Int)>(1048576:Int))),())
def A25 (a0:YBs):Option ((Bool×Unit)):=(A24 a0).val
def Q5 (x1:Au):Option (Au⊕(Baw)):=
 Tree.val (α:=Au⊕(Baw)) <|
 .br (decide (x1.2.2.1<(x1.1.length:Int))) (
 .br (decide (x1.2.2.1<(4000:Int))) (
 .ob (idx x1.1 x1.2.2.1) fun e2=>
 .leaf (.inl (x1.1,(i64.wrap ((BitVec.ofInt (i64.bits) ((i64.wrap ((i64.wrap ((i64.wrap (x1.2.1*(137:Int)))+(i64.wrap (e2.1))))+(11:Int)))) &&& BitVec.ofInt (i64.bits) ((1073741823:Int))).toNat:Nat)),(i64.wrap (x1.2.2.1+(1:Int))),()))) (
 .leaf (.inr (x1.1,x1.2.1,())))) (
 .leaf (.inr (x1.1,x1.2.1,())))
def Aj2 (a0:YBs):Tree (Au):=
 .ob (A1 Q5 (a0.1,(i64.wrap ((127812:Int)+(a0.1.length:Int))),(0:Int),())) fun o3=>
 .leaf (o3.1,(0:Int),o3.2.1,())
def Aj3 (a0:YBs):Option (Au):=(Aj2 a0).val
def Afg (a0:Au):Tree (YI×Au):=
 letI u1:=a0.2.2;.br (decide (a0.2.1<(a0.1.length:Int))) (
 .ob (idx a0.1 a0.2.1) fun e1=>
 .leaf (((i64.wrap ((BitVec.ofInt (i64.bits) ((i64.wrap ((i64.wrap ((BitVec.ofInt (i64.bits) ((i64.wrap ((BitVec.ofInt (i64.bits) ((Int.fdiv (i64.wrap ((i64.wrap (u1.1*(6364136223846793005:Int)))+(1442695040888963407:Int))) (2^(min ((33:Int)).toNat i64.bits)))) ^^^ BitVec.ofInt (i64.bits) ((Int.fdiv (i64.wrap ((i64.wrap (u1.1*(6364136223846793005:Int)))+(1442695040888963407:Int))) (2^(min ((47:Int)).toNat i64.bits))))).toNat:Nat))) &&& BitVec.ofInt (i64.bits) ((255:Int))).toNat:Nat))+(i64.wrap (e1.1))))) &&& BitVec.ofInt (i64.bits) ((255:Int))).toNat:Nat)),()),(a0.1,(i64.wrap (a0.2.1+(1:Int))),(i64.wrap ((i64.wrap (u1.1*(6364136223846793005:Int)))+(1442695040888963407:Int))),()))) (
 .leaf (((i64.wrap ((BitVec.ofInt (i64.bits) ((i64.wrap ((BitVec.ofInt (i64.bits) ((Int.fdiv (i64.wrap ((i64.wrap (u1.1*(6364136223846793005:Int)))+(1442695040888963407:Int))) (2^(min ((33:Int)).toNat i64.bits)))) ^^^ BitVec.ofInt (i64.bits) ((Int.fdiv (i64.wrap ((i64.wrap (u1.1*(6364136223846793005:Int)))+(1442695040888963407:Int))) (2^(min ((47:Int)).toNat i64.bits))))).toNat:Nat))) &&& BitVec.ofInt (i64.bits) ((255:Int))).toNat:Nat)),()),(a0.1,a0.2.1,(i64.wrap ((i64.wrap (u1.1*(6364136223846793005:Int)))+(1442695040888963407:Int))),())))
def Gc (a0:Au):Option (YI×Au):=(Afg a0).val
def Abw (a0:Au) (a1:YI):Tree (YI×Au):=
 .br (decide (a1.1≤(0:Int))) (
 .leaf (((0:Int),()),a0)) (
 .br (decide (a1.1≤(256:Int))) (
 .ob (Gc a0) fun r1=>
 .chk (decide ((0:Int)<a1.1)) <|
 .chk (decide ((0:Int)≤r1.1.1)) <|
 .leaf (((r1.1.1%a1.1),()),(a0.1,r1.2.2.1,r1.2.2.2.1,()))) (
 .ob (Gc a0) fun r2=>
 .ob (Gc (a0.1,r2.2.2.1,r2.2.2.2.1,())) fun r3=>
 .ob (Gc (a0.1,r3.2.2.1,r3.2.2.2.1,())) fun r4=>
 .chk (decide ((0:Int)<a1.1)) <|
 .chk (decide ((0:Int)≤(i64.wrap ((i64.wrap ((i64.wrap (r2.1.1*(65536:Int)))+(i64.wrap (r3.1.1*(256:Int)))))+r4.1.1)))) <|
 .leaf ((((i64.wrap ((i64.wrap ((i64.wrap (r2.1.1*(65536:Int)))+(i64.wrap (r3.1.1*(256:Int)))))+r4.1.1))%a1.1),()),(a0.1,r4.2.2.1,r4.2.2.2.1,()))))
def A7 (a0:Au) (a1:YI):Option (YI×Au):=(Abw a0 a1).val
def Jr (x1:Int×(List YB)×Int×(List YB)×Int×Int×Unit):Option ((Int×(List YB)×Int×(List YB)×Int×Int×Unit)⊕(((List YB)×(List YB)×Int×Int×Unit))):=
 letI u1:=x1.2.2.2;Tree.val (α:=(Int×(List YB)×Int×(List YB)×Int×Int×Unit)⊕(((List YB)×(List YB)×Int×Int×Unit))) <|
 .br (decide (x1.2.2.1<x1.1)) (
 .ob (Gc (u1.1,u1.2.1,u1.2.2.1,())) fun r2=>
 .chk (decide (x1.2.1.length+[((u8.wrap (r2.1.1)),())].length≤4294967296)) <|
 .leaf (.inl (x1.1,(x1.2.1++[((u8.wrap (r2.1.1)),())]),(i64.wrap (x1.2.2.1+(1:Int))),u1.1,r2.2.2.1,r2.2.2.2.1,()))) (
 .leaf (.inr (x1.2.1,u1.1,u1.2.1,u1.2.2.1,())))
def Abx (a0:Au) (a1:YI):Tree (YBs×Au):=
 .ob (A1 Jr (a1.1,([]:List YB),(0:Int),a0.1,a0.2.1,a0.2.2.1,())) fun o3=>
 .leaf ((o3.1,()),(o3.2.1,o3.2.2.1,o3.2.2.2.1,()))
def Bb (a0:Au) (a1:YI):Option (YBs×Au):=(Abx a0 a1).val
def Apg (a0:YI) (a1:YI) (a2:YI):Tree ((Bool×Unit)):=
 .br (decide (a0.1≥a1.1)) (
 .leaf ((decide (a0.1≤a2.1)),())) (
 .leaf (false,()))
def Bi (a0:YI) (a1:YI) (a2:YI):Option ((Bool×Unit)):=(Apg a0 a1 a2).val
def Aph (a0:YI):Tree (Hk):=
 .ob (Bi a0 ((0:Int),()) ((255:Int),())) fun r1=>
 .br (!r1.1) (
 .leaf ((0:Int),(0:Int),())) (
 .leaf ((i64.wrap ((167772160:Int)+a0.1)),(i64.wrap ((7000:Int)+a0.1)),()))
def Afh (a0:YI):Option (Hk):=(Aph a0).val
def Aj4 (a0:YBs):Tree ((Bool×Unit)):=
 .ob (Bi ((a0.1.length:Int),()) ((1:Int),()) ((32:Int),())) fun r1=>
 .leaf r1
def Kp (a0:YBs):Option ((Bool×Unit)):=(Aj4 a0).val
def Afi (a0:Hk):Tree ((Bool×Unit)):=
 .ob (Bi (a0.1,()) ((0:Int),()) ((4294967295:Int),())) fun r1=>
 .br r1.1 (
 .ob (Bi (a0.2.1,()) ((0:Int),()) ((65535:Int),())) fun r2=>
 .leaf r2) (
 .leaf (false,()))
def N0 (a0:Hk):Option ((Bool×Unit)):=(Afi a0).val
def Sw (a0:YI) (a1:YBs) (a2:Hk):Tree (Ac):=
 .ob (Bi a0 ((1:Int),()) ((9:Int),())) fun r1=>
 .br (!r1.1) (
 .leaf ((0:Int),([]:List YB),(0:Int),(0:Int),(0:Int),([]:List YB),(0:Int),(0:Int),([]:List YB),([]:List YB),(0:Int),([]:List YB),([]:List YB),(0:Int),(0:Int),([]:List YB),([]:List YB),(0:Int),([]:List YB),(0:Int),([]:List YB),(0:Int),(0:Int),([]:List YI),(0:Int),([]:List YB),(0:Int),(0:Int),([]:List YI),false,(0:Int),([]:List YB),false,(0:Int),(0:Int),(0:Int),false,(0:Int),(0:Int),(0:Int),(0:Int),())) (
 .ob (Kp a1) fun r2=>
 .br (!r2.1) (
 .leaf ((0:Int),([]:List YB),(0:Int),(0:Int),(0:Int),([]:List YB),(0:Int),(0:Int),([]:List YB),([]:List YB),(0:Int),([]:List YB),([]:List YB),(0:Int),(0:Int),([]:List YB),([]:List YB),(0:Int),([]:List YB),(0:Int),([]:List YB),(0:Int),(0:Int),([]:List YI),(0:Int),([]:List YB),(0:Int),(0:Int),([]:List YI),false,(0:Int),([]:List YB),false,(0:Int),(0:Int),(0:Int),false,(0:Int),(0:Int),(0:Int),(0:Int),())) (
 .ob (N0 a2) fun r3=>
 .br (!r3.1) (
 .leaf ((0:Int),([]:List YB),(0:Int),(0:Int),(0:Int),([]:List YB),(0:Int),(0:Int),([]:List YB),([]:List YB),(0:Int),([]:List YB),([]:List YB),(0:Int),(0:Int),([]:List YB),([]:List YB),(0:Int),([]:List YB),(0:Int),([]:List YB),(0:Int),(0:Int),([]:List YI),(0:Int),([]:List YB),(0:Int),(0:Int),([]:List YI),false,(0:Int),([]:List YB),false,(0:Int),(0:Int),(0:Int),false,(0:Int),(0:Int),(0:Int),(0:Int),())) (
 .chk (decide (([]:List YB).length+a1.1.length≤4294967296)) <|
 .leaf (a0.1,(([]:List YB)++a1.1),a2.1,a2.2.1,(0:Int),([]:List YB),(0:Int),(0:Int),([]:List YB),([]:List YB),(0:Int),([]:List YB),([]:List YB),(0:Int),(0:Int),([]:List YB),([]:List YB),(0:Int),([]:List YB),(0:Int),([]:List YB),(0:Int),(0:Int),([]:List YI),(0:Int),([]:List YB),(0:Int),(0:Int),([]:List YI),false,(0:Int),([]:List YB),false,(0:Int),(0:Int),(0:Int),false,(0:Int),(0:Int),(0:Int),(0:Int),()))))
def Sx (a0:YI) (a1:YBs) (a2:Hk):Option (Ac):=(Sw a0 a1 a2).val
def Aap (a0:Au) (a1:(List YI)×Unit):Tree (YI×Au):=
 .ob (A7 a0 ((a1.1.length:Int),())) fun r1=>
 .ob (idx a1.1 r1.1.1) fun e2=>
 .leaf (e2,(a0.1,r1.2.2.1,r1.2.2.2.1,()))
def A3 (a0:Au) (a1:(List YI)×Unit):Option (YI×Au):=(Aap a0 a1).val
def Afj (a0:Ab):Tree (Ab):=
 letI u1:=a0.2.2.2;letI u2:=u1.2.2.2;.chk (decide (([]:List YB).length+a0.2.2.1.length≤4294967296)) <|
 .chk (decide (([]:List YB).length+a0.2.2.2.1.length≤4294967296)) <|
 .chk (decide (([]:List YB).length+a0.2.2.2.2.2.1.length≤4294967296)) <|
 .chk (decide (([]:List YB).length+a0.2.2.2.2.2.2.1.length≤4294967296)) <|
 .chk (decide (([]:List YB).length+a0.2.2.2.2.2.2.2.2.2.1.length≤4294967296)) <|
 .chk (decide (([]:List YB).length+a0.2.2.2.2.2.2.2.2.2.2.1.length≤4294967296)) <|
 .leaf (a0.1,a0.2.1,(([]:List YB)++a0.2.2.1),(([]:List YB)++u1.1),u1.2.1,(([]:List YB)++u1.2.2.1),(([]:List YB)++u2.1),u2.2.1,u2.2.2.1,(([]:List YB)++u2.2.2.2.1),(([]:List YB)++u2.2.2.2.2.1),())
def Lj (a0:Ab):Option (Ab):=(Afj a0).val
def Are (a0:Bs):Tree (Bs):=
 .chk (decide (([]:List YI).length+a0.2.1.length≤4294967296)) <|
 .leaf (a0.1,(([]:List YI)++a0.2.1),())
def Afk (a0:Bs):Option (Bs):=(Are a0).val
def Afl (a0:YEp):Tree (YEp):=
 .chk (decide (([]:List YB).length+a0.2.1.length≤4294967296)) <|
 .ob (Afk (a0.2.2.2.1,a0.2.2.2.2.1,())) fun r1=>
 .leaf (a0.1,(([]:List YB)++a0.2.1),a0.2.2.1,r1.1,r1.2.1,())
def Lk (a0:YEp):Option (YEp):=(Afl a0).val
def Aj5 (a0:YEp) (a1:Bool×Unit):Tree (YEp):=
 .br (!a1.1) (
 .chk (decide (([]:List YB).length+a0.2.1.length≤4294967296)) <|
 .chk (decide (([]:List YI).length+a0.2.2.2.2.1.length≤4294967296)) <|
 .leaf (a0.1,(([]:List YB)++a0.2.1),a0.2.2.1,a0.2.2.2.1,(([]:List YI)++a0.2.2.2.2.1),())) (
 .ob (Lk a0) fun r1=>
 .leaf r1)
def Aj6 (a0:YEp) (a1:Bool×Unit):Option (YEp):=(Aj5 a0 a1).val
def Aby (a0:Ai):Tree (Ai):=
 letI u1:=a0.2.2.2;letI u2:=u1.2.2.2;letI u3:=u2.2.2.2;letI u4:=u3.2.2.2;.chk (decide (([]:List YB).length+a0.2.1.length≤4294967296)) <|
 .ob (Lk (a0.2.2.1,u1.1,u1.2.1,u1.2.2.1,u2.1,())) fun r1=>
 .ob (Aj6 (u2.2.1,u2.2.2.1,u3.1,u3.2.1,u3.2.2.1,()) (u4.1,())) fun r2=>
 .chk (decide (([]:List YB).length+a0.2.2.2.2.2.2.2.2.2.2.2.2.2.2.1.length≤4294967296)) <|
 .leaf (a0.1,(([]:List YB)++a0.2.1),r1.1,r1.2.1,r1.2.2.1,r1.2.2.2.1,r1.2.2.2.2.1,r2.1,r2.2.1,r2.2.2.1,r2.2.2.2.1,r2.2.2.2.2.1,u4.1,u4.2.1,(([]:List YB)++u4.2.2.1),())
def Ma (a0:Ai):Option (Ai):=(Aby a0).val
def Abz (a0:Ac):Tree (Ac):=
 letI u1:=a0.2.2.2;letI u2:=u1.2.2.2;letI u3:=u2.2.2.2;letI u4:=u3.2.2.2;letI u5:=u4.2.2.2;letI u6:=u5.2.2.2;letI u7:=u6.2.2.2;letI u8:=u7.2.2.2;letI u9:=u8.2.2.2;letI u10:=u9.2.2.2;letI u11:=u10.2.2.2;letI u12:=u11.2.2.2;.chk (decide (([]:List YB).length+a0.2.1.length≤4294967296)) <|
 .chk (decide (([]:List YB).length+a0.2.2.2.2.2.1.length≤4294967296)) <|
 .ob (Lj (u2.1,u2.2.1,u2.2.2.1,u3.1,u3.2.1,u3.2.2.1,u4.1,u4.2.1,u4.2.2.1,u5.1,u5.2.1,())) fun r1=>letI u13:=r1.2.2.2;letI u14:=u13.2.2.2;
 .ob (Ma (u5.2.2.1,u6.1,u6.2.1,u6.2.2.1,u7.1,u7.2.1,u7.2.2.1,u8.1,u8.2.1,u8.2.2.1,u9.1,u9.2.1,u9.2.2.1,u10.1,u10.2.1,())) fun r2=>letI u15:=r2.2.2.2;letI u16:=u15.2.2.2;letI u17:=u16.2.2.2.2;
 .leaf (a0.1,(([]:List YB)++a0.2.1),a0.2.2.1,u1.1,u1.2.1,(([]:List YB)++u1.2.2.1),r1.1,r1.2.1,r1.2.2.1,u13.1,u13.2.1,u13.2.2.1,u14.1,u14.2.1,u14.2.2.1,u14.2.2.2.1,u14.2.2.2.2.1,r2.1,r2.2.1,r2.2.2.1,u15.1,u15.2.1,u15.2.2.1,u16.1,u16.2.1,u16.2.2.1,u16.2.2.2.1,u17.1,u17.2.1,u17.2.2.1,u17.2.2.2.1,u17.2.2.2.2.1,u10.2.2.1,u11.1,u11.2.1,u11.2.2.1,u12.1,u12.2.1,u12.2.2.1,u12.2.2.2.1,u12.2.2.2.2.1,())
def Q6 (a0:Ac):Option (Ac):=(Abz a0).val
def Ab0 (a0:B0):Tree ((Bool×Unit)):=
 letI u1:=a0.2.2;.br (!a0.1) (
 .leaf ((and (a0.1==false) (and (a0.2.1==(0:Int)) (and (u1.1==(0:Int)) (and (u1.2.1==(0:Int)) true)))),())) (
 .ob (Bi (a0.2.1,()) ((0:Int),()) ((1000008:Int),())) fun r1=>
 .br r1.1 (
 .br (u1.1==(1:Int)) (
 .ob (Bi (u1.2.1,()) ((1:Int),()) ((5:Int),())) fun r2=>
 .leaf r2) (
 .br (u1.1==(2:Int)) (
 .ob (Bi (u1.2.1,()) ((1:Int),()) ((5:Int),())) fun r3=>
 .leaf r3) (
 .br (u1.1==(4:Int)) (
 .ob (Bi (u1.2.1,()) ((1:Int),()) ((5:Int),())) fun r4=>
 .leaf r4) (
 .br (u1.1==(8:Int)) (
 .ob (Bi (u1.2.1,()) ((1:Int),()) ((5:Int),())) fun r5=>
 .leaf r5) (
 .leaf (false,())))))) (
 .leaf (false,())))
def J3 (a0:B0):Option ((Bool×Unit)):=(Ab0 a0).val
def Pz (a0:Ab):Tree ((Bool×Unit)):=
 letI u1:=a0.2.2.2.2;.br (a0.1==(0:Int)) (
 .br (a0.2.1==(0:Int)) (
 .br ((a0.2.2.1.length:Int)==(0:Int)) (
 .br ((a0.2.2.2.1.length:Int)==(0:Int)) (
 .br (u1.1==(0:Int)) (
 .br ((a0.2.2.2.2.2.1.length:Int)==(0:Int)) (
 .br ((a0.2.2.2.2.2.2.1.length:Int)==(0:Int)) (
 .br (u1.2.2.2.1==(0:Int)) (
 .br (u1.2.2.2.2.1==(0:Int)) (
 .br ((a0.2.2.2.2.2.2.2.2.2.1.length:Int)==(0:Int)) (
 .leaf (((a0.2.2.2.2.2.2.2.2.2.2.1.length:Int)==(0:Int)),())) (
 .leaf (false,()))) (
 .leaf (false,()))) (
 .leaf (false,()))) (
 .leaf (false,()))) (
 .leaf (false,()))) (
 .leaf (false,()))) (
 .leaf (false,()))) (
 .leaf (false,()))) (
 .leaf (false,()))) (
 .leaf (false,()))
def Id (a0:Ab):Option ((Bool×Unit)):=(Pz a0).val
def Ab1 (a0:YEp):Tree ((Bool×Unit)):=
 .br (a0.1==(0:Int)) (
 .br ((a0.2.1.length:Int)==(0:Int)) (
 .br (a0.2.2.1==(0:Int)) (
 .br (a0.2.2.2.1==(0:Int)) (
 .leaf (((a0.2.2.2.2.1.length:Int)==(0:Int)),())) (
 .leaf (false,()))) (
 .leaf (false,()))) (
 .leaf (false,()))) (
 .leaf (false,()))
def Mb (a0:YEp):Option ((Bool×Unit)):=(Ab1 a0).val
def Sy (a0:Ai):Tree ((Bool×Unit)):=
 letI u1:=a0.2.2.2;letI u2:=u1.2.2.2;letI u3:=u2.2.2.2;.br (a0.1==(0:Int)) (
 .br ((a0.2.1.length:Int)==(0:Int)) (
 .ob (Mb (a0.2.2.1,u1.1,u1.2.1,u1.2.2.1,u2.1,())) fun r1=>
 .br r1.1 (
 .ob (Mb (u2.2.1,u2.2.2.1,u3.1,u3.2.1,u3.2.2.1,())) fun r2=>
 .br r2.1 (
 .br (!u3.2.2.2.1) (
 .br (u3.2.2.2.2.1==(0:Int)) (
 .leaf (((a0.2.2.2.2.2.2.2.2.2.2.2.2.2.2.1.length:Int)==(0:Int)),())) (
 .leaf (false,()))) (
 .leaf (false,()))) (
 .leaf (false,()))) (
 .leaf (false,()))) (
 .leaf (false,()))) (
 .leaf (false,()))
def Mq (a0:Ai):Option ((Bool×Unit)):=(Sy a0).val
def Aj7 (a0:Bs) (a1:YI):Tree ((Bool×Unit)):=
 .chk (decide ((0:Int)≤a1.1)) <|
 .chk (decide ((0:Int)≤(a1.1%(1024:Int)))) <|
 .ob (idx a0.2.1 ((a1.1%(1024:Int))/(32:Int))) fun e1=>
 .chk (decide ((0:Int)≤(a1.1%(1024:Int)))) <|
 .chk (decide ((0:Int)≤((a1.1%(1024:Int))%(32:Int)))) <|
 .leaf (((i64.wrap ((BitVec.ofInt (i64.bits) ((Int.fdiv e1.1 (2^(min (((a1.1%(1024:Int))%(32:Int))).toNat i64.bits)))) &&& BitVec.ofInt (i64.bits) ((1:Int))).toNat:Nat))==(1:Int)),())
def Ry (a0:Bs) (a1:YI):Option ((Bool×Unit)):=(Aj7 a0 a1).val
def H4 (x2:Int×Int×(List YI)×Unit):Option ((Int×Int×(List YI)×Unit)⊕((Bool×Unit)⊕Bs)):=
 Tree.val (α:=(Int×Int×(List YI)×Unit)⊕((Bool×Unit)⊕Bs)) <|
 .br (decide (x2.1<(32:Int))) (
 .ob (idx x2.2.2.1 x2.1) fun e3=>
 .ob (Bi e3 ((0:Int),()) ((4294967295:Int),())) fun r4=>
 .br (!r4.1) (
 .leaf (.inr (.inl (false,())))) (
 .leaf (.inl ((i64.wrap (x2.1+(1:Int))),x2.2.1,x2.2.2.1,())))) (
 .leaf (.inr (.inr (x2.2.1,x2.2.2.1,()))))
def Fy (x9:Int×Int×(List YI)×Unit):Option ((Int×Int×(List YI)×Unit)⊕((Bool×Unit)⊕(Unit))):=
 Tree.val (α:=(Int×Int×(List YI)×Unit)⊕((Bool×Unit)⊕(Unit))) <|
 .br (decide (x9.1<(1024:Int))) (
 .ob (Ry (x9.2.1,x9.2.2.1,()) (x9.1,())) fun r10=>
 .br r10.1 (
 .leaf (.inr (.inl (false,())))) (
 .leaf (.inl ((i64.wrap (x9.1+(1:Int))),x9.2.1,x9.2.2.1,())))) (
 .leaf (.inr (.inr ())))
def Aaq (a0:Bs):Tree ((Bool×Unit)):=
 .br ((a0.2.1.length:Int) != (32:Int)) (
 .leaf (false,())) (
 .ob (Bi (a0.1,()) ((-1:Int),()) ((281474976710655:Int),())) fun r1=>
 .br (!r1.1) (
 .leaf (false,())) (
 .ob (A1 H4 ((0:Int),a0.1,a0.2.1,())) fun o5=>
 .sm o5 (fun o6=>
 .leaf o6) (fun o7=>
 .br (decide (o7.1≥(0:Int))) (
 .ob (Ry o7 (o7.1,())) fun r8=>
 .br (!r8.1) (
 .leaf (false,())) (
 .ob (A1 Fy ((i64.wrap (o7.1+(1:Int))),o7.1,o7.2.1,())) fun o11=>
 .sm o11 (fun o12=>
 .leaf o12) (fun o13=>
 .leaf (true,())))) (
 .ob (A1 Fy ((i64.wrap (o7.1+(1:Int))),o7.1,o7.2.1,())) fun o14=>
 .sm o14 (fun o15=>
 .leaf o15) (fun o16=>
 .leaf (true,()))))))
def Aar (a0:Bs):Option ((Bool×Unit)):=(Aaq a0).val
def Api (a0:YEp):Tree ((Bool×Unit)):=
 .ob (Bi (a0.1,()) ((0:Int),()) ((4294967295:Int),())) fun r1=>
 .br r1.1 (
 .br ((a0.2.1.length:Int)==(32:Int)) (
 .ob (Bi (a0.2.2.1,()) ((0:Int),()) ((281474976710656:Int),())) fun r2=>
 .br r2.1 (
 .ob (Aar (a0.2.2.2.1,a0.2.2.2.2.1,())) fun r3=>
 .leaf r3) (
 .leaf (false,()))) (
 .leaf (false,()))) (
 .leaf (false,()))
def M6 (a0:YEp):Option ((Bool×Unit)):=(Api a0).val
def Afm (a0:Ai):Tree ((Bool×Unit)):=
 letI u1:=a0.2.2;letI u2:=u1.2.2;letI u3:=u2.2.2.2;letI u4:=u3.2.2;letI u5:=u4.2.2;.ob (Bi (a0.1,()) ((0:Int),()) ((1:Int),())) fun r1=>
 .br (!r1.1) (
 .leaf (false,())) (
 .br ((a0.2.1.length:Int) != (12:Int)) (
 .leaf (false,())) (
 .ob (M6 (u1.1,u1.2.1,u2.1,u2.2.1,u2.2.2.1,())) fun r2=>
 .br (!r2.1) (
 .leaf (false,())) (
 .br u5.2.1 (
 .br (a0.1==(0:Int)) (
 .ob (M6 (u3.1,u3.2.1,u4.1,u4.2.1,u5.1,())) fun r3=>
 .br (!r3.1) (
 .leaf (false,())) (
 .br (u3.1 != (i64.wrap (u1.1-(1:Int)))) (
 .leaf (false,())) (
 .ob (Bi (u5.2.2.1,()) ((0:Int),()) ((1000005:Int),())) fun r4=>
 .br (!r4.1) (
 .leaf (false,())) (
 .br ((a0.2.2.2.2.2.2.2.2.2.2.2.2.2.2.1.length:Int)==(0:Int)) (
 .leaf (true,())) (
 .br (a0.1==(0:Int)) (
 .br ((a0.2.2.2.2.2.2.2.2.2.2.2.2.2.2.1.length:Int)==(32:Int)) (
 .leaf ((decide (u1.1<(4294967295:Int))),())) (
 .leaf (false,()))) (
 .leaf (false,()))))))) (
 .ob (M6 (u3.1,u3.2.1,u4.1,u4.2.1,u5.1,())) fun r5=>
 .br (!r5.1) (
 .leaf (false,())) (
 .br (u3.1 != (i64.wrap (u1.1-(1:Int)))) (
 .leaf (false,())) (
 .ob (Bi (u5.2.2.1,()) ((-1:Int),()) ((1000005:Int),())) fun r6=>
 .br (!r6.1) (
 .leaf (false,())) (
 .br ((a0.2.2.2.2.2.2.2.2.2.2.2.2.2.2.1.length:Int)==(0:Int)) (
 .leaf (true,())) (
 .br (a0.1==(0:Int)) (
 .br ((a0.2.2.2.2.2.2.2.2.2.2.2.2.2.2.1.length:Int)==(32:Int)) (
 .leaf ((decide (u1.1<(4294967295:Int))),())) (
 .leaf (false,()))) (
 .leaf (false,())))))))) (
 .ob (Mb (u3.1,u3.2.1,u4.1,u4.2.1,u5.1,())) fun r7=>
 .br (!r7.1) (
 .leaf (false,())) (
 .br (u5.2.2.1 != (0:Int)) (
 .leaf (false,())) (
 .br ((a0.2.2.2.2.2.2.2.2.2.2.2.2.2.2.1.length:Int)==(0:Int)) (
 .leaf (true,())) (
 .br (a0.1==(0:Int)) (
 .br ((a0.2.2.2.2.2.2.2.2.2.2.2.2.2.2.1.length:Int)==(32:Int)) (
 .leaf ((decide (u1.1<(4294967295:Int))),())) (
 .leaf (false,()))) (
 .leaf (false,())))))))))
def Jb (a0:Ai):Option ((Bool×Unit)):=(Afm a0).val
def Afn (a0:YI):Tree ((Bool×Unit)):=
 .ob (Bi a0 ((4:Int),()) ((8:Int),())) fun r1=>
 .leaf r1
def Hq (a0:YI):Option ((Bool×Unit)):=(Afn a0).val
def Afo (a0:YI) (a1:YI):Tree ((Bool×Unit)):=
 .br (a0.1==(4:Int)) (
 .leaf ((decide (a1.1≤(40:Int))),())) (
 .br (a0.1==(5:Int)) (
 .leaf ((a1.1==(12:Int)),())) (
 .br (a0.1==(6:Int)) (
 .leaf ((a1.1==(12:Int)),())) (
 .leaf ((a1.1==(4:Int)),()))))
def N3 (a0:YI) (a1:YI):Option ((Bool×Unit)):=(Afo a0 a1).val
def Ab2 (a0:Ab):Tree ((Bool×Unit)):=
 letI u1:=a0.2.2.2.2;letI u2:=u1.2.2.2;.ob (Hq (a0.1,())) fun r1=>
 .br r1.1 (
 .br (a0.2.1==(0:Int)) (
 .br ((a0.2.2.1.length:Int)==(0:Int)) (
 .br ((a0.2.2.2.1.length:Int)==(12:Int)) (
 .br (u1.1==(0:Int)) (
 .br ((a0.2.2.2.2.2.1.length:Int)==(0:Int)) (
 .br ((a0.2.2.2.2.2.2.1.length:Int)==(0:Int)) (
 .ob (Bi (u2.1,()) ((0:Int),()) ((4294967295:Int),())) fun r2=>
 .br r2.1 (
 .ob (Bi (u2.2.1,()) ((0:Int),()) ((281474976710655:Int),())) fun r3=>
 .br r3.1 (
 .ob (N3 (a0.1,()) ((a0.2.2.2.2.2.2.2.2.2.1.length:Int),())) fun r4=>
 .br r4.1 (
 .leaf (((a0.2.2.2.2.2.2.2.2.2.2.1.length:Int)==(16:Int)),())) (
 .leaf (false,()))) (
 .leaf (false,()))) (
 .leaf (false,()))) (
 .leaf (false,()))) (
 .leaf (false,()))) (
 .leaf (false,()))) (
 .leaf (false,()))) (
 .leaf (false,()))) (
 .leaf (false,()))) (
 .br (u2.1 != (0:Int)) (
 .leaf (false,())) (
 .br (u2.2.1 != (0:Int)) (
 .leaf (false,())) (
 .br ((a0.2.2.2.2.2.2.2.2.2.1.length:Int) != (0:Int)) (
 .leaf (false,())) (
 .br ((a0.2.2.2.2.2.2.2.2.2.2.1.length:Int) != (0:Int)) (
 .leaf (false,())) (
 .br ((a0.2.2.1.length:Int) != (12:Int)) (
 .leaf (false,())) (
 .br (a0.1==(1:Int)) (
 .ob (Bi (a0.2.1,()) ((1:Int),()) ((9:Int),())) fun r5=>
 .br r5.1 (
 .br ((a0.2.2.2.1.length:Int)==(0:Int)) (
 .br (u1.1==(0:Int)) (
 .br ((a0.2.2.2.2.2.1.length:Int)==(0:Int)) (
 .leaf (((a0.2.2.2.2.2.2.1.length:Int)==(0:Int)),())) (
 .leaf (false,()))) (
 .leaf (false,()))) (
 .leaf (false,()))) (
 .leaf (false,()))) (
 .br (a0.1==(2:Int)) (
 .br (a0.2.1==(0:Int)) (
 .br ((a0.2.2.2.1.length:Int)==(12:Int)) (
 .ob (Bi (u1.1,()) ((0:Int),()) ((1000000:Int),())) fun r6=>
 .br r6.1 (
 .br ((a0.2.2.2.2.2.1.length:Int)==(16:Int)) (
 .leaf (((a0.2.2.2.2.2.2.1.length:Int)==(0:Int)),())) (
 .leaf (false,()))) (
 .leaf (false,()))) (
 .leaf (false,()))) (
 .leaf (false,()))) (
 .br (a0.1==(3:Int)) (
 .ob (Bi (a0.2.1,()) ((1:Int),()) ((9:Int),())) fun r7=>
 .br r7.1 (
 .br ((a0.2.2.2.1.length:Int)==(12:Int)) (
 .ob (Bi (u1.1,()) ((0:Int),()) ((1000000:Int),())) fun r8=>
 .br r8.1 (
 .br ((a0.2.2.2.2.2.1.length:Int)==(16:Int)) (
 .leaf (((a0.2.2.2.2.2.2.1.length:Int)==(16:Int)),())) (
 .leaf (false,()))) (
 .leaf (false,()))) (
 .leaf (false,()))) (
 .leaf (false,()))) (
 .leaf (false,()))))))))))
def H5 (a0:Ab):Option ((Bool×Unit)):=(Ab2 a0).val
def Arf (a0:YBs) (a1:YBs):Tree ((Bool×Unit)):=
 .leaf ((decide ((Kd a0.1)=(Kd a1.1))),())
def N4 (a0:YBs) (a1:YBs):Option ((Bool×Unit)):=(Arf a0 a1).val
def Xc (a0:Ac):Tree ((Bool×Unit)):=
 letI u1:=a0.2.2.2.2;letI u2:=u1.2.2;letI u3:=u2.2.2;letI u4:=u3.2.2;letI u5:=u4.2.2;letI u6:=u5.2.2;letI u7:=u6.2.2;letI u8:=u7.2.2;letI u9:=u8.2.2;letI u10:=u9.2.2;letI u11:=u10.2.2;letI u12:=u11.2.2;letI u13:=u12.2.2;letI u14:=u13.2.2;letI u15:=u14.2.2;letI u16:=u15.2.2.2.2;letI u17:=u16.2.2.2;.ob (Bi (a0.1,()) ((1:Int),()) ((9:Int),())) fun r1=>
 .br (!r1.1) (
 .leaf (false,())) (
 .ob (Kp (a0.2.1,())) fun r2=>
 .br (!r2.1) (
 .leaf (false,())) (
 .ob (N0 (a0.2.2.1,a0.2.2.2.1,())) fun r3=>
 .br (!r3.1) (
 .leaf (false,())) (
 .ob (J3 (u15.1,u15.2.1,u15.2.2.1,u15.2.2.2.1,())) fun r4=>
 .br (!r4.1) (
 .leaf (false,())) (
 .ob (J3 (u16.1,u16.2.1,u16.2.2.1,u17.1,())) fun r5=>
 .br (!r5.1) (
 .leaf (false,())) (
 .ob (Bi (u17.2.1,()) ((0:Int),()) ((1000000:Int),())) fun r6=>
 .br (!r6.1) (
 .leaf (false,())) (
 .br (u1.1==(0:Int)) (
 .br ((a0.2.2.2.2.2.1.length:Int)==(0:Int)) (
 .ob (Id (u2.1,u2.2.1,u3.1,u3.2.1,u4.1,u4.2.1,u5.1,u5.2.1,u6.1,u6.2.1,u7.1,())) fun r7=>
 .br r7.1 (
 .ob (Mq (u7.2.1,u8.1,u8.2.1,u9.1,u9.2.1,u10.1,u10.2.1,u11.1,u11.2.1,u12.1,u12.2.1,u13.1,u13.2.1,u14.1,u14.2.1,())) fun r8=>
 .br r8.1 (
 .br (!u15.1) (
 .br (!u16.1) (
 .leaf ((u17.2.1==(0:Int)),())) (
 .leaf (false,()))) (
 .leaf (false,()))) (
 .leaf (false,()))) (
 .leaf (false,()))) (
 .leaf (false,()))) (
 .br ((a0.2.2.2.2.2.1.length:Int) != (12:Int)) (
 .leaf (false,())) (
 .br (u1.1==(3:Int)) (
 .ob (Id (u2.1,u2.2.1,u3.1,u3.2.1,u4.1,u4.2.1,u5.1,u5.2.1,u6.1,u6.2.1,u7.1,())) fun r9=>
 .br r9.1 (
 .ob (Jb (u7.2.1,u8.1,u8.2.1,u9.1,u9.2.1,u10.1,u10.2.1,u11.1,u11.2.1,u12.1,u12.2.1,u13.1,u13.2.1,u14.1,u14.2.1,())) fun r10=>
 .br r10.1 (
 .br (u7.2.1==(0:Int)) (
 .br (!u15.1) (
 .leaf ((u16.1==(decide ((a0.2.2.2.2.2.2.2.2.2.2.2.2.2.2.2.2.2.2.2.2.2.2.2.2.2.2.2.2.2.2.2.1.length:Int)>(0:Int)))),())) (
 .leaf (false,()))) (
 .leaf (false,()))) (
 .leaf (false,()))) (
 .leaf (false,()))) (
 .br (!u15.1) (
 .leaf (false,())) (
 .br u16.1 (
 .leaf (false,())) (
 .br (u17.2.1 != (0:Int)) (
 .leaf (false,())) (
 .br (u1.1==(1:Int)) (
 .ob (Id (u2.1,u2.2.1,u3.1,u3.2.1,u4.1,u4.2.1,u5.1,u5.2.1,u6.1,u6.2.1,u7.1,())) fun r11=>
 .br r11.1 (
 .ob (Mq (u7.2.1,u8.1,u8.2.1,u9.1,u9.2.1,u10.1,u10.2.1,u11.1,u11.2.1,u12.1,u12.2.1,u13.1,u13.2.1,u14.1,u14.2.1,())) fun r12=>
 .leaf r12) (
 .leaf (false,()))) (
 .br (u1.1==(2:Int)) (
 .ob (H5 (u2.1,u2.2.1,u3.1,u3.2.1,u4.1,u4.2.1,u5.1,u5.2.1,u6.1,u6.2.1,u7.1,())) fun r13=>
 .br r13.1 (
 .br (u2.1==(3:Int)) (
 .br (u2.2.1==a0.1) (
 .ob (N4 (u3.1,()) (u1.2.1,())) fun r14=>
 .br r14.1 (
 .ob (Jb (u7.2.1,u8.1,u8.2.1,u9.1,u9.2.1,u10.1,u10.2.1,u11.1,u11.2.1,u12.1,u12.2.1,u13.1,u13.2.1,u14.1,u14.2.1,())) fun r15=>
 .br r15.1 (
 .br (u7.2.1==(0:Int)) (
 .ob (N4 (u8.1,()) (u3.2.1,())) fun r16=>
 .br r16.1 (
 .br (u8.2.1==(0:Int)) (
 .br (!u13.2.1) (
 .leaf (((a0.2.2.2.2.2.2.2.2.2.2.2.2.2.2.2.2.2.2.2.2.2.2.2.2.2.2.2.2.2.2.2.1.length:Int)==(0:Int)),())) (
 .leaf (false,()))) (
 .leaf (false,()))) (
 .leaf (false,()))) (
 .leaf (false,()))) (
 .leaf (false,()))) (
 .leaf (false,()))) (
 .leaf (false,()))) (
 .leaf (false,()))) (
 .leaf (false,()))) (
 .leaf (false,())))))))))))))))
def Ie (a0:Ac):Option ((Bool×Unit)):=(Xc a0).val
def Kq (a0:YI):Tree (B0):=
 .ob (Bi a0 ((0:Int),()) ((1000000:Int),())) fun r1=>
 .br (!r1.1) (
 .leaf (false,(0:Int),(0:Int),(0:Int),())) (
 .leaf (true,(i64.wrap (a0.1+(1:Int))),(1:Int),(1:Int),()))
def Dg (a0:YI):Option (B0):=(Kq a0).val
def Ab3 (a0:Ac):Tree (Ab):=
 .chk (decide (([]:List YB).length+a0.2.2.2.2.2.1.length≤4294967296)) <|
 .leaf ((1:Int),a0.1,(([]:List YB)++a0.2.2.2.2.2.1),([]:List YB),(0:Int),([]:List YB),([]:List YB),(0:Int),(0:Int),([]:List YB),([]:List YB),())
def Ab4 (a0:Ac):Option (Ab):=(Ab3 a0).val
def Apj (a0:Ac) (a1:YI) (a2:YBs):Tree (Ac×((List Ab)×Unit)×((List Ah)×Unit)×YI):=
 .ob (Q6 a0) fun r1=>letI u1:=r1.2.2;letI u2:=u1.2.2.2.2;letI u3:=u2.2.2;letI u4:=u3.2.2;letI u5:=u4.2.2;letI u6:=u5.2.2;letI u7:=u6.2.2;letI u8:=u7.2.2;letI u9:=u8.2.2;letI u10:=u9.2.2;letI u11:=u10.2.2;letI u12:=u11.2.2;letI u13:=u12.2.2;letI u14:=u13.2.2;letI u15:=u14.2.2.2.2.2.2;letI u16:=u15.2.2;
 .ob (Ie a0) fun r2=>
 .br (!r2.1) (
 .leaf (r1,(([]:List Ab),()),(([]:List Ah),()),((1:Int),()))) (
 .ob (Bi a1 ((0:Int),()) ((1000000:Int),())) fun r3=>
 .br (!r3.1) (
 .leaf (r1,(([]:List Ab),()),(([]:List Ah),()),((1:Int),()))) (
 .br ((a2.1.length:Int) != (12:Int)) (
 .leaf (r1,(([]:List Ab),()),(([]:List Ah),()),((1:Int),()))) (
 .br (a0.2.2.2.2.1 != (0:Int)) (
 .leaf (r1,(([]:List Ab),()),(([]:List Ah),()),((6:Int),()))) (
 .chk (decide (([]:List YB).length+a2.1.length≤4294967296)) <|
 .ob (Dg a1) fun r4=>
 .chk (decide (([]:List YB).length+a2.1.length≤4294967296)) <|
 .ob (Ab4 (r1.1,r1.2.1,u1.1,u1.2.1,(1:Int),(([]:List YB)++a2.1),u2.1,u2.2.1,u3.1,u3.2.1,u4.1,u4.2.1,u5.1,u5.2.1,u6.1,u6.2.1,u7.1,u7.2.1,u8.1,u8.2.1,u9.1,u9.2.1,u10.1,u10.2.1,u11.1,u11.2.1,u12.1,u12.2.1,u13.1,u13.2.1,u14.1,u14.2.1,r4.1,r4.2.1,r4.2.2.1,r4.2.2.2.1,u15.1,u15.2.1,u16.1,u16.2.1,u16.2.2.1,())) fun r5=>
 .leaf ((r1.1,r1.2.1,u1.1,u1.2.1,(1:Int),(([]:List YB)++a2.1),u2.1,u2.2.1,u3.1,u3.2.1,u4.1,u4.2.1,u5.1,u5.2.1,u6.1,u6.2.1,u7.1,u7.2.1,u8.1,u8.2.1,u9.1,u9.2.1,u10.1,u10.2.1,u11.1,u11.2.1,u12.1,u12.2.1,u13.1,u13.2.1,u14.1,u14.2.1,r4.1,r4.2.1,r4.2.2.1,r4.2.2.2.1,u15.1,u15.2.1,u16.1,u16.2.1,u16.2.2.1,()),([r5],()),([((1:Int),a0.1,(0:Int),(([]:List YB)++a2.1),([]:List YB),(0:Int),(0:Int),([]:List YB),([]:List YB),(0:Int),(0:Int),a1.1,())],()),((0:Int),()))))))
def Afp (a0:Ac) (a1:YI) (a2:YBs):Option (Ac×((List Ab)×Unit)×((List Ah)×Unit)×YI):=(Apj a0 a1 a2).val
def P0 (a0:B0) (a1:YI):Tree ((Bool×Unit)):=
 .ob (J3 a0) fun r1=>
 .br r1.1 (
 .br a0.1 (
 .ob (Bi a1 ((0:Int),()) ((1000000:Int),())) fun r2=>
 .br r2.1 (
 .leaf ((decide (a1.1≥a0.2.1)),())) (
 .leaf (false,()))) (
 .leaf (false,()))) (
 .leaf (false,()))
def Qa (a0:B0) (a1:YI):Option ((Bool×Unit)):=(P0 a0 a1).val
def Sz (a0:B0) (a1:YI):Tree (B0×YI):=
 letI u1:=a0.2.2;.ob (Qa a0 a1) fun r1=>
 .br (!r1.1) (
 .leaf (a0,((0:Int),()))) (
 .br (u1.2.1==(5:Int)) (
 .leaf ((false,(0:Int),(0:Int),(0:Int),()),((2:Int),()))) (
 .br (decide ((i64.wrap ((2:Int)*u1.1))>(8:Int))) (
 .leaf ((true,(i64.wrap (a1.1+(8:Int))),(8:Int),(i64.wrap (u1.2.1+(1:Int))),()),((1:Int),()))) (
 .leaf ((true,(i64.wrap (a1.1+(i64.wrap ((2:Int)*u1.1)))),(i64.wrap ((2:Int)*u1.1)),(i64.wrap (u1.2.1+(1:Int))),()),((1:Int),())))))
def Js (a0:B0) (a1:YI):Option (B0×YI):=(Sz a0 a1).val
def S1 (a0:Au):Tree (Ab×Au):=
 .ob (Bb a0 ((12:Int),())) fun r1=>
 .ob (Bb (a0.1,r1.2.2.1,r1.2.2.2.1,()) ((12:Int),())) fun r2=>
 .ob (A7 (a0.1,r2.2.2.1,r2.2.2.2.1,()) ((300:Int),())) fun r3=>
 .ob (Bb (a0.1,r3.2.2.1,r3.2.2.2.1,()) ((16:Int),())) fun r4=>
 .leaf (((2:Int),(0:Int),r1.1.1,r2.1.1,r3.1.1,r4.1.1,([]:List YB),(0:Int),(0:Int),([]:List YB),([]:List YB),()),(a0.1,r4.2.2.1,r4.2.2.2.1,()))
def Mr (a0:Au):Option (Ab×Au):=(S1 a0).val
def N5 (x1:Int×(List YB)×Int×Unit):Option ((Int×(List YB)×Int×Unit)⊕(YBs)):=
 letI u1:=x1.2.2;Tree.val (α:=(Int×(List YB)×Int×Unit)⊕(YBs)) <|
 .br (decide (u1.1≥(0:Int))) (
 .chk (decide ((0:Int)≤(i64.wrap ((8:Int)*u1.1)))) <|
 .chk (decide (x1.2.1.length+[((u8.wrap ((i64.wrap ((BitVec.ofInt (i64.bits) ((Int.fdiv x1.1 (2^(min ((i64.wrap ((8:Int)*u1.1))).toNat i64.bits)))) &&& BitVec.ofInt (i64.bits) ((255:Int))).toNat:Nat)))),())].length≤4294967296)) <|
 .leaf (.inl (x1.1,(x1.2.1++[((u8.wrap ((i64.wrap ((BitVec.ofInt (i64.bits) ((Int.fdiv x1.1 (2^(min ((i64.wrap ((8:Int)*u1.1))).toNat i64.bits)))) &&& BitVec.ofInt (i64.bits) ((255:Int))).toNat:Nat)))),())]),(i64.wrap (u1.1-(1:Int))),()))) (
 .leaf (.inr (x1.2.1,())))
def Apk (a0:YBs) (a1:YI) (a2:YI):Tree (YBs):=
 .chk (decide (([]:List YB).length+a0.1.length≤4294967296)) <|
 .br (decide (a2.1<(1:Int))) (
 .leaf ((([]:List YB)++a0.1),())) (
 .br (decide (a2.1>(6:Int))) (
 .leaf ((([]:List YB)++a0.1),())) (
 .ob (A1 N5 (a1.1,(([]:List YB)++a0.1),(i64.wrap (a2.1-(1:Int))),())) fun o2=>
 .leaf o2))
def Ff (a0:YBs) (a1:YI) (a2:YI):Option (YBs):=(Apk a0 a1 a2).val
def Aj8 (x1:Int×(List YB)×Unit):Option ((Int×(List YB)×Unit)⊕((Int×(List YB)×Unit))):=
 Tree.val (α:=(Int×(List YB)×Unit)⊕((Int×(List YB)×Unit))) <|
 .chk (decide ((0:Int)≤(i64.wrap ((i64.wrap (x1.1+(x1.2.1.length:Int)))+(8:Int))))) <|
 .br (((i64.wrap ((i64.wrap (x1.1+(x1.2.1.length:Int)))+(8:Int)))%(64:Int)) != (0:Int)) (
 .chk (decide (x1.2.1.length+[((0:Int),())].length≤4294967296)) <|
 .leaf (.inl (x1.1,(x1.2.1++[((0:Int),())]),()))) (
 .leaf (.inr x1))
def Atv (a0:YI):Tree (YBs):=
 .br (decide (a0.1<(0:Int))) (
 .leaf (([]:List YB),())) (
 .br (decide (a0.1>(1048576:Int))) (
 .leaf (([]:List YB),())) (
 .ob (A1 Aj8 (a0.1,[((128:Int),())],())) fun o2=>
 .ob (Ff (o2.2.1,()) ((0:Int),()) ((4:Int),())) fun r3=>
 .ob (Ff r3 ((i64.wrap ((8:Int)*o2.1)),()) ((4:Int),())) fun r4=>
 .leaf r4))
def Atw (a0:YI):Option (YBs):=(Atv a0).val
def Avj:Tree (((List YI)×Unit)):=
 .leaf ([((1779033703:Int),()),((3144134277:Int),()),((1013904242:Int),()),((2773480762:Int),()),((1359893119:Int),()),((2600822924:Int),()),((528734635:Int),()),((1541459225:Int),())],())
def Avk:Option (((List YI)×Unit)):=(Avj).val
def Jt (x1:(List YI)×Int×Unit):Option (((List YI)×Int×Unit)⊕((Bool×Unit)⊕((List YI)×Unit))):=
 Tree.val (α:=((List YI)×Int×Unit)⊕((Bool×Unit)⊕((List YI)×Unit))) <|
 .br (decide (x1.2.1<(x1.1.length:Int))) (
 .ob (idx x1.1 x1.2.1) fun e2=>
 .ob (Bi e2 ((0:Int),()) ((4294967295:Int),())) fun r3=>
 .br (!r3.1) (
 .leaf (.inr (.inl (false,())))) (
 .leaf (.inl (x1.1,(i64.wrap (x1.2.1+(1:Int))),())))) (
 .leaf (.inr (.inr (x1.1,()))))
def Ab5 (a0:(List YI)×Unit):Tree ((Bool×Unit)):=
 .ob (A1 Jt (a0.1,(0:Int),())) fun o4=>
 .sm o4 (fun o5=>
 .leaf o5) (fun o6=>
 .leaf (((o6.1.length:Int)==(8:Int)),()))
def Ab6 (a0:(List YI)×Unit):Option ((Bool×Unit)):=(Ab5 a0).val
def A26:Tree (((List YI)×Unit)):=
 .leaf ([((1116352408:Int),()),((1899447441:Int),()),((3049323471:Int),()),((3921009573:Int),()),((961987163:Int),()),((1508970993:Int),()),((2453635748:Int),()),((2870763221:Int),()),((3624381080:Int),()),((310598401:Int),()),((607225278:Int),()),((1426881987:Int),()),((1925078388:Int),()),((2162078206:Int),()),((2614888103:Int),()),((3248222580:Int),()),((3835390401:Int),()),((4022224774:Int),()),((264347078:Int),()),((604807628:Int),()),((770255983:Int),()),((1249150122:Int),()),((1555081692:Int),()),((1996064986:Int),()),((2554220882:Int),()),((2821834349:Int),()),((2952996808:Int),()),((3210313671:Int),()),((3336571891:Int),()),((3584528711:Int),()),((113926993:Int),()),((338241895:Int),()),((666307205:Int),()),((773529912:Int),()),((1294757372:Int),()),((1396182291:Int),()),((1695183700:Int),()),((1986661051:Int),()),((2177026350:Int),()),((2456956037:Int),()),((2730485921:Int),()),((2820302411:Int),()),((3259730800:Int),()),((3345764771:Int),()),((3516065817:Int),()),((3600352804:Int),()),((4094571909:Int),()),((275423344:Int),()),((430227734:Int),()),((506948616:Int),()),((659060556:Int),()),((883997877:Int),()),((958139571:Int),()),((1322822218:Int),()),((1537002063:Int),()),((1747873779:Int),()),((1955562222:Int),()),((2024104815:Int),()),((2227730452:Int),()),((2361852424:Int),()),((2428436474:Int),()),((2756734187:Int),()),((3204031479:Int),()),((3329325298:Int),())],())
def A27:Option (((List YI)×Unit)):=(A26).val
def Ll (x1:(List YB)×Int×Int×Int×Int×Unit):Option (((List YB)×Int×Int×Int×Int×Unit)⊕((Int×Int×Int×Unit))):=
 letI u1:=x1.2.2;Tree.val (α:=((List YB)×Int×Int×Int×Int×Unit)⊕((Int×Int×Int×Unit))) <|
 .br (decide (u1.2.2.1<u1.1)) (
 .ob (idx x1.1 (i64.wrap (x1.2.1+u1.2.2.1))) fun e2=>
 .leaf (.inl (x1.1,x1.2.1,u1.1,(i64.wrap ((i64.wrap (u1.2.1*(256:Int)))+(i64.wrap (e2.1)))),(i64.wrap (u1.2.2.1+(1:Int))),()))) (
 .leaf (.inr (x1.2.1,u1.1,u1.2.1,())))
def Apl (a0:YBs) (a1:YI) (a2:YI):Tree (YI×YI×(Bool×Unit)):=
 .br (decide (a2.1<(1:Int))) (
 .leaf (((0:Int),()),((0:Int),()),(false,()))) (
 .br (decide (a2.1>(6:Int))) (
 .leaf (((0:Int),()),((0:Int),()),(false,()))) (
 .br (decide (a1.1<(0:Int))) (
 .leaf (((0:Int),()),((0:Int),()),(false,()))) (
 .br (decide (a1.1>(i64.wrap ((a0.1.length:Int)-a2.1)))) (
 .leaf (((0:Int),()),((0:Int),()),(false,()))) (
 .ob (A1 Ll (a0.1,a1.1,a2.1,(0:Int),(0:Int),())) fun o3=>
 .leaf ((o3.2.2.1,()),((i64.wrap (o3.1+o3.2.1)),()),(true,()))))))
def Apm (a0:YBs) (a1:YI) (a2:YI):Option (YI×YI×(Bool×Unit)):=(Apl a0 a1 a2).val
def Atx (a0:YI) (a1:YI):Tree (YI):=
 .br (decide (a1.1<(1:Int))) (
 .leaf ((i64.wrap ((BitVec.ofInt (i64.bits) (a0.1) &&& BitVec.ofInt (i64.bits) ((4294967295:Int))).toNat:Nat)),())) (
 .br (decide (a1.1>(31:Int))) (
 .leaf ((i64.wrap ((BitVec.ofInt (i64.bits) (a0.1) &&& BitVec.ofInt (i64.bits) ((4294967295:Int))).toNat:Nat)),())) (
 .chk (decide ((0:Int)≤a1.1)) <|
 .chk (decide ((0:Int)≤(i64.wrap ((32:Int)-a1.1)))) <|
 .leaf ((i64.wrap ((BitVec.ofInt (i64.bits) ((i64.wrap ((BitVec.ofInt (i64.bits) ((Int.fdiv (i64.wrap ((BitVec.ofInt (i64.bits) (a0.1) &&& BitVec.ofInt (i64.bits) ((4294967295:Int))).toNat:Nat)) (2^(min (a1.1).toNat i64.bits)))) ||| BitVec.ofInt (i64.bits) ((i64.wrap ((i64.wrap ((BitVec.ofInt (i64.bits) (a0.1) &&& BitVec.ofInt (i64.bits) ((4294967295:Int))).toNat:Nat))*2^(min ((i64.wrap ((32:Int)-a1.1))).toNat i64.bits))))).toNat:Nat))) &&& BitVec.ofInt (i64.bits) ((4294967295:Int))).toNat:Nat)),())))
def Hn (a0:YI) (a1:YI):Option (YI):=(Atx a0 a1).val
def Gl (x1:(List YB)×(List YI)×Int×Unit):Option (((List YB)×(List YI)×Int×Unit)⊕(((List YI)×Unit))):=
 Tree.val (α:=((List YB)×(List YI)×Int×Unit)⊕(((List YI)×Unit))) <|
 .br (decide (x1.2.2.1<(16:Int))) (
 .ob (Apm (x1.1,()) ((i64.wrap ((4:Int)*x1.2.2.1)),()) ((4:Int),())) fun r2=>
 .chk (decide (x1.2.1.length+[r2.1].length≤4294967296)) <|
 .leaf (.inl (x1.1,(x1.2.1++[r2.1]),(i64.wrap (x1.2.2.1+(1:Int))),()))) (
 .leaf (.inr (x1.2.1,())))
def F2 (x4:(List YI)×Int×Unit):Option (((List YI)×Int×Unit)⊕(((List YI)×Unit))):=
 Tree.val (α:=((List YI)×Int×Unit)⊕(((List YI)×Unit))) <|
 .br (decide (x4.2.1<(64:Int))) (
 .ob (idx x4.1 (i64.wrap (x4.2.1-(15:Int)))) fun e5=>
 .ob (idx x4.1 (i64.wrap (x4.2.1-(2:Int)))) fun e6=>
 .ob (Hn e5 ((7:Int),())) fun r7=>
 .ob (Hn e5 ((18:Int),())) fun r8=>
 .ob (Hn e6 ((17:Int),())) fun r9=>
 .ob (Hn e6 ((19:Int),())) fun r10=>
 .ob (idx x4.1 (i64.wrap (x4.2.1-(7:Int)))) fun e11=>
 .ob (idx x4.1 (i64.wrap (x4.2.1-(16:Int)))) fun e12=>
 .chk (decide (x4.1.length+[((i64.wrap ((BitVec.ofInt (i64.bits) ((i64.wrap ((i64.wrap ((i64.wrap (e11.1+e12.1))+(i64.wrap ((BitVec.ofInt (i64.bits) ((i64.wrap ((BitVec.ofInt (i64.bits) (r7.1) ^^^ BitVec.ofInt (i64.bits) (r8.1)).toNat:Nat))) ^^^ BitVec.ofInt (i64.bits) ((Int.fdiv e5.1 (2^(min ((3:Int)).toNat i64.bits))))).toNat:Nat))))+(i64.wrap ((BitVec.ofInt (i64.bits) ((i64.wrap ((BitVec.ofInt (i64.bits) (r9.1) ^^^ BitVec.ofInt (i64.bits) (r10.1)).toNat:Nat))) ^^^ BitVec.ofInt (i64.bits) ((Int.fdiv e6.1 (2^(min ((10:Int)).toNat i64.bits))))).toNat:Nat))))) &&& BitVec.ofInt (i64.bits) ((4294967295:Int))).toNat:Nat)),())].length≤4294967296)) <|
 .leaf (.inl ((x4.1++[((i64.wrap ((BitVec.ofInt (i64.bits) ((i64.wrap ((i64.wrap ((i64.wrap (e11.1+e12.1))+(i64.wrap ((BitVec.ofInt (i64.bits) ((i64.wrap ((BitVec.ofInt (i64.bits) (r7.1) ^^^ BitVec.ofInt (i64.bits) (r8.1)).toNat:Nat))) ^^^ BitVec.ofInt (i64.bits) ((Int.fdiv e5.1 (2^(min ((3:Int)).toNat i64.bits))))).toNat:Nat))))+(i64.wrap ((BitVec.ofInt (i64.bits) ((i64.wrap ((BitVec.ofInt (i64.bits) (r9.1) ^^^ BitVec.ofInt (i64.bits) (r10.1)).toNat:Nat))) ^^^ BitVec.ofInt (i64.bits) ((Int.fdiv e6.1 (2^(min ((10:Int)).toNat i64.bits))))).toNat:Nat))))) &&& BitVec.ofInt (i64.bits) ((4294967295:Int))).toNat:Nat)),())]),(i64.wrap (x4.2.1+(1:Int))),()))) (
 .leaf (.inr (x4.1,())))
def N6 (a0:YBs):Tree (((List YI)×Unit)):=
 .br ((a0.1.length:Int) != (64:Int)) (
 .leaf (([]:List YI),())) (
 .ob (A1 Gl (a0.1,([]:List YI),(0:Int),())) fun o3=>
 .ob (A1 F2 (o3.1,(16:Int),())) fun o13=>
 .leaf o13)
def Xd (a0:YBs):Option (((List YI)×Unit)):=(N6 a0).val
def Fg (x12:(List YI)×(List YI)×(List YI)×(List YI)×Int×Int×Int×Int×Int×Int×Int×Int×Int×Unit):Option (((List YI)×(List YI)×(List YI)×(List YI)×Int×Int×Int×Int×Int×Int×Int×Int×Int×Unit)⊕(((List YI)×(List YI)×Int×Int×Int×Int×Int×Int×Int×Int×Unit))):=
 letI u1:=x12.2.2;letI u2:=u1.2.2;letI u3:=u2.2.2;letI u4:=u3.2.2;letI u5:=u4.2.2;Tree.val (α:=((List YI)×(List YI)×(List YI)×(List YI)×Int×Int×Int×Int×Int×Int×Int×Int×Int×Unit)⊕(((List YI)×(List YI)×Int×Int×Int×Int×Int×Int×Int×Int×Unit))) <|
 .br (decide (u5.2.2.1<(64:Int))) (
 .ob (Hn (u4.1,()) ((6:Int),())) fun r13=>
 .ob (Hn (u4.1,()) ((11:Int),())) fun r14=>
 .ob (Hn (u4.1,()) ((25:Int),())) fun r15=>
 .ob (idx u1.1 u5.2.2.1) fun e16=>
 .ob (idx u1.2.1 u5.2.2.1) fun e17=>
 .ob (Hn (u2.1,()) ((2:Int),())) fun r18=>
 .ob (Hn (u2.1,()) ((13:Int),())) fun r19=>
 .ob (Hn (u2.1,()) ((22:Int),())) fun r20=>
 .leaf (.inl (x12.1,x12.2.1,u1.1,u1.2.1,(i64.wrap ((BitVec.ofInt (i64.bits) ((i64.wrap ((i64.wrap ((BitVec.ofInt (i64.bits) ((i64.wrap ((i64.wrap ((i64.wrap ((i64.wrap (u5.2.1+(i64.wrap ((BitVec.ofInt (i64.bits) ((i64.wrap ((BitVec.ofInt (i64.bits) (r13.1) ^^^ BitVec.ofInt (i64.bits) (r14.1)).toNat:Nat))) ^^^ BitVec.ofInt (i64.bits) (r15.1)).toNat:Nat))))+(i64.wrap ((BitVec.ofInt (i64.bits) ((i64.wrap ((BitVec.ofInt (i64.bits) (u4.1) &&& BitVec.ofInt (i64.bits) (u4.2.1)).toNat:Nat))) ^^^ BitVec.ofInt (i64.bits) ((i64.wrap ((BitVec.ofInt (i64.bits) ((i64.wrap ((BitVec.ofInt (i64.bits) (u4.1) ^^^ BitVec.ofInt (i64.bits) ((4294967295:Int))).toNat:Nat))) &&& BitVec.ofInt (i64.bits) (u5.1)).toNat:Nat)))).toNat:Nat))))+e16.1))+e17.1))) &&& BitVec.ofInt (i64.bits) ((4294967295:Int))).toNat:Nat))+(i64.wrap ((BitVec.ofInt (i64.bits) ((i64.wrap ((i64.wrap ((BitVec.ofInt (i64.bits) ((i64.wrap ((BitVec.ofInt (i64.bits) (r18.1) ^^^ BitVec.ofInt (i64.bits) (r19.1)).toNat:Nat))) ^^^ BitVec.ofInt (i64.bits) (r20.1)).toNat:Nat))+(i64.wrap ((BitVec.ofInt (i64.bits) ((i64.wrap ((BitVec.ofInt (i64.bits) ((i64.wrap ((BitVec.ofInt (i64.bits) (u2.1) &&& BitVec.ofInt (i64.bits) (u2.2.1)).toNat:Nat))) ^^^ BitVec.ofInt (i64.bits) ((i64.wrap ((BitVec.ofInt (i64.bits) (u2.1) &&& BitVec.ofInt (i64.bits) (u3.1)).toNat:Nat)))).toNat:Nat))) ^^^ BitVec.ofInt (i64.bits) ((i64.wrap ((BitVec.ofInt (i64.bits) (u2.2.1) &&& BitVec.ofInt (i64.bits) (u3.1)).toNat:Nat)))).toNat:Nat))))) &&& BitVec.ofInt (i64.bits) ((4294967295:Int))).toNat:Nat))))) &&& BitVec.ofInt (i64.bits) ((4294967295:Int))).toNat:Nat)),u2.1,u2.2.1,u3.1,(i64.wrap ((BitVec.ofInt (i64.bits) ((i64.wrap (u3.2.1+(i64.wrap ((BitVec.ofInt (i64.bits) ((i64.wrap ((i64.wrap ((i64.wrap ((i64.wrap (u5.2.1+(i64.wrap ((BitVec.ofInt (i64.bits) ((i64.wrap ((BitVec.ofInt (i64.bits) (r13.1) ^^^ BitVec.ofInt (i64.bits) (r14.1)).toNat:Nat))) ^^^ BitVec.ofInt (i64.bits) (r15.1)).toNat:Nat))))+(i64.wrap ((BitVec.ofInt (i64.bits) ((i64.wrap ((BitVec.ofInt (i64.bits) (u4.1) &&& BitVec.ofInt (i64.bits) (u4.2.1)).toNat:Nat))) ^^^ BitVec.ofInt (i64.bits) ((i64.wrap ((BitVec.ofInt (i64.bits) ((i64.wrap ((BitVec.ofInt (i64.bits) (u4.1) ^^^ BitVec.ofInt (i64.bits) ((4294967295:Int))).toNat:Nat))) &&& BitVec.ofInt (i64.bits) (u5.1)).toNat:Nat)))).toNat:Nat))))+e16.1))+e17.1))) &&& BitVec.ofInt (i64.bits) ((4294967295:Int))).toNat:Nat))))) &&& BitVec.ofInt (i64.bits) ((4294967295:Int))).toNat:Nat)),u4.1,u4.2.1,u5.1,(i64.wrap (u5.2.2.1+(1:Int))),()))) (
 .leaf (.inr (x12.1,x12.2.1,u2.1,u2.2.1,u3.1,u3.2.1,u4.1,u4.2.1,u5.1,u5.2.1,())))
def Ew (x22:(List YI)×(List YI)×(List YI)×Int×Unit):Option (((List YI)×(List YI)×(List YI)×Int×Unit)⊕(((List YI)×Unit))):=
 letI u1:=x22.2.2.2;Tree.val (α:=((List YI)×(List YI)×(List YI)×Int×Unit)⊕(((List YI)×Unit))) <|
 .br (decide (u1.1<(8:Int))) (
 .ob (idx x22.1 u1.1) fun e23=>
 .ob (idx x22.2.2.1 u1.1) fun e24=>
 .ob (idx x22.2.1 u1.1) fun e25=>
 let q26:=(x22.2.1.set (u1.1).toNat ((i64.wrap ((BitVec.ofInt (i64.bits) ((i64.wrap (e23.1+e24.1))) &&& BitVec.ofInt (i64.bits) ((4294967295:Int))).toNat:Nat)),()))
 .leaf (.inl (x22.1,q26,x22.2.2.1,(i64.wrap (u1.1+(1:Int))),()))) (
 .leaf (.inr (x22.2.1,())))
def N7 (a0:(List YI)×Unit) (a1:YBs):Tree (((List YI)×Unit)):=
 .chk (decide (([]:List YI).length+a0.1.length≤4294967296)) <|
 .ob (Ab6 a0) fun r1=>
 .br (!r1.1) (
 .leaf ((([]:List YI)++a0.1),())) (
 .br ((a1.1.length:Int) != (64:Int)) (
 .leaf ((([]:List YI)++a0.1),())) (
 .ob A27 fun r2=>
 .ob (Xd a1) fun r3=>
 .ob (idx a0.1 (0:Int)) fun e4=>
 .ob (idx a0.1 (1:Int)) fun e5=>
 .ob (idx a0.1 (2:Int)) fun e6=>
 .ob (idx a0.1 (3:Int)) fun e7=>
 .ob (idx a0.1 (4:Int)) fun e8=>
 .ob (idx a0.1 (5:Int)) fun e9=>
 .ob (idx a0.1 (6:Int)) fun e10=>
 .ob (idx a0.1 (7:Int)) fun e11=>
 .ob (A1 Fg (a0.1,(([]:List YI)++a0.1),r2.1,r3.1,e4.1,e5.1,e6.1,e7.1,e8.1,e9.1,e10.1,e11.1,(0:Int),())) fun o21=>letI u1:=o21.2.2.2;letI u2:=u1.2.2.2;
 .ob (A1 Ew (o21.1,o21.2.1,[(o21.2.2.1,()),(u1.1,()),(u1.2.1,()),(u1.2.2.1,()),(u2.1,()),(u2.2.1,()),(u2.2.2.1,()),(u2.2.2.2.1,())],(0:Int),())) fun o27=>
 .leaf o27))
def N8 (a0:(List YI)×Unit) (a1:YBs):Option (((List YI)×Unit)):=(N7 a0 a1).val
def J4 (x1:Ja):Option (Ja⊕(YBs)):=
 Tree.val (α:=Ja⊕(YBs)) <|
 .br (decide (x1.2.2.1<(8:Int))) (
 .ob (idx x1.1 x1.2.2.1) fun e2=>
 .ob (Ff (x1.2.1,()) e2 ((4:Int),())) fun r3=>
 .leaf (.inl (x1.1,r3.1,(i64.wrap (x1.2.2.1+(1:Int))),()))) (
 .leaf (.inr (x1.2.1,())))
def Aj9 (a0:(List YI)×Unit):Tree (YBs):=
 .ob (A1 J4 (a0.1,([]:List YB),(0:Int),())) fun o4=>
 .leaf o4
def Aka (a0:(List YI)×Unit):Option (YBs):=(Aj9 a0).val
def Nj (x3:(List YB)×(List YI)×Int×Unit):Option (((List YB)×(List YI)×Int×Unit)⊕(((List YI)×Unit))):=
 letI u1:=x3.2.2;Tree.val (α:=((List YB)×(List YI)×Int×Unit)⊕(((List YI)×Unit))) <|
 .br (decide (u1.1<(x3.1.length:Int))) (
 .chk (decide ((0:Int)≤u1.1)) <|
 .chk (decide (u1.1≤(i64.wrap (u1.1+(64:Int))))) <|
 .chk (decide ((i64.wrap (u1.1+(64:Int)))≤(x3.1.length:Int))) <|
 .ob (N8 (x3.2.1,()) (((x3.1.take ((i64.wrap (u1.1+(64:Int)))).toNat).drop (u1.1).toNat),())) fun r4=>
 .leaf (.inl (x3.1,r4.1,(i64.wrap (u1.1+(64:Int))),()))) (
 .leaf (.inr (x3.2.1,())))
def Aty (a0:YBs):Tree (YBs):=
 .br (decide ((a0.1.length:Int)>(1048576:Int))) (
 .leaf (([]:List YB),())) (
 .chk (decide (([]:List YB).length+a0.1.length≤4294967296)) <|
 .ob (Atw ((a0.1.length:Int),())) fun r1=>
 .chk (decide ((([]:List YB)++a0.1).length+r1.1.length≤4294967296)) <|
 .ob Avk fun r2=>
 .ob (A1 Nj (((([]:List YB)++a0.1)++r1.1),r2.1,(0:Int),())) fun o5=>
 .ob (Aka o5) fun r6=>
 .leaf r6)
def Adz (a0:YBs):Option (YBs):=(Aty a0).val
def Lm (x2:YBs):Option (YBs⊕(YBs)):=
 Tree.val (α:=YBs⊕(YBs)) <|
 .br (decide ((x2.1.length:Int)<(64:Int))) (
 .chk (decide (x2.1.length+[((0:Int),())].length≤4294967296)) <|
 .leaf (.inl ((x2.1++[((0:Int),())]),()))) (
 .leaf (.inr x2))
def Xe (a0:YBs):Tree (YBs):=
 .br (decide ((a0.1.length:Int)>(1048576:Int))) (
 .leaf (([]:List YB),())) (
 .chk (decide (([]:List YB).length+a0.1.length≤4294967296)) <|
 .br (decide ((a0.1.length:Int)>(64:Int))) (
 .ob (Adz a0) fun r1=>
 .ob (A1 Lm r1) fun o3=>
 .leaf o3) (
 .ob (A1 Lm ((([]:List YB)++a0.1),())) fun o4=>
 .leaf o4))
def Xf (a0:YBs):Option (YBs):=(Xe a0).val
def Ln (x2:(List YB)×(List YB)×(List YB)×(List YB)×Int×Unit):Option (((List YB)×(List YB)×(List YB)×(List YB)×Int×Unit)⊕(((List YB)×(List YB)×(List YB)×Unit))):=
 letI u1:=x2.2.2.2;Tree.val (α:=((List YB)×(List YB)×(List YB)×(List YB)×Int×Unit)⊕(((List YB)×(List YB)×(List YB)×Unit))) <|
 .br (decide (u1.2.1<(64:Int))) (
 .ob (idx x2.2.1 u1.2.1) fun e3=>
 .chk (decide (x2.2.2.1.length+[((u8.wrap ((BitVec.ofInt (u8.bits) (e3.1) ^^^ BitVec.ofInt (u8.bits) ((54:Int))).toNat:Nat)),())].length≤4294967296)) <|
 .ob (idx x2.2.1 u1.2.1) fun e4=>
 .chk (decide (x2.2.2.2.1.length+[((u8.wrap ((BitVec.ofInt (u8.bits) (e4.1) ^^^ BitVec.ofInt (u8.bits) ((92:Int))).toNat:Nat)),())].length≤4294967296)) <|
 .leaf (.inl (x2.1,x2.2.1,(x2.2.2.1++[((u8.wrap ((BitVec.ofInt (u8.bits) (e3.1) ^^^ BitVec.ofInt (u8.bits) ((54:Int))).toNat:Nat)),())]),(u1.1++[((u8.wrap ((BitVec.ofInt (u8.bits) (e4.1) ^^^ BitVec.ofInt (u8.bits) ((92:Int))).toNat:Nat)),())]),(i64.wrap (u1.2.1+(1:Int))),()))) (
 .leaf (.inr (x2.1,x2.2.2.1,u1.1,())))
def Apn (a0:YBs) (a1:YBs):Tree (YBs):=
 .br (decide ((a0.1.length:Int)>(1048576:Int))) (
 .leaf (([]:List YB),())) (
 .br (decide ((a1.1.length:Int)>(1048512:Int))) (
 .leaf (([]:List YB),())) (
 .ob (Xf a0) fun r1=>
 .ob (A1 Ln (a1.1,r1.1,([]:List YB),([]:List YB),(0:Int),())) fun o5=>
 .chk (decide (o5.2.1.length+o5.1.length≤4294967296)) <|
 .ob (Adz ((o5.2.1++o5.1),())) fun r6=>
 .chk (decide (o5.2.2.1.length+r6.1.length≤4294967296)) <|
 .ob (Adz ((o5.2.2.1++r6.1),())) fun r7=>
 .leaf r7))
def Qb (a0:YBs) (a1:YBs):Option (YBs):=(Apn a0 a1).val
def Q7 (a0:YBs) (a1:YBs):Tree (YBs):=
 .ob (Qb a0 a1) fun r1=>
 .leaf r1
def Q8 (a0:YBs) (a1:YBs):Option (YBs):=(Q7 a0 a1).val
def Ig (x2:(List YB)×(List YB)×Int×(List YB)×(List YB)×Int×Unit):Option (((List YB)×(List YB)×Int×(List YB)×(List YB)×Int×Unit)⊕((Int×(List YB)×Unit))):=
 letI u1:=x2.2.2;letI u2:=u1.2.2;Tree.val (α:=((List YB)×(List YB)×Int×(List YB)×(List YB)×Int×Unit)⊕((Int×(List YB)×Unit))) <|
 .br (decide ((x2.2.2.2.1.length:Int)<u1.1)) (
 .chk (decide (([]:List YB).length+x2.2.2.2.2.1.length≤4294967296)) <|
 .chk (decide ((([]:List YB)++u2.1).length+x2.2.1.length≤4294967296)) <|
 .chk (decide (((([]:List YB)++u2.1)++x2.2.1).length+[((u8.wrap (u2.2.1)),())].length≤4294967296)) <|
 .ob (Qb (x2.1,()) ((((([]:List YB)++u2.1)++x2.2.1)++[((u8.wrap (u2.2.1)),())]),())) fun r3=>
 .chk (decide (x2.2.2.2.1.length+r3.1.length≤4294967296)) <|
 .leaf (.inl (x2.1,x2.2.1,u1.1,(u1.2.1++r3.1),r3.1,(i64.wrap (u2.2.1+(1:Int))),()))) (
 .leaf (.inr (u1.1,u1.2.1,())))
def Afq (a0:YBs) (a1:YBs) (a2:YI):Tree (YBs×(Bool×Unit)):=
 .ob (Bi a2 ((0:Int),()) ((8160:Int),())) fun r1=>
 .br (!r1.1) (
 .leaf ((([]:List YB),()),(false,()))) (
 .br (decide ((a1.1.length:Int)>(100:Int))) (
 .leaf ((([]:List YB),()),(false,()))) (
 .br (decide ((a0.1.length:Int)>(1048576:Int))) (
 .leaf ((([]:List YB),()),(false,()))) (
 .ob (A1 Ig (a0.1,a1.1,a2.1,([]:List YB),([]:List YB),(1:Int),())) fun o4=>
 .chk (decide ((0:Int)≤o4.1)) <|
 .chk (decide (o4.1≤(o4.2.1.length:Int))) <|
 .chk (decide (([]:List YB).length+((o4.2.1.take (o4.1).toNat).drop ((0:Int)).toNat).length≤4294967296)) <|
 .leaf (((([]:List YB)++((o4.2.1.take (o4.1).toNat).drop ((0:Int)).toNat)),()),(true,())))))
def Afr (a0:YBs) (a1:YBs) (a2:YI):Option (YBs×(Bool×Unit)):=(Afq a0 a1 a2).val
def Afs (a0:YBs) (a1:ByteArray×Unit):Tree (YBs):=
 .chk (decide (a1.1.size≤4294967296)) <|
 .ob (Afr a0 ((N9 a1.1),()) ((32:Int),())) fun r1=>
 .leaf r1.1
def Cn (a0:YBs) (a1:ByteArray×Unit):Option (YBs):=(Afs a0 a1).val
def S2 (a0:YBs):Tree (YBs):=
 .ob (Kp a0) fun r1=>
 .br (!r1.1) (
 .leaf (([]:List YB),())) (
 .ob (Q8 ([((114:Int),()),((111:Int),()),((97:Int),()),((109:Int),())],()) a0) fun r2=>
 .ob (Cn r2 ((Ck [102,105,110,105,115,104]),())) fun r3=>
 .leaf r3)
def Ms (a0:YBs):Option (YBs):=(S2 a0).val
def S3 (a0:YI) (a1:YBs) (a2:YBs) (a3:YI) (a4:YBs):Tree (YBs):=
 .ob (Bi a0 ((1:Int),()) ((9:Int),())) fun r1=>
 .br (!r1.1) (
 .leaf (([]:List YB),())) (
 .br ((a1.1.length:Int) != (12:Int)) (
 .leaf (([]:List YB),())) (
 .br ((a2.1.length:Int) != (12:Int)) (
 .leaf (([]:List YB),())) (
 .ob (Bi a3 ((0:Int),()) ((1000000:Int),())) fun r2=>
 .br (!r2.1) (
 .leaf (([]:List YB),())) (
 .br ((a4.1.length:Int) != (16:Int)) (
 .leaf (([]:List YB),())) (
 .chk (decide ([((102:Int),()),((u8.wrap (a0.1)),())].length+a1.1.length≤4294967296)) <|
 .chk (decide (([((102:Int),()),((u8.wrap (a0.1)),())]++a1.1).length+a2.1.length≤4294967296)) <|
 .ob (Ff ((([((102:Int),()),((u8.wrap (a0.1)),())]++a1.1)++a2.1),()) a3 ((4:Int),())) fun r3=>
 .chk (decide (r3.1.length+a4.1.length≤4294967296)) <|
 .leaf ((r3.1++a4.1),()))))))
def Ju (a0:YI) (a1:YBs) (a2:YBs) (a3:YI) (a4:YBs):Option (YBs):=(S3 a0 a1 a2 a3 a4).val
def Atz (a0:YBs) (a1:YBs):Tree (YBs):=
 .ob (Qb a0 a1) fun r1=>
 .br (decide ((r1.1.length:Int)<(16:Int))) (
 .leaf (([]:List YB),())) (
 .chk (decide ((16:Int)≤(r1.1.length:Int))) <|
 .chk (decide (([]:List YB).length+((r1.1.take ((16:Int)).toNat).drop ((0:Int)).toNat).length≤4294967296)) <|
 .leaf ((([]:List YB)++((r1.1.take ((16:Int)).toNat).drop ((0:Int)).toNat)),()))
def Ad0 (a0:YBs) (a1:YBs):Option (YBs):=(Atz a0 a1).val
def Akb (a0:YBs) (a1:YI) (a2:YBs) (a3:YBs) (a4:YI) (a5:YBs):Tree (YBs):=
 .ob (Ms a0) fun r1=>
 .ob (Ju a1 a2 a3 a4 a5) fun r2=>
 .br ((r1.1.length:Int)==(0:Int)) (
 .leaf (([]:List YB),())) (
 .br ((r2.1.length:Int)==(0:Int)) (
 .leaf (([]:List YB),())) (
 .ob (Ad0 r1 r2) fun r3=>
 .leaf r3))
def Akc (a0:YBs) (a1:YI) (a2:YBs) (a3:YBs) (a4:YI) (a5:YBs):Option (YBs):=(Akb a0 a1 a2 a3 a4 a5).val
def Xg (a0:YBs) (a1:YI) (a2:Ab):Tree (Ab×(Bool×Unit)):=
 .ob (H5 a2) fun r1=>
 .br (!r1.1) (
 .leaf (((0:Int),(0:Int),([]:List YB),([]:List YB),(0:Int),([]:List YB),([]:List YB),(0:Int),(0:Int),([]:List YB),([]:List YB),()),(false,()))) (
 .br (a2.1 != (2:Int)) (
 .leaf (((0:Int),(0:Int),([]:List YB),([]:List YB),(0:Int),([]:List YB),([]:List YB),(0:Int),(0:Int),([]:List YB),([]:List YB),()),(false,()))) (
 .ob (Akc a0 a1 (a2.2.2.1,()) (a2.2.2.2.1,()) (a2.2.2.2.2.1,()) (a2.2.2.2.2.2.1,())) fun r2=>
 .br ((r2.1.length:Int)==(0:Int)) (
 .leaf (((0:Int),(0:Int),([]:List YB),([]:List YB),(0:Int),([]:List YB),([]:List YB),(0:Int),(0:Int),([]:List YB),([]:List YB),()),(false,()))) (
 .ob (Lj a2) fun r3=>letI u1:=r3.2.2.2;letI u2:=u1.2.2.2.2;
 .leaf (((3:Int),a1.1,r3.2.2.1,u1.1,u1.2.1,u1.2.2.1,r2.1,u2.1,u2.2.1,u2.2.2.1,u2.2.2.2.1,()),(true,())))))
def Xh (a0:YBs) (a1:YI) (a2:Ab):Option (Ab×(Bool×Unit)):=(Xg a0 a1 a2).val
def Ab7 (a0:YBs) (a1:YBs) (a2:YBs):Tree (YBs):=
 .ob (Kp a0) fun r1=>
 .br (!r1.1) (
 .leaf (([]:List YB),())) (
 .br ((a1.1.length:Int) != (12:Int)) (
 .leaf (([]:List YB),())) (
 .br ((a2.1.length:Int) != (12:Int)) (
 .leaf (([]:List YB),())) (
 .chk (decide (([]:List YB).length+a1.1.length≤4294967296)) <|
 .chk (decide ((([]:List YB)++a1.1).length+a2.1.length≤4294967296)) <|
 .ob (Q8 (((([]:List YB)++a1.1)++a2.1),()) a0) fun r2=>
 .leaf r2)))
def Ab8 (a0:YBs) (a1:YBs) (a2:YBs):Option (YBs):=(Ab7 a0 a1 a2).val
def Xi (a0:YBs):Tree (YBs):=
 .br ((a0.1.length:Int) != (32:Int)) (
 .leaf (([]:List YB),())) (
 .ob (Cn a0 ((Ck [101,112,111,99,104]),())) fun r1=>
 .leaf r1)
def Xj (a0:YBs):Option (YBs):=(Xi a0).val
def J5 (x2:Int×(List YB)×Int×Unit):Option ((Int×(List YB)×Int×Unit)⊕(YBs)):=
 Tree.val (α:=(Int×(List YB)×Int×Unit)⊕(YBs)) <|
 .br (decide (x2.2.2.1<x2.1)) (
 .ob (Cn (x2.2.1,()) ((Ck [114,101,107,101,121]),())) fun r3=>
 .leaf (.inl (x2.1,r3.1,(i64.wrap (x2.2.2.1+(1:Int))),()))) (
 .leaf (.inr (x2.2.1,())))
def Akd (a0:YBs) (a1:YI):Tree (YBs):=
 .ob (Bi a1 ((0:Int),()) ((64:Int),())) fun r1=>
 .br (!r1.1) (
 .leaf (([]:List YB),())) (
 .chk (decide (([]:List YB).length+a0.1.length≤4294967296)) <|
 .ob (A1 J5 (a1.1,(([]:List YB)++a0.1),(0:Int),())) fun o4=>
 .leaf o4)
def Ake (a0:YBs) (a1:YI):Option (YBs):=(Akd a0 a1).val
def Xk (a0:YBs) (a1:YBs) (a2:YBs) (a3:YI):Tree (YBs):=
 .ob (Ab8 a0 a1 a2) fun r1=>
 .ob (Xj r1) fun r2=>
 .br ((r2.1.length:Int)==(0:Int)) (
 .leaf r2) (
 .ob (Ake r2 a3) fun r3=>
 .leaf r3)
def Xl (a0:YBs) (a1:YBs) (a2:YBs) (a3:YI):Option (YBs):=(Xk a0 a1 a2 a3).val
def Ih (x1:Int×Int×(List YI)×Int×(List YI)×Unit):Option ((Int×Int×(List YI)×Int×(List YI)×Unit)⊕((Int×(List YI)×Int×(List YI)×Unit))):=
 letI u1:=x1.2.2;Tree.val (α:=(Int×Int×(List YI)×Int×(List YI)×Unit)⊕((Int×(List YI)×Int×(List YI)×Unit))) <|
 .br (decide (x1.1<(32:Int))) (
 .chk (decide (x1.2.2.2.2.1.length+[((0:Int),())].length≤4294967296)) <|
 .leaf (.inl ((i64.wrap (x1.1+(1:Int))),x1.2.1,u1.1,u1.2.1,(u1.2.2.1++[((0:Int),())]),()))) (
 .leaf (.inr (x1.2.1,u1.1,u1.2.1,u1.2.2.1,())))
def Aft:Tree (Bs):=
 .ob (A1 Ih ((0:Int),(0:Int),([]:List YI),(-1:Int),([]:List YI),())) fun o2=>
 .leaf (o2.2.2.1,o2.2.2.2.1,())
def We:Option (Bs):=(Aft).val
def Rz (a0:YI) (a1:YBs):Tree (YEp):=
 .ob (Bi a0 ((0:Int),()) ((4294967295:Int),())) fun r1=>
 .br (!r1.1) (
 .leaf ((0:Int),([]:List YB),(0:Int),(0:Int),([]:List YI),())) (
 .br ((a1.1.length:Int) != (32:Int)) (
 .leaf ((0:Int),([]:List YB),(0:Int),(0:Int),([]:List YI),())) (
 .chk (decide (([]:List YB).length+a1.1.length≤4294967296)) <|
 .ob We fun r2=>
 .leaf (a0.1,(([]:List YB)++a1.1),(0:Int),r2.1,r2.2.1,())))
def Dr (a0:YI) (a1:YBs):Option (YEp):=(Rz a0 a1).val
def Q9 (a0:YI) (a1:YBs) (a2:YBs):Tree (Ai):=
 .ob (Bi a0 ((0:Int),()) ((1:Int),())) fun r1=>
 .br (!r1.1) (
 .leaf ((0:Int),([]:List YB),(0:Int),([]:List YB),(0:Int),(0:Int),([]:List YI),(0:Int),([]:List YB),(0:Int),(0:Int),([]:List YI),false,(0:Int),([]:List YB),())) (
 .br ((a1.1.length:Int) != (12:Int)) (
 .leaf ((0:Int),([]:List YB),(0:Int),([]:List YB),(0:Int),(0:Int),([]:List YI),(0:Int),([]:List YB),(0:Int),(0:Int),([]:List YI),false,(0:Int),([]:List YB),())) (
 .br ((a2.1.length:Int) != (32:Int)) (
 .leaf ((0:Int),([]:List YB),(0:Int),([]:List YB),(0:Int),(0:Int),([]:List YI),(0:Int),([]:List YB),(0:Int),(0:Int),([]:List YI),false,(0:Int),([]:List YB),())) (
 .chk (decide (([]:List YB).length+a1.1.length≤4294967296)) <|
 .ob (Dr ((0:Int),()) a2) fun r2=>
 .leaf (a0.1,(([]:List YB)++a1.1),r2.1,r2.2.1,r2.2.2.1,r2.2.2.2.1,r2.2.2.2.2.1,(0:Int),([]:List YB),(0:Int),(0:Int),([]:List YI),false,(0:Int),([]:List YB),()))))
def J6 (a0:YI) (a1:YBs) (a2:YBs):Option (Ai):=(Q9 a0 a1 a2).val
def Apo (a0:YBs) (a1:YBs):Tree (Ah):=
 .chk (decide (([]:List YB).length+a0.1.length≤4294967296)) <|
 .chk (decide (([]:List YB).length+a1.1.length≤4294967296)) <|
 .leaf ((15:Int),(0:Int),(0:Int),([]:List YB),([]:List YB),(0:Int),(0:Int),(([]:List YB)++a1.1),(([]:List YB)++a0.1),(0:Int),(0:Int),(0:Int),())
def Afu (a0:YBs) (a1:YBs):Option (Ah):=(Apo a0 a1).val
def Afv (a0:YI) (a1:YBs) (a2:YI) (a3:YI):Tree (YBs):=
 .ob (Bi a0 ((0:Int),()) ((1:Int),())) fun r1=>
 .br (!r1.1) (
 .leaf (([]:List YB),())) (
 .br ((a1.1.length:Int) != (12:Int)) (
 .leaf (([]:List YB),())) (
 .ob (Bi a2 ((0:Int),()) ((4294967295:Int),())) fun r2=>
 .br (!r2.1) (
 .leaf (([]:List YB),())) (
 .ob (Bi a3 ((0:Int),()) ((281474976710655:Int),())) fun r3=>
 .br (!r3.1) (
 .leaf (([]:List YB),())) (
 .chk (decide ([((u8.wrap (a0.1)),())].length+a1.1.length≤4294967296)) <|
 .ob (Ff (([((u8.wrap (a0.1)),())]++a1.1),()) a2 ((4:Int),())) fun r4=>
 .ob (Ff r4 a3 ((6:Int),())) fun r5=>
 .leaf r5))))
def Lo (a0:YI) (a1:YBs) (a2:YI) (a3:YI):Option (YBs):=(Afv a0 a1 a2 a3).val
def Xm (a0:YI) (a1:Ab):Tree (YBs):=
 letI u1:=a1.2.2.2.2.2.2.2;.ob (Bi a0 ((0:Int),()) ((1:Int),())) fun r1=>
 .br (!r1.1) (
 .leaf (([]:List YB),())) (
 .ob (H5 a1) fun r2=>
 .br (!r2.1) (
 .leaf (([]:List YB),())) (
 .ob (Hq (a1.1,())) fun r3=>
 .br (!r3.1) (
 .leaf (([]:List YB),())) (
 .ob (Lo a0 (a1.2.2.2.1,()) (u1.1,()) (u1.2.1,())) fun r4=>
 .chk (decide ([((116:Int),())].length+r4.1.length≤4294967296)) <|
 .chk (decide (([((116:Int),())]++r4.1).length+[((u8.wrap (a1.1)),())].length≤4294967296)) <|
 .chk (decide ((([((116:Int),())]++r4.1)++[((u8.wrap (a1.1)),())]).length+a1.2.2.2.2.2.2.2.2.2.1.length≤4294967296)) <|
 .leaf (((([((116:Int),())]++r4.1)++[((u8.wrap (a1.1)),())])++u1.2.2.1),()))))
def Gx (a0:YI) (a1:Ab):Option (YBs):=(Xm a0 a1).val
def Ab9 (a0:YI):Tree (YI):=
 .br (decide (a0.1<(1024:Int))) (
 .leaf ((0:Int),())) (
 .leaf ((i64.wrap ((i64.wrap (a0.1-(1024:Int)))+(1:Int))),()))
def Anw (a0:YI):Option (YI):=(Ab9 a0).val
def Afw (a0:Bs) (a1:YI):Tree ((Bool×Unit)):=
 .ob (Aar a0) fun r1=>
 .br (!r1.1) (
 .leaf (false,())) (
 .ob (Bi a1 ((0:Int),()) ((281474976710655:Int),())) fun r2=>
 .br (!r2.1) (
 .leaf (false,())) (
 .br (decide (a1.1>a0.1)) (
 .leaf (true,())) (
 .ob (Anw (a0.1,())) fun r3=>
 .br (decide (a1.1≥r3.1)) (
 .ob (Ry a0 a1) fun r4=>
 .leaf ((!r4.1),())) (
 .leaf (false,())))))
def Wg (a0:Bs) (a1:YI):Option ((Bool×Unit)):=(Afw a0 a1).val
def Oa (x1:(List YB)×(List YB)×Int×Int×Unit):Option (((List YB)×(List YB)×Int×Int×Unit)⊕(YI)):=
 letI u1:=x1.2.2;Tree.val (α:=((List YB)×(List YB)×Int×Int×Unit)⊕(YI)) <|
 .br (decide (u1.2.1<(x1.1.length:Int))) (
 .ob (idx x1.1 u1.2.1) fun e2=>
 .ob (idx x1.2.1 u1.2.1) fun e3=>
 .leaf (.inl (x1.1,x1.2.1,(i64.wrap ((BitVec.ofInt (i64.bits) (u1.1) ||| BitVec.ofInt (i64.bits) ((i64.wrap ((u8.wrap ((BitVec.ofInt (u8.bits) (e2.1) ^^^ BitVec.ofInt (u8.bits) (e3.1)).toNat:Nat)))))).toNat:Nat)),(i64.wrap (u1.2.1+(1:Int))),()))) (
 .leaf (.inr (u1.1,())))
def App (a0:YBs) (a1:YBs):Tree (YI):=
 .br ((a0.1.length:Int) != (a1.1.length:Int)) (
 .leaf ((-1:Int),())) (
 .ob (A1 Oa (a0.1,a1.1,(0:Int),(0:Int),())) fun o4=>
 .leaf o4)
def Apq (a0:YBs) (a1:YBs):Option (YI):=(App a0 a1).val
def Aca (a0:YBs) (a1:YBs):Tree ((Bool×Unit)):=
 .br ((a0.1.length:Int)==(16:Int)) (
 .ob (Apq a0 a1) fun r1=>
 .leaf ((r1.1==(0:Int)),())) (
 .leaf (false,()))
def Acb (a0:YBs) (a1:YBs):Option ((Bool×Unit)):=(Aca a0 a1).val
def Acc (a0:YBs) (a1:YBs) (a2:YI):Tree (YBs):=
 .ob (Bi a2 ((0:Int),()) ((6:Int),())) fun r1=>
 .br (!r1.1) (
 .leaf (([]:List YB),())) (
 .br (decide ((a1.1.length:Int)>(100:Int))) (
 .leaf (([]:List YB),())) (
 .chk (decide ([((115:Int),())].length+a1.1.length≤4294967296)) <|
 .ob (Ff (([((115:Int),())]++a1.1),()) a2 ((4:Int),())) fun r2=>
 .ob (Qb a0 r2) fun r3=>
 .leaf r3))
def Acd (a0:YBs) (a1:YBs) (a2:YI):Option (YBs):=(Acc a0 a1 a2).val
def Ii (x2:(List YB)×(List YB)×Int×(List YB)×Int×Unit):Option (((List YB)×(List YB)×Int×(List YB)×Int×Unit)⊕((Int×(List YB)×Unit))):=
 letI u1:=x2.2.2;Tree.val (α:=((List YB)×(List YB)×Int×(List YB)×Int×Unit)⊕((Int×(List YB)×Unit))) <|
 .br (decide ((x2.2.2.2.1.length:Int)<u1.1)) (
 .ob (Acd (x2.1,()) (x2.2.1,()) (u1.2.2.1,())) fun r3=>
 .chk (decide (x2.2.2.2.1.length+r3.1.length≤4294967296)) <|
 .leaf (.inl (x2.1,x2.2.1,u1.1,(u1.2.1++r3.1),(i64.wrap (u1.2.2.1+(1:Int))),()))) (
 .leaf (.inr (u1.1,u1.2.1,())))
def Afx (a0:YBs) (a1:YBs) (a2:YI):Tree (YBs):=
 .ob (Bi a2 ((0:Int),()) ((200:Int),())) fun r1=>
 .br (!r1.1) (
 .leaf (([]:List YB),())) (
 .br (decide ((a1.1.length:Int)>(100:Int))) (
 .leaf (([]:List YB),())) (
 .br (decide ((a0.1.length:Int)>(1048576:Int))) (
 .leaf (([]:List YB),())) (
 .ob (A1 Ii (a0.1,a1.1,a2.1,([]:List YB),(0:Int),())) fun o4=>
 .chk (decide ((0:Int)≤o4.1)) <|
 .chk (decide (o4.1≤(o4.2.1.length:Int))) <|
 .chk (decide (([]:List YB).length+((o4.2.1.take (o4.1).toNat).drop ((0:Int)).toNat).length≤4294967296)) <|
 .leaf ((([]:List YB)++((o4.2.1.take (o4.1).toNat).drop ((0:Int)).toNat)),()))))
def Afy (a0:YBs) (a1:YBs) (a2:YI):Option (YBs):=(Afx a0 a1 a2).val
def Nk (x2:(List YB)×(List YB)×(List YB)×Int×Unit):Option (((List YB)×(List YB)×(List YB)×Int×Unit)⊕(YBs)):=
 letI u1:=x2.2.2;Tree.val (α:=((List YB)×(List YB)×(List YB)×Int×Unit)⊕(YBs)) <|
 .br (decide (u1.2.1<(x2.1.length:Int))) (
 .ob (idx x2.1 u1.2.1) fun e3=>
 .ob (idx u1.1 u1.2.1) fun e4=>
 .chk (decide (x2.2.1.length+[((u8.wrap ((BitVec.ofInt (u8.bits) (e3.1) ^^^ BitVec.ofInt (u8.bits) (e4.1)).toNat:Nat)),())].length≤4294967296)) <|
 .leaf (.inl (x2.1,(x2.2.1++[((u8.wrap ((BitVec.ofInt (u8.bits) (e3.1) ^^^ BitVec.ofInt (u8.bits) (e4.1)).toNat:Nat)),())]),u1.1,(i64.wrap (u1.2.1+(1:Int))),()))) (
 .leaf (.inr (x2.2.1,())))
def At0 (a0:YBs) (a1:YBs) (a2:YBs):Tree (YBs):=
 .br (decide ((a2.1.length:Int)>(200:Int))) (
 .leaf (([]:List YB),())) (
 .br (decide ((a1.1.length:Int)>(100:Int))) (
 .leaf (([]:List YB),())) (
 .br (decide ((a0.1.length:Int)>(1048576:Int))) (
 .leaf (([]:List YB),())) (
 .ob (Afy a0 a1 ((a2.1.length:Int),())) fun r1=>
 .ob (A1 Nk (a2.1,([]:List YB),r1.1,(0:Int),())) fun o5=>
 .leaf o5)))
def Am7 (a0:YBs) (a1:YBs) (a2:YBs):Option (YBs):=(At0 a0 a1 a2).val
def Afz (a0:YBs) (a1:YI) (a2:Ab):Tree (YBs×(Bool×Unit)):=
 letI u1:=a2.2.2.2.2.2.2.2;.ob (Gx a1 a2) fun r1=>
 .br ((a0.1.length:Int) != (32:Int)) (
 .leaf ((([]:List YB),()),(false,()))) (
 .br ((r1.1.length:Int)==(0:Int)) (
 .leaf ((([]:List YB),()),(false,()))) (
 .ob (Ad0 a0 r1) fun r2=>
 .ob (Acb (u1.2.2.2.1,()) r2) fun r3=>
 .br (!r3.1) (
 .leaf ((([]:List YB),()),(false,()))) (
 .ob (Lo a1 (a2.2.2.2.1,()) (u1.1,()) (u1.2.1,())) fun r4=>
 .ob (Am7 a0 r4 (u1.2.2.1,())) fun r5=>
 .leaf (r5,(true,())))))
def Af0 (a0:YBs) (a1:YI) (a2:Ab):Option (YBs×(Bool×Unit)):=(Afz a0 a1 a2).val
def Ij (x3:Int×Int×Int×Int×(List YI)×Int×(List YI)×Int×(List YI)×Unit):Option ((Int×Int×Int×Int×(List YI)×Int×(List YI)×Int×(List YI)×Unit)⊕((Int×Int×(List YI)×Int×(List YI)×Int×(List YI)×Unit))):=
 letI u1:=x3.2.2;letI u2:=u1.2.2;letI u3:=u2.2.2;Tree.val (α:=(Int×Int×Int×Int×(List YI)×Int×(List YI)×Int×(List YI)×Unit)⊕((Int×Int×(List YI)×Int×(List YI)×Int×(List YI)×Unit))) <|
 .br (decide (u1.1≤x3.1)) (
 .br (decide (x3.2.1<(1024:Int))) (
 .chk (decide ((0:Int)≤u1.1)) <|
 .chk (decide ((0:Int)≤(u1.1%(1024:Int)))) <|
 .chk (decide ((0:Int)≤(u1.1%(1024:Int)))) <|
 .ob (idx u3.2.2.1 ((u1.1%(1024:Int))/(32:Int))) fun e4=>
 .chk (decide ((0:Int)≤(u1.1%(1024:Int)))) <|
 .chk (decide ((0:Int)≤((u1.1%(1024:Int))%(32:Int)))) <|
 .ob (idx u3.2.2.1 ((u1.1%(1024:Int))/(32:Int))) fun e5=>
 let q6:=(x3.2.2.2.2.2.2.2.2.1.set (((u1.1%(1024:Int))/(32:Int))).toNat ((i64.wrap ((BitVec.ofInt (i64.bits) (e4.1) &&& ~~~ BitVec.ofInt (i64.bits) ((i64.wrap ((1:Int)*2^(min (((u1.1%(1024:Int))%(32:Int))).toNat i64.bits))))).toNat:Nat)),()))
 .leaf (.inl (x3.1,(i64.wrap (x3.2.1+(1:Int))),(i64.wrap (u1.1+(1:Int))),u1.2.1,u2.1,u2.2.1,u3.1,u3.2.1,q6,()))) (
 .leaf (.inr (x3.1,u1.2.1,u2.1,u2.2.1,u3.1,u3.2.1,u3.2.2.1,())))) (
 .leaf (.inr (x3.1,u1.2.1,u2.1,u2.2.1,u3.1,u3.2.1,u3.2.2.1,())))
def Af1 (a0:Bs) (a1:YI):Tree (Bs×(Bool×Unit)):=
 .ob (Afk a0) fun r1=>
 .ob (Wg a0 a1) fun r2=>
 .br (!r2.1) (
 .leaf (r1,(false,()))) (
 .ob (A1 Ij (a1.1,(0:Int),(i64.wrap (a0.1+(1:Int))),a0.1,a0.2.1,(0:Int),([]:List YI),r1.1,r1.2.1,())) fun o7=>letI u1:=o7.2.2.2.2.2;
 .chk (decide ((0:Int)≤o7.1)) <|
 .chk (decide ((0:Int)≤(o7.1%(1024:Int)))) <|
 .chk (decide ((0:Int)≤(o7.1%(1024:Int)))) <|
 .ob (idx u1.2.1 ((o7.1%(1024:Int))/(32:Int))) fun e8=>
 .chk (decide ((0:Int)≤(o7.1%(1024:Int)))) <|
 .chk (decide ((0:Int)≤((o7.1%(1024:Int))%(32:Int)))) <|
 .ob (idx u1.2.1 ((o7.1%(1024:Int))/(32:Int))) fun e9=>
 let q10:=(o7.2.2.2.2.2.2.1.set (((o7.1%(1024:Int))/(32:Int))).toNat ((i64.wrap ((BitVec.ofInt (i64.bits) (e8.1) ||| BitVec.ofInt (i64.bits) ((i64.wrap ((1:Int)*2^(min (((o7.1%(1024:Int))%(32:Int))).toNat i64.bits))))).toNat:Nat)),()))
 .br (decide (o7.1>o7.2.1)) (
 .leaf ((o7.1,q10,()),(true,()))) (
 .leaf ((u1.1,q10,()),(true,()))))
def Ob (a0:Bs) (a1:YI):Option (Bs×(Bool×Unit)):=(Af1 a0 a1).val
def Af2 (a0:YEp) (a1:YI) (a2:Ab):Tree (YEp×YBs×YI):=
 letI u1:=a0.2.2.2;letI u2:=a2.2.2.2.2.2.2.2;.ob (Lk a0) fun r1=>
 .ob (M6 a0) fun r2=>
 .br (!r2.1) (
 .leaf (r1,(([]:List YB),()),((1:Int),()))) (
 .ob (Gx a1 a2) fun r3=>
 .br ((r3.1.length:Int)==(0:Int)) (
 .leaf (r1,(([]:List YB),()),((1:Int),()))) (
 .br (u2.1 != a0.1) (
 .leaf (r1,(([]:List YB),()),((1:Int),()))) (
 .ob (Wg (u1.1,u1.2.1,()) (u2.2.1,())) fun r4=>
 .br (!r4.1) (
 .leaf (r1,(([]:List YB),()),((3:Int),()))) (
 .ob (Af0 (a0.2.1,()) a1 a2) fun r5=>
 .br (!r5.2.1) (
 .leaf (r1,(([]:List YB),()),((2:Int),()))) (
 .ob (Ob (u1.1,u1.2.1,()) (u2.2.1,())) fun r6=>
 .leaf ((r1.1,r1.2.1,r1.2.2.1,r6.1.1,r6.1.2.1,()),r5.1,((0:Int),())))))))
def Hr (a0:YEp) (a1:YI) (a2:Ab):Option (YEp×YBs×YI):=(Af2 a0 a1 a2).val
def Oc (a0:Ai) (a1:YI) (a2:Ab):Tree (Ai×YBs×YI):=
 letI u1:=a0.2.2;letI u2:=u1.2.2;letI u3:=u2.2.2.2;letI u4:=u3.2.2;letI u5:=u4.2.2;letI u6:=u5.2.2;letI u7:=a2.2.2.2.2.2.2.2;.ob (Ma a0) fun r1=>letI u8:=r1.2.2;letI u9:=u8.2.2;letI u10:=u9.2.2;letI u11:=u10.2.2;letI u12:=u11.2.2;letI u13:=u12.2.2;letI u14:=u13.2.2;
 .ob (Jb a0) fun r2=>
 .br (!r2.1) (
 .leaf (r1,(([]:List YB),()),((1:Int),()))) (
 .ob (Bi a1 ((0:Int),()) ((1000000:Int),())) fun r3=>
 .br (!r3.1) (
 .leaf (r1,(([]:List YB),()),((1:Int),()))) (
 .ob (H5 a2) fun r4=>
 .br (!r4.1) (
 .leaf (r1,(([]:List YB),()),((1:Int),()))) (
 .ob (Hq (a2.1,())) fun r5=>
 .br (!r5.1) (
 .leaf (r1,(([]:List YB),()),((1:Int),()))) (
 .ob (N4 (a2.2.2.2.1,()) (a0.2.1,())) fun r6=>
 .br (!r6.1) (
 .leaf (r1,(([]:List YB),()),((8:Int),()))) (
 .br (u7.1==u1.1) (
 .ob (Hr (u1.1,u1.2.1,u2.1,u2.2.1,u2.2.2.1,()) ((i64.wrap ((1:Int)-a0.1)),()) a2) fun r7=>letI u15:=r7.1.2.2;
 .br (r7.2.2.1 != (0:Int)) (
 .leaf (r1,(([]:List YB),()),r7.2.2)) (
 .br u5.2.1 (
 .br (u6.1==(-1:Int)) (
 .leaf ((r1.1,r1.2.1,r7.1.1,r7.1.2.1,u15.1,u15.2.1,u15.2.2.1,u10.2.1,u11.1,u11.2.1,u12.1,u12.2.1,u13.1,(i64.wrap (a1.1+(5:Int))),u14.1,()),r7.2.1,((0:Int),()))) (
 .leaf ((r1.1,r1.2.1,r7.1.1,r7.1.2.1,u15.1,u15.2.1,u15.2.2.1,u10.2.1,u11.1,u11.2.1,u12.1,u12.2.1,u13.1,u13.2.1,u14.1,()),r7.2.1,((0:Int),())))) (
 .leaf ((r1.1,r1.2.1,r7.1.1,r7.1.2.1,u15.1,u15.2.1,u15.2.2.1,u10.2.1,u11.1,u11.2.1,u12.1,u12.2.1,u13.1,u13.2.1,u14.1,()),r7.2.1,((0:Int),()))))) (
 .br u5.2.1 (
 .br (u7.1==u3.1) (
 .br (u6.1 != (-1:Int)) (
 .br (decide (a1.1>u6.1)) (
 .leaf (r1,(([]:List YB),()),((9:Int),()))) (
 .ob (Hr (u3.1,u3.2.1,u4.1,u4.2.1,u5.1,()) ((i64.wrap ((1:Int)-a0.1)),()) a2) fun r8=>
 .br (r8.2.2.1 != (0:Int)) (
 .leaf (r1,(([]:List YB),()),r8.2.2)) (
 .leaf ((r1.1,r1.2.1,u8.1,u8.2.1,u9.1,u9.2.1,u10.1,r8.1.1,r8.1.2.1,r8.1.2.2.1,r8.1.2.2.2.1,r8.1.2.2.2.2.1,u13.1,u13.2.1,u14.1,()),r8.2.1,((0:Int),()))))) (
 .ob (Hr (u3.1,u3.2.1,u4.1,u4.2.1,u5.1,()) ((i64.wrap ((1:Int)-a0.1)),()) a2) fun r9=>
 .br (r9.2.2.1 != (0:Int)) (
 .leaf (r1,(([]:List YB),()),r9.2.2)) (
 .leaf ((r1.1,r1.2.1,u8.1,u8.2.1,u9.1,u9.2.1,u10.1,r9.1.1,r9.1.2.1,r9.1.2.2.1,r9.1.2.2.2.1,r9.1.2.2.2.2.1,u13.1,u13.2.1,u14.1,()),r9.2.1,((0:Int),()))))) (
 .br (decide ((a0.2.2.2.2.2.2.2.2.2.2.2.2.2.2.1.length:Int)>(0:Int))) (
 .br (u7.1==(i64.wrap (u1.1+(1:Int)))) (
 .ob (Dr ((i64.wrap (u1.1+(1:Int))),()) (u6.2.1,())) fun r10=>
 .ob (Hr r10 ((i64.wrap ((1:Int)-a0.1)),()) a2) fun r11=>
 .br (r11.2.2.1 != (0:Int)) (
 .leaf (r1,(([]:List YB),()),r11.2.2)) (
 .leaf ((r1.1,r1.2.1,r11.1.1,r11.1.2.1,r11.1.2.2.1,r11.1.2.2.2.1,r11.1.2.2.2.2.1,u8.1,u8.2.1,u9.1,u9.2.1,u10.1,true,(i64.wrap (a1.1+(5:Int))),([]:List YB),()),r11.2.1,((0:Int),())))) (
 .leaf (r1,(([]:List YB),()),((8:Int),())))) (
 .leaf (r1,(([]:List YB),()),((8:Int),()))))) (
 .br (decide ((a0.2.2.2.2.2.2.2.2.2.2.2.2.2.2.1.length:Int)>(0:Int))) (
 .br (u7.1==(i64.wrap (u1.1+(1:Int)))) (
 .ob (Dr ((i64.wrap (u1.1+(1:Int))),()) (u6.2.1,())) fun r12=>
 .ob (Hr r12 ((i64.wrap ((1:Int)-a0.1)),()) a2) fun r13=>
 .br (r13.2.2.1 != (0:Int)) (
 .leaf (r1,(([]:List YB),()),r13.2.2)) (
 .leaf ((r1.1,r1.2.1,r13.1.1,r13.1.2.1,r13.1.2.2.1,r13.1.2.2.2.1,r13.1.2.2.2.2.1,u8.1,u8.2.1,u9.1,u9.2.1,u10.1,true,(i64.wrap (a1.1+(5:Int))),([]:List YB),()),r13.2.1,((0:Int),())))) (
 .leaf (r1,(([]:List YB),()),((8:Int),())))) (
 .leaf (r1,(([]:List YB),()),((8:Int),()))))))))))
def Gy (a0:Ai) (a1:YI) (a2:Ab):Option (Ai×YBs×YI):=(Oc a0 a1 a2).val
def Af3 (a0:Ai) (a1:YI):Tree (YBs×(Bool×Unit)):=
 letI u1:=a0.2.2;letI u2:=u1.2.2.2.2.2;letI u3:=u2.2.2.2.2.2;.ob (Jb a0) fun r1=>
 .br (!r1.1) (
 .leaf ((([]:List YB),()),(false,()))) (
 .br u3.1 (
 .br (a1.1==u2.1) (
 .chk (decide (([]:List YB).length+a0.2.2.2.2.2.2.2.2.1.length≤4294967296)) <|
 .leaf (((([]:List YB)++u2.2.1),()),(true,()))) (
 .br (a1.1==u1.1) (
 .chk (decide (([]:List YB).length+a0.2.2.2.1.length≤4294967296)) <|
 .leaf (((([]:List YB)++u1.2.1),()),(true,()))) (
 .br (decide ((a0.2.2.2.2.2.2.2.2.2.2.2.2.2.2.1.length:Int)>(0:Int))) (
 .br (a1.1==(i64.wrap (u1.1+(1:Int)))) (
 .chk (decide (([]:List YB).length+a0.2.2.2.2.2.2.2.2.2.2.2.2.2.2.1.length≤4294967296)) <|
 .leaf (((([]:List YB)++u3.2.2.1),()),(true,()))) (
 .leaf ((([]:List YB),()),(false,())))) (
 .leaf ((([]:List YB),()),(false,())))))) (
 .br (a1.1==u1.1) (
 .chk (decide (([]:List YB).length+a0.2.2.2.1.length≤4294967296)) <|
 .leaf (((([]:List YB)++u1.2.1),()),(true,()))) (
 .br (decide ((a0.2.2.2.2.2.2.2.2.2.2.2.2.2.2.1.length:Int)>(0:Int))) (
 .br (a1.1==(i64.wrap (u1.1+(1:Int)))) (
 .chk (decide (([]:List YB).length+a0.2.2.2.2.2.2.2.2.2.2.2.2.2.2.1.length≤4294967296)) <|
 .leaf (((([]:List YB)++u3.2.2.1),()),(true,()))) (
 .leaf ((([]:List YB),()),(false,())))) (
 .leaf ((([]:List YB),()),(false,()))))))
def Wh (a0:Ai) (a1:YI):Option (YBs×(Bool×Unit)):=(Af3 a0 a1).val
def Apr (a0:YBs) (a1:YBs) (a2:YBs):Tree (Ah):=
 .chk (decide (([]:List YB).length+a0.1.length≤4294967296)) <|
 .chk (decide (([]:List YB).length+a1.1.length≤4294967296)) <|
 .chk (decide (([]:List YB).length+a2.1.length≤4294967296)) <|
 .leaf ((16:Int),(0:Int),(0:Int),([]:List YB),(([]:List YB)++a1.1),(0:Int),(0:Int),(([]:List YB)++a2.1),(([]:List YB)++a0.1),(0:Int),(0:Int),(0:Int),())
def Aps (a0:YBs) (a1:YBs) (a2:YBs):Option (Ah):=(Apr a0 a1 a2).val
def Jc (x5:(List YB)×Int×Int×Int×Int×(List YB)×(List YB)×Int×(List YB)×(List YB)×Int×Int×(List YB)×(List YB)×Int×Int×(List YB)×(List YB)×Int×(List YB)×(List YB)×Int×Int×(List YB)×(List YB)×Unit):Option (((List YB)×Int×Int×Int×Int×(List YB)×(List YB)×Int×(List YB)×(List YB)×Int×Int×(List YB)×(List YB)×Int×Int×(List YB)×(List YB)×Int×(List YB)×(List YB)×Int×Int×(List YB)×(List YB)×Unit)⊕(((List YB)×Int×Int×Int×(List YB)×(List YB)×Int×(List YB)×(List YB)×Int×Int×(List YB)×(List YB)×Int×Int×(List YB)×(List YB)×Int×(List YB)×(List YB)×Int×Int×(List YB)×(List YB)×Unit))):=
 letI u1:=x5.2.2;letI u2:=u1.2.2;letI u3:=u2.2.2;letI u4:=u3.2.2;letI u5:=u4.2.2;letI u6:=u5.2.2;letI u7:=u6.2.2;letI u8:=u7.2.2;letI u9:=u8.2.2;letI u10:=u9.2.2;letI u11:=u10.2.2;Tree.val (α:=((List YB)×Int×Int×Int×Int×(List YB)×(List YB)×Int×(List YB)×(List YB)×Int×Int×(List YB)×(List YB)×Int×Int×(List YB)×(List YB)×Int×(List YB)×(List YB)×Int×Int×(List YB)×(List YB)×Unit)⊕(((List YB)×Int×Int×Int×(List YB)×(List YB)×Int×(List YB)×(List YB)×Int×Int×(List YB)×(List YB)×Int×Int×(List YB)×(List YB)×Int×(List YB)×(List YB)×Int×Int×(List YB)×(List YB)×Unit))) <|
 .br (decide (u1.1<(16:Int))) (
 .chk (decide (x5.2.2.2.2.2.2.2.2.2.2.2.2.2.2.2.2.2.2.2.2.2.2.2.2.1.length+[((0:Int),())].length≤4294967296)) <|
 .leaf (.inl (x5.1,x5.2.1,(i64.wrap (u1.1+(1:Int))),u1.2.1,u2.1,u2.2.1,u3.1,u3.2.1,u4.1,u4.2.1,u5.1,u5.2.1,u6.1,u6.2.1,u7.1,u7.2.1,u8.1,u8.2.1,u9.1,u9.2.1,u10.1,u10.2.1,u11.1,u11.2.1,(u11.2.2.1++[((0:Int),())]),()))) (
 .leaf (.inr (x5.1,x5.2.1,u1.2.1,u2.1,u2.2.1,u3.1,u3.2.1,u4.1,u4.2.1,u5.1,u5.2.1,u6.1,u6.2.1,u7.1,u7.2.1,u8.1,u8.2.1,u9.1,u9.2.1,u10.1,u10.2.1,u11.1,u11.2.1,u11.2.2.1,())))
def Af4 (a0:YBs) (a1:YI) (a2:YBs) (a3:YI) (a4:YI) (a5:YI) (a6:YBs):Tree (Ab×(Bool×Unit)):=
 .ob (Lo a1 a2 a3 a4) fun r1=>
 .br ((a0.1.length:Int) != (32:Int)) (
 .leaf (((0:Int),(0:Int),([]:List YB),([]:List YB),(0:Int),([]:List YB),([]:List YB),(0:Int),(0:Int),([]:List YB),([]:List YB),()),(false,()))) (
 .br ((r1.1.length:Int)==(0:Int)) (
 .leaf (((0:Int),(0:Int),([]:List YB),([]:List YB),(0:Int),([]:List YB),([]:List YB),(0:Int),(0:Int),([]:List YB),([]:List YB),()),(false,()))) (
 .ob (Hq a5) fun r2=>
 .br (!r2.1) (
 .leaf (((0:Int),(0:Int),([]:List YB),([]:List YB),(0:Int),([]:List YB),([]:List YB),(0:Int),(0:Int),([]:List YB),([]:List YB),()),(false,()))) (
 .ob (N3 a5 ((a6.1.length:Int),())) fun r3=>
 .br (!r3.1) (
 .leaf (((0:Int),(0:Int),([]:List YB),([]:List YB),(0:Int),([]:List YB),([]:List YB),(0:Int),(0:Int),([]:List YB),([]:List YB),()),(false,()))) (
 .chk (decide (([]:List YB).length+a2.1.length≤4294967296)) <|
 .ob (Am7 a0 r1 a6) fun r4=>
 .ob (A1 Jc (a0.1,a1.1,(0:Int),(0:Int),(0:Int),([]:List YB),([]:List YB),(0:Int),([]:List YB),([]:List YB),(0:Int),(0:Int),([]:List YB),([]:List YB),a5.1,(0:Int),([]:List YB),(([]:List YB)++a2.1),(0:Int),([]:List YB),([]:List YB),a3.1,a4.1,r4.1,([]:List YB),())) fun o6=>letI u1:=o6.2.2.2.2.2.2.2.2.2.2.2.2.2;letI u2:=u1.2.2;letI u3:=u2.2.2;letI u4:=u3.2.2;letI u5:=u4.2.2;
 .ob (Gx (o6.2.1,()) (u1.1,u1.2.1,u2.1,u2.2.1,u3.1,u3.2.1,u4.1,u4.2.1,u5.1,u5.2.1,u5.2.2.1,())) fun r7=>
 .ob (Ad0 (o6.1,()) r7) fun r8=>
 .leaf ((u1.1,u1.2.1,u2.1,u2.2.1,u3.1,u3.2.1,u4.1,u4.2.1,u5.1,u5.2.1,r8.1,()),(true,()))))))
def Bl (a0:YBs) (a1:YI) (a2:YBs) (a3:YI) (a4:YI) (a5:YI) (a6:YBs):Option (Ab×(Bool×Unit)):=(Af4 a0 a1 a2 a3 a4 a5 a6).val
def Af5 (a0:YEp) (a1:YI) (a2:YBs) (a3:YI) (a4:YBs):Tree (YEp×Ab×YI):=
 letI u1:=a0.2.2;.ob (Lk a0) fun r1=>letI u2:=r1.2.2.2;
 .ob (M6 a0) fun r2=>
 .br (!r2.1) (
 .leaf (r1,((0:Int),(0:Int),([]:List YB),([]:List YB),(0:Int),([]:List YB),([]:List YB),(0:Int),(0:Int),([]:List YB),([]:List YB),()),((1:Int),()))) (
 .ob (Lo a1 a2 (a0.1,()) ((0:Int),())) fun r3=>
 .br ((r3.1.length:Int)==(0:Int)) (
 .leaf (r1,((0:Int),(0:Int),([]:List YB),([]:List YB),(0:Int),([]:List YB),([]:List YB),(0:Int),(0:Int),([]:List YB),([]:List YB),()),((1:Int),()))) (
 .ob (Hq a3) fun r4=>
 .br (!r4.1) (
 .leaf (r1,((0:Int),(0:Int),([]:List YB),([]:List YB),(0:Int),([]:List YB),([]:List YB),(0:Int),(0:Int),([]:List YB),([]:List YB),()),((1:Int),()))) (
 .ob (N3 a3 ((a4.1.length:Int),())) fun r5=>
 .br (!r5.1) (
 .leaf (r1,((0:Int),(0:Int),([]:List YB),([]:List YB),(0:Int),([]:List YB),([]:List YB),(0:Int),(0:Int),([]:List YB),([]:List YB),()),((1:Int),()))) (
 .br (a3.1==(4:Int)) (
 .br (decide (u1.1≥(281474976709656:Int))) (
 .leaf (r1,((0:Int),(0:Int),([]:List YB),([]:List YB),(0:Int),([]:List YB),([]:List YB),(0:Int),(0:Int),([]:List YB),([]:List YB),()),((4:Int),()))) (
 .br (u1.1==(281474976710656:Int)) (
 .leaf (r1,((0:Int),(0:Int),([]:List YB),([]:List YB),(0:Int),([]:List YB),([]:List YB),(0:Int),(0:Int),([]:List YB),([]:List YB),()),((5:Int),()))) (
 .ob (Bl (a0.2.1,()) a1 a2 (a0.1,()) (u1.1,()) a3 a4) fun r6=>
 .leaf ((r1.1,r1.2.1,(i64.wrap (u1.1+(1:Int))),u2.1,u2.2.1,()),r6.1,((0:Int),()))))) (
 .br (u1.1==(281474976710656:Int)) (
 .leaf (r1,((0:Int),(0:Int),([]:List YB),([]:List YB),(0:Int),([]:List YB),([]:List YB),(0:Int),(0:Int),([]:List YB),([]:List YB),()),((5:Int),()))) (
 .ob (Bl (a0.2.1,()) a1 a2 (a0.1,()) (u1.1,()) a3 a4) fun r7=>
 .leaf ((r1.1,r1.2.1,(i64.wrap (u1.1+(1:Int))),u2.1,u2.2.1,()),r7.1,((0:Int),()))))))))
def Af6 (a0:YEp) (a1:YI) (a2:YBs) (a3:YI) (a4:YBs):Option (YEp×Ab×YI):=(Af5 a0 a1 a2 a3 a4).val
def Xn (a0:Ai) (a1:YI) (a2:YBs):Tree (Ai×Ab×YI):=
 letI u1:=a0.2.2.2;.ob (Ma a0) fun r1=>letI u2:=r1.2.2.2.2.2.2.2;letI u3:=u2.2.2.2;
 .ob (Jb a0) fun r2=>
 .br (!r2.1) (
 .leaf (r1,((0:Int),(0:Int),([]:List YB),([]:List YB),(0:Int),([]:List YB),([]:List YB),(0:Int),(0:Int),([]:List YB),([]:List YB),()),((1:Int),()))) (
 .ob (Af6 (a0.2.2.1,u1.1,u1.2.1,u1.2.2.1,u1.2.2.2.1,()) (a0.1,()) (a0.2.1,()) a1 a2) fun r3=>
 .br (r3.2.2.1==(0:Int)) (
 .leaf ((r1.1,r1.2.1,r3.1.1,r3.1.2.1,r3.1.2.2.1,r3.1.2.2.2.1,r3.1.2.2.2.2.1,u2.1,u2.2.1,u2.2.2.1,u3.1,u3.2.1,u3.2.2.1,u3.2.2.2.1,u3.2.2.2.2.1,()),r3.2.1,r3.2.2)) (
 .leaf (r1,r3.2.1,r3.2.2)))
def Ea (a0:Ai) (a1:YI) (a2:YBs):Option (Ai×Ab×YI):=(Xn a0 a1 a2).val
def Ace (a0:Ai) (a1:Ab):Tree (Ah):=
 .ob (Gx (a0.1,()) a1) fun r1=>
 .ob (Afu (a0.2.2.2.1,()) r1) fun r2=>
 .leaf r2
def Eu (a0:Ai) (a1:Ab):Option (Ah):=(Ace a0 a1).val
def Xo (r18:Ah) (a0:Ac) (a2:Ab) (r15:Ai×YBs×YI) (a1:YI) (r20:Ah) (r19:Ai×Ab×YI) (r1:Ac):Tree (Ac×((List Ab)×Unit)×((List Ah)×Unit)):=
 letI u1:=a0.2.2.2.2.2;letI u2:=u1.2.2.2.2.2.2.2.2.2.2.2.2.2.2.2;letI u3:=a2.2.2.2;letI u4:=u3.2.2.2.2;letI u5:=r19.1.2.2.2;letI u6:=u5.2.2.2;letI u7:=u6.2.2.2.2;.chk (decide ((((((([]:List Ah)++[r18])++[((3:Int),a0.1,(0:Int),(([]:List YB)++u1.1),(([]:List YB)++u3.1),(0:Int),(0:Int),([]:List YB),(([]:List YB)++u2.1),(0:Int),(0:Int),(0:Int),())])++[((10:Int),(0:Int),(0:Int),([]:List YB),(([]:List YB)++u3.1),r15.1.2.2.1,(0:Int),([]:List YB),(([]:List YB)++r15.1.2.2.2.1),(0:Int),(0:Int),(0:Int),())])++[((6:Int),(0:Int),(1:Int),([]:List YB),(([]:List YB)++u3.1),u4.1,u4.2.1,(([]:List YB)++r15.2.1.1),([]:List YB),(0:Int),(0:Int),a1.1,())])++[r20]).length+[((8:Int),(0:Int),(0:Int),([]:List YB),(([]:List YB)++u3.1),r19.2.1.2.2.2.2.2.2.2.1,(0:Int),(([]:List YB)++r15.2.1.1),([]:List YB),(0:Int),(0:Int),(0:Int),())].length≤4294967296)) <|
 .leaf ((r1.1,r1.2.1,r1.2.2.1,r1.2.2.2.1,(3:Int),r1.2.2.2.2.2.1,(0:Int),(0:Int),([]:List YB),([]:List YB),(0:Int),([]:List YB),([]:List YB),(0:Int),(0:Int),([]:List YB),([]:List YB),r19.1.1,r19.1.2.1,r19.1.2.2.1,u5.1,u5.2.1,u5.2.2.1,u6.1,u6.2.1,u6.2.2.1,u6.2.2.2.1,u7.1,u7.2.1,u7.2.2.1,u7.2.2.2.1,u7.2.2.2.2.1,false,(0:Int),(0:Int),(0:Int),false,(0:Int),(0:Int),(0:Int),a1.1,()),((([]:List Ab)++[r19.2.1]),()),(((((((([]:List Ah)++[r18])++[((3:Int),a0.1,(0:Int),(([]:List YB)++u1.1),(([]:List YB)++u3.1),(0:Int),(0:Int),([]:List YB),(([]:List YB)++u2.1),(0:Int),(0:Int),(0:Int),())])++[((10:Int),(0:Int),(0:Int),([]:List YB),(([]:List YB)++u3.1),r15.1.2.2.1,(0:Int),([]:List YB),(([]:List YB)++r15.1.2.2.2.1),(0:Int),(0:Int),(0:Int),())])++[((6:Int),(0:Int),(1:Int),([]:List YB),(([]:List YB)++u3.1),u4.1,u4.2.1,(([]:List YB)++r15.2.1.1),([]:List YB),(0:Int),(0:Int),a1.1,())])++[r20])++[((8:Int),(0:Int),(0:Int),([]:List YB),(([]:List YB)++u3.1),r19.2.1.2.2.2.2.2.2.2.1,(0:Int),(([]:List YB)++r15.2.1.1),([]:List YB),(0:Int),(0:Int),(0:Int),())]),()))
def Xp (r15:Ai×YBs×YI) (r18:Ah) (a0:Ac) (a2:Ab) (a1:YI) (r20:Ah) (r19:Ai×Ab×YI) (r1:Ac):Tree (Ac×((List Ab)×Unit)×((List Ah)×Unit)):=
 .chk (decide (([]:List YB).length+r15.2.1.1.length≤4294967296)) <|
 Xo r18 a0 a2 r15 a1 r20 r19 r1
def Xq (a2:Ab) (r15:Ai×YBs×YI) (r18:Ah) (a0:Ac) (a1:YI) (r20:Ah) (r19:Ai×Ab×YI) (r1:Ac):Tree (Ac×((List Ab)×Unit)×((List Ah)×Unit)):=
 .chk (decide (([]:List YB).length+a2.2.2.2.1.length≤4294967296)) <|
 Xp r15 r18 a0 a2 a1 r20 r19 r1
def Xr (r18:Ah) (a0:Ac) (a2:Ab) (r15:Ai×YBs×YI) (a1:YI) (r20:Ah) (r19:Ai×Ab×YI) (r1:Ac):Tree (Ac×((List Ab)×Unit)×((List Ah)×Unit)):=
 letI u1:=a2.2.2.2;.chk (decide (((((([]:List Ah)++[r18])++[((3:Int),a0.1,(0:Int),(([]:List YB)++a0.2.2.2.2.2.1),(([]:List YB)++u1.1),(0:Int),(0:Int),([]:List YB),(([]:List YB)++a0.2.2.2.2.2.2.2.2.2.2.2.2.2.2.2.2.2.2.2.2.1),(0:Int),(0:Int),(0:Int),())])++[((10:Int),(0:Int),(0:Int),([]:List YB),(([]:List YB)++u1.1),r15.1.2.2.1,(0:Int),([]:List YB),(([]:List YB)++r15.1.2.2.2.1),(0:Int),(0:Int),(0:Int),())])++[((6:Int),(0:Int),(1:Int),([]:List YB),(([]:List YB)++u1.1),u1.2.2.2.2.1,u1.2.2.2.2.2.1,(([]:List YB)++r15.2.1.1),([]:List YB),(0:Int),(0:Int),a1.1,())]).length+[r20].length≤4294967296)) <|
 Xq a2 r15 r18 a0 a1 r20 r19 r1
def Xs (r19:Ai×Ab×YI) (r18:Ah) (a0:Ac) (a2:Ab) (r15:Ai×YBs×YI) (a1:YI) (r1:Ac):Tree (Ac×((List Ab)×Unit)×((List Ah)×Unit)):=
 .ob (Eu r19.1 r19.2.1) fun r20=>
 Xr r18 a0 a2 r15 a1 r20 r19 r1
def Xt (r19:Ai×Ab×YI) (r18:Ah) (a0:Ac) (a2:Ab) (r15:Ai×YBs×YI) (a1:YI) (r1:Ac):Tree (Ac×((List Ab)×Unit)×((List Ah)×Unit)):=
 .chk (decide (([]:List Ab).length+[r19.2.1].length≤4294967296)) <|
 Xs r19 r18 a0 a2 r15 a1 r1
def Xu (r19:Ai×Ab×YI) (r18:Ah) (a0:Ac) (a2:Ab) (r15:Ai×YBs×YI) (a1:YI) (r1:Ac):Tree (Ac×((List Ab)×Unit)×((List Ah)×Unit)):=
 letI u1:=a2.2.2.2;letI u2:=r15.1.2.2;letI u3:=u2.2.2.2;letI u4:=u3.2.2.2;letI u5:=u4.2.2.2;.br (r19.2.2.1==(0:Int)) (
 Xt r19 r18 a0 a2 r15 a1 r1) (
 .leaf ((r1.1,r1.2.1,r1.2.2.1,r1.2.2.2.1,(3:Int),r1.2.2.2.2.2.1,(0:Int),(0:Int),([]:List YB),([]:List YB),(0:Int),([]:List YB),([]:List YB),(0:Int),(0:Int),([]:List YB),([]:List YB),r15.1.1,r15.1.2.1,u2.1,u2.2.1,u2.2.2.1,u3.1,u3.2.1,u3.2.2.1,u4.1,u4.2.1,u4.2.2.1,u5.1,u5.2.1,u5.2.2.1,u5.2.2.2.1,false,(0:Int),(0:Int),(0:Int),false,(0:Int),(0:Int),(0:Int),a1.1,()),(([]:List Ab),()),(((((([]:List Ah)++[r18])++[((3:Int),a0.1,(0:Int),(([]:List YB)++a0.2.2.2.2.2.1),(([]:List YB)++u1.1),(0:Int),(0:Int),([]:List YB),(([]:List YB)++a0.2.2.2.2.2.2.2.2.2.2.2.2.2.2.2.2.2.2.2.2.1),(0:Int),(0:Int),(0:Int),())])++[((10:Int),(0:Int),(0:Int),([]:List YB),(([]:List YB)++u1.1),u2.1,(0:Int),([]:List YB),(([]:List YB)++u2.2.1),(0:Int),(0:Int),(0:Int),())])++[((6:Int),(0:Int),(1:Int),([]:List YB),(([]:List YB)++u1.1),u1.2.2.2.2.1,u1.2.2.2.2.2.1,(([]:List YB)++r15.2.1.1),([]:List YB),(0:Int),(0:Int),a1.1,())]),())))
def Xv (r15:Ai×YBs×YI) (r18:Ah) (a0:Ac) (a2:Ab) (a1:YI) (r1:Ac):Tree (Ac×((List Ab)×Unit)×((List Ah)×Unit)):=
 .ob (Ea r15.1 ((6:Int),()) r15.2.1) fun r19=>
 Xu r19 r18 a0 a2 r15 a1 r1
def Xw (a2:Ab) (r15:Ai×YBs×YI) (r18:Ah) (a0:Ac) (a1:YI) (r1:Ac):Tree (Ac×((List Ab)×Unit)×((List Ah)×Unit)):=
 letI u1:=a2.2.2.2;letI u2:=r15.1.2.2;letI u3:=u2.2.2.2;letI u4:=u3.2.2.2;letI u5:=u4.2.2.2;.br (a2.1==(5:Int)) (
 Xv r15 r18 a0 a2 a1 r1) (
 .leaf ((r1.1,r1.2.1,r1.2.2.1,r1.2.2.2.1,(3:Int),r1.2.2.2.2.2.1,(0:Int),(0:Int),([]:List YB),([]:List YB),(0:Int),([]:List YB),([]:List YB),(0:Int),(0:Int),([]:List YB),([]:List YB),r15.1.1,r15.1.2.1,u2.1,u2.2.1,u2.2.2.1,u3.1,u3.2.1,u3.2.2.1,u4.1,u4.2.1,u4.2.2.1,u5.1,u5.2.1,u5.2.2.1,u5.2.2.2.1,false,(0:Int),(0:Int),(0:Int),false,(0:Int),(0:Int),(0:Int),a1.1,()),(([]:List Ab),()),(((((([]:List Ah)++[r18])++[((3:Int),a0.1,(0:Int),(([]:List YB)++a0.2.2.2.2.2.1),(([]:List YB)++u1.1),(0:Int),(0:Int),([]:List YB),(([]:List YB)++a0.2.2.2.2.2.2.2.2.2.2.2.2.2.2.2.2.2.2.2.2.1),(0:Int),(0:Int),(0:Int),())])++[((10:Int),(0:Int),(0:Int),([]:List YB),(([]:List YB)++u1.1),u2.1,(0:Int),([]:List YB),(([]:List YB)++u2.2.1),(0:Int),(0:Int),(0:Int),())])++[((6:Int),(0:Int),(1:Int),([]:List YB),(([]:List YB)++u1.1),u1.2.2.2.2.1,u1.2.2.2.2.2.1,(([]:List YB)++r15.2.1.1),([]:List YB),(0:Int),(0:Int),a1.1,())]),())))
def Tu (r18:Ah) (a0:Ac) (a2:Ab) (r15:Ai×YBs×YI) (a1:YI) (r1:Ac):Tree (Ac×((List Ab)×Unit)×((List Ah)×Unit)):=
 letI u1:=a2.2.2.2;.chk (decide ((((([]:List Ah)++[r18])++[((3:Int),a0.1,(0:Int),(([]:List YB)++a0.2.2.2.2.2.1),(([]:List YB)++u1.1),(0:Int),(0:Int),([]:List YB),(([]:List YB)++a0.2.2.2.2.2.2.2.2.2.2.2.2.2.2.2.2.2.2.2.2.1),(0:Int),(0:Int),(0:Int),())])++[((10:Int),(0:Int),(0:Int),([]:List YB),(([]:List YB)++u1.1),r15.1.2.2.1,(0:Int),([]:List YB),(([]:List YB)++r15.1.2.2.2.1),(0:Int),(0:Int),(0:Int),())]).length+[((6:Int),(0:Int),(1:Int),([]:List YB),(([]:List YB)++u1.1),u1.2.2.2.2.1,u1.2.2.2.2.2.1,(([]:List YB)++r15.2.1.1),([]:List YB),(0:Int),(0:Int),a1.1,())].length≤4294967296)) <|
 Xw a2 r15 r18 a0 a1 r1
def Tv (r15:Ai×YBs×YI) (r18:Ah) (a0:Ac) (a2:Ab) (a1:YI) (r1:Ac):Tree (Ac×((List Ab)×Unit)×((List Ah)×Unit)):=
 .chk (decide (([]:List YB).length+r15.2.1.1.length≤4294967296)) <|
 Tu r18 a0 a2 r15 a1 r1
def Tw (a2:Ab) (r15:Ai×YBs×YI) (r18:Ah) (a0:Ac) (a1:YI) (r1:Ac):Tree (Ac×((List Ab)×Unit)×((List Ah)×Unit)):=
 .chk (decide (([]:List YB).length+a2.2.2.2.1.length≤4294967296)) <|
 Tv r15 r18 a0 a2 a1 r1
def Tx (r18:Ah) (a0:Ac) (a2:Ab) (r15:Ai×YBs×YI) (r22:Ah) (r21:Ai×Ab×YI) (r1:Ac) (a1:YI):Tree (Ac×((List Ab)×Unit)×((List Ah)×Unit)):=
 letI u1:=a0.2.2.2.2.2;letI u2:=u1.2.2.2.2.2.2.2.2.2.2.2.2.2.2.2;letI u3:=a2.2.2.2;letI u4:=r21.1.2.2.2;letI u5:=u4.2.2.2;letI u6:=u5.2.2.2.2;.chk (decide (((((([]:List Ah)++[r18])++[((3:Int),a0.1,(0:Int),(([]:List YB)++u1.1),(([]:List YB)++u3.1),(0:Int),(0:Int),([]:List YB),(([]:List YB)++u2.1),(0:Int),(0:Int),(0:Int),())])++[((10:Int),(0:Int),(0:Int),([]:List YB),(([]:List YB)++u3.1),r15.1.2.2.1,(0:Int),([]:List YB),(([]:List YB)++r15.1.2.2.2.1),(0:Int),(0:Int),(0:Int),())])++[r22]).length+[((8:Int),(0:Int),(0:Int),([]:List YB),(([]:List YB)++u3.1),r21.2.1.2.2.2.2.2.2.2.1,(0:Int),(([]:List YB)++r15.2.1.1),([]:List YB),(0:Int),(0:Int),(0:Int),())].length≤4294967296)) <|
 .leaf ((r1.1,r1.2.1,r1.2.2.1,r1.2.2.2.1,(3:Int),r1.2.2.2.2.2.1,(0:Int),(0:Int),([]:List YB),([]:List YB),(0:Int),([]:List YB),([]:List YB),(0:Int),(0:Int),([]:List YB),([]:List YB),r21.1.1,r21.1.2.1,r21.1.2.2.1,u4.1,u4.2.1,u4.2.2.1,u5.1,u5.2.1,u5.2.2.1,u5.2.2.2.1,u6.1,u6.2.1,u6.2.2.1,u6.2.2.2.1,u6.2.2.2.2.1,false,(0:Int),(0:Int),(0:Int),false,(0:Int),(0:Int),(0:Int),a1.1,()),((([]:List Ab)++[r21.2.1]),()),((((((([]:List Ah)++[r18])++[((3:Int),a0.1,(0:Int),(([]:List YB)++u1.1),(([]:List YB)++u3.1),(0:Int),(0:Int),([]:List YB),(([]:List YB)++u2.1),(0:Int),(0:Int),(0:Int),())])++[((10:Int),(0:Int),(0:Int),([]:List YB),(([]:List YB)++u3.1),r15.1.2.2.1,(0:Int),([]:List YB),(([]:List YB)++r15.1.2.2.2.1),(0:Int),(0:Int),(0:Int),())])++[r22])++[((8:Int),(0:Int),(0:Int),([]:List YB),(([]:List YB)++u3.1),r21.2.1.2.2.2.2.2.2.2.1,(0:Int),(([]:List YB)++r15.2.1.1),([]:List YB),(0:Int),(0:Int),(0:Int),())]),()))
def Tz (r15:Ai×YBs×YI) (r18:Ah) (a0:Ac) (a2:Ab) (r22:Ah) (r21:Ai×Ab×YI) (r1:Ac) (a1:YI):Tree (Ac×((List Ab)×Unit)×((List Ah)×Unit)):=
 .chk (decide (([]:List YB).length+r15.2.1.1.length≤4294967296)) <|
 Tx r18 a0 a2 r15 r22 r21 r1 a1
def T0 (a2:Ab) (r15:Ai×YBs×YI) (r18:Ah) (a0:Ac) (r22:Ah) (r21:Ai×Ab×YI) (r1:Ac) (a1:YI):Tree (Ac×((List Ab)×Unit)×((List Ah)×Unit)):=
 .chk (decide (([]:List YB).length+a2.2.2.2.1.length≤4294967296)) <|
 Tz r15 r18 a0 a2 r22 r21 r1 a1
def T1 (r18:Ah) (a0:Ac) (a2:Ab) (r15:Ai×YBs×YI) (r22:Ah) (r21:Ai×Ab×YI) (r1:Ac) (a1:YI):Tree (Ac×((List Ab)×Unit)×((List Ah)×Unit)):=
 .chk (decide ((((([]:List Ah)++[r18])++[((3:Int),a0.1,(0:Int),(([]:List YB)++a0.2.2.2.2.2.1),(([]:List YB)++a2.2.2.2.1),(0:Int),(0:Int),([]:List YB),(([]:List YB)++a0.2.2.2.2.2.2.2.2.2.2.2.2.2.2.2.2.2.2.2.2.1),(0:Int),(0:Int),(0:Int),())])++[((10:Int),(0:Int),(0:Int),([]:List YB),(([]:List YB)++a2.2.2.2.1),r15.1.2.2.1,(0:Int),([]:List YB),(([]:List YB)++r15.1.2.2.2.1),(0:Int),(0:Int),(0:Int),())]).length+[r22].length≤4294967296)) <|
 T0 a2 r15 r18 a0 r22 r21 r1 a1
def T2 (r21:Ai×Ab×YI) (r18:Ah) (a0:Ac) (a2:Ab) (r15:Ai×YBs×YI) (r1:Ac) (a1:YI):Tree (Ac×((List Ab)×Unit)×((List Ah)×Unit)):=
 .ob (Eu r21.1 r21.2.1) fun r22=>
 T1 r18 a0 a2 r15 r22 r21 r1 a1
def T3 (r21:Ai×Ab×YI) (r18:Ah) (a0:Ac) (a2:Ab) (r15:Ai×YBs×YI) (r1:Ac) (a1:YI):Tree (Ac×((List Ab)×Unit)×((List Ah)×Unit)):=
 .chk (decide (([]:List Ab).length+[r21.2.1].length≤4294967296)) <|
 T2 r21 r18 a0 a2 r15 r1 a1
def T4 (r21:Ai×Ab×YI) (r18:Ah) (a0:Ac) (a2:Ab) (r15:Ai×YBs×YI) (r1:Ac) (a1:YI):Tree (Ac×((List Ab)×Unit)×((List Ah)×Unit)):=
 letI u1:=r15.1.2.2;letI u2:=u1.2.2.2;letI u3:=u2.2.2.2;letI u4:=u3.2.2.2;.br (r21.2.2.1==(0:Int)) (
 T3 r21 r18 a0 a2 r15 r1 a1) (
 .leaf ((r1.1,r1.2.1,r1.2.2.1,r1.2.2.2.1,(3:Int),r1.2.2.2.2.2.1,(0:Int),(0:Int),([]:List YB),([]:List YB),(0:Int),([]:List YB),([]:List YB),(0:Int),(0:Int),([]:List YB),([]:List YB),r15.1.1,r15.1.2.1,u1.1,u1.2.1,u1.2.2.1,u2.1,u2.2.1,u2.2.2.1,u3.1,u3.2.1,u3.2.2.1,u4.1,u4.2.1,u4.2.2.1,u4.2.2.2.1,false,(0:Int),(0:Int),(0:Int),false,(0:Int),(0:Int),(0:Int),a1.1,()),(([]:List Ab),()),((((([]:List Ah)++[r18])++[((3:Int),a0.1,(0:Int),(([]:List YB)++a0.2.2.2.2.2.1),(([]:List YB)++a2.2.2.2.1),(0:Int),(0:Int),([]:List YB),(([]:List YB)++a0.2.2.2.2.2.2.2.2.2.2.2.2.2.2.2.2.2.2.2.2.1),(0:Int),(0:Int),(0:Int),())])++[((10:Int),(0:Int),(0:Int),([]:List YB),(([]:List YB)++a2.2.2.2.1),u1.1,(0:Int),([]:List YB),(([]:List YB)++u1.2.1),(0:Int),(0:Int),(0:Int),())]),())))
def T5 (r15:Ai×YBs×YI) (r18:Ah) (a0:Ac) (a2:Ab) (r1:Ac) (a1:YI):Tree (Ac×((List Ab)×Unit)×((List Ah)×Unit)):=
 .ob (Ea r15.1 ((6:Int),()) r15.2.1) fun r21=>
 T4 r21 r18 a0 a2 r15 r1 a1
def T6 (a2:Ab) (r15:Ai×YBs×YI) (r18:Ah) (a0:Ac) (r1:Ac) (a1:YI):Tree (Ac×((List Ab)×Unit)×((List Ah)×Unit)):=
 letI u1:=r15.1.2.2;letI u2:=u1.2.2.2;letI u3:=u2.2.2.2;letI u4:=u3.2.2.2;.br (a2.1==(5:Int)) (
 T5 r15 r18 a0 a2 r1 a1) (
 .leaf ((r1.1,r1.2.1,r1.2.2.1,r1.2.2.2.1,(3:Int),r1.2.2.2.2.2.1,(0:Int),(0:Int),([]:List YB),([]:List YB),(0:Int),([]:List YB),([]:List YB),(0:Int),(0:Int),([]:List YB),([]:List YB),r15.1.1,r15.1.2.1,u1.1,u1.2.1,u1.2.2.1,u2.1,u2.2.1,u2.2.2.1,u3.1,u3.2.1,u3.2.2.1,u4.1,u4.2.1,u4.2.2.1,u4.2.2.2.1,false,(0:Int),(0:Int),(0:Int),false,(0:Int),(0:Int),(0:Int),a1.1,()),(([]:List Ab),()),((((([]:List Ah)++[r18])++[((3:Int),a0.1,(0:Int),(([]:List YB)++a0.2.2.2.2.2.1),(([]:List YB)++a2.2.2.2.1),(0:Int),(0:Int),([]:List YB),(([]:List YB)++a0.2.2.2.2.2.2.2.2.2.2.2.2.2.2.2.2.2.2.2.2.1),(0:Int),(0:Int),(0:Int),())])++[((10:Int),(0:Int),(0:Int),([]:List YB),(([]:List YB)++a2.2.2.2.1),u1.1,(0:Int),([]:List YB),(([]:List YB)++u1.2.1),(0:Int),(0:Int),(0:Int),())]),())))
def T7 (a2:Ab) (r15:Ai×YBs×YI) (r18:Ah) (a0:Ac) (a1:YI) (r1:Ac):Tree (Ac×((List Ab)×Unit)×((List Ah)×Unit)):=
 .br (a2.1==(4:Int)) (
 Tw a2 r15 r18 a0 a1 r1) (
 T6 a2 r15 r18 a0 r1 a1)
def T8 (r18:Ah) (a0:Ac) (a2:Ab) (r15:Ai×YBs×YI) (a1:YI) (r1:Ac):Tree (Ac×((List Ab)×Unit)×((List Ah)×Unit)):=
 .chk (decide (((([]:List Ah)++[r18])++[((3:Int),a0.1,(0:Int),(([]:List YB)++a0.2.2.2.2.2.1),(([]:List YB)++a2.2.2.2.1),(0:Int),(0:Int),([]:List YB),(([]:List YB)++a0.2.2.2.2.2.2.2.2.2.2.2.2.2.2.2.2.2.2.2.2.1),(0:Int),(0:Int),(0:Int),())]).length+[((10:Int),(0:Int),(0:Int),([]:List YB),(([]:List YB)++a2.2.2.2.1),r15.1.2.2.1,(0:Int),([]:List YB),(([]:List YB)++r15.1.2.2.2.1),(0:Int),(0:Int),(0:Int),())].length≤4294967296)) <|
 T7 a2 r15 r18 a0 a1 r1
def T9 (r15:Ai×YBs×YI) (r18:Ah) (a0:Ac) (a2:Ab) (a1:YI) (r1:Ac):Tree (Ac×((List Ab)×Unit)×((List Ah)×Unit)):=
 .chk (decide (([]:List YB).length+r15.1.2.2.2.1.length≤4294967296)) <|
 T8 r18 a0 a2 r15 a1 r1
def Ua (a2:Ab) (r15:Ai×YBs×YI) (r18:Ah) (a0:Ac) (a1:YI) (r1:Ac):Tree (Ac×((List Ab)×Unit)×((List Ah)×Unit)):=
 .chk (decide (([]:List YB).length+a2.2.2.2.1.length≤4294967296)) <|
 T9 r15 r18 a0 a2 a1 r1
def Ub (r18:Ah) (a0:Ac) (a2:Ab) (r15:Ai×YBs×YI) (a1:YI) (r24:Ah) (r23:Ai×Ab×YI) (r1:Ac):Tree (Ac×((List Ab)×Unit)×((List Ah)×Unit)):=
 letI u1:=a0.2.2.2.2.2;letI u2:=u1.2.2.2.2.2.2.2.2.2.2.2.2.2.2.2;letI u3:=a2.2.2.2;letI u4:=u3.2.2.2.2;letI u5:=r23.1.2.2.2;letI u6:=u5.2.2.2;letI u7:=u6.2.2.2.2;letI u8:=r1.2.2;letI u9:=u8.2.2.2.2.2.2.2.2.2.2.2.2.2.2.2.2.2.2.2.2.2.2.2.2.2.2.2.2.2.2.2.2.2.2;.chk (decide (((((([]:List Ah)++[r18])++[((3:Int),a0.1,(0:Int),(([]:List YB)++u1.1),(([]:List YB)++u3.1),(0:Int),(0:Int),([]:List YB),(([]:List YB)++u2.1),(0:Int),(0:Int),(0:Int),())])++[((6:Int),(0:Int),(1:Int),([]:List YB),(([]:List YB)++u3.1),u4.1,u4.2.1,(([]:List YB)++r15.2.1.1),([]:List YB),(0:Int),(0:Int),a1.1,())])++[r24]).length+[((8:Int),(0:Int),(0:Int),([]:List YB),(([]:List YB)++u3.1),r23.2.1.2.2.2.2.2.2.2.1,(0:Int),(([]:List YB)++r15.2.1.1),([]:List YB),(0:Int),(0:Int),(0:Int),())].length≤4294967296)) <|
 .leaf ((r1.1,r1.2.1,u8.1,u8.2.1,(3:Int),u8.2.2.2.1,(0:Int),(0:Int),([]:List YB),([]:List YB),(0:Int),([]:List YB),([]:List YB),(0:Int),(0:Int),([]:List YB),([]:List YB),r23.1.1,r23.1.2.1,r23.1.2.2.1,u5.1,u5.2.1,u5.2.2.1,u6.1,u6.2.1,u6.2.2.1,u6.2.2.2.1,u7.1,u7.2.1,u7.2.2.1,u7.2.2.2.1,u7.2.2.2.2.1,false,(0:Int),(0:Int),(0:Int),u9.1,u9.2.1,u9.2.2.1,u9.2.2.2.1,a1.1,()),((([]:List Ab)++[r23.2.1]),()),((((((([]:List Ah)++[r18])++[((3:Int),a0.1,(0:Int),(([]:List YB)++u1.1),(([]:List YB)++u3.1),(0:Int),(0:Int),([]:List YB),(([]:List YB)++u2.1),(0:Int),(0:Int),(0:Int),())])++[((6:Int),(0:Int),(1:Int),([]:List YB),(([]:List YB)++u3.1),u4.1,u4.2.1,(([]:List YB)++r15.2.1.1),([]:List YB),(0:Int),(0:Int),a1.1,())])++[r24])++[((8:Int),(0:Int),(0:Int),([]:List YB),(([]:List YB)++u3.1),r23.2.1.2.2.2.2.2.2.2.1,(0:Int),(([]:List YB)++r15.2.1.1),([]:List YB),(0:Int),(0:Int),(0:Int),())]),()))
def Uc (r15:Ai×YBs×YI) (r18:Ah) (a0:Ac) (a2:Ab) (a1:YI) (r24:Ah) (r23:Ai×Ab×YI) (r1:Ac):Tree (Ac×((List Ab)×Unit)×((List Ah)×Unit)):=
 .chk (decide (([]:List YB).length+r15.2.1.1.length≤4294967296)) <|
 Ub r18 a0 a2 r15 a1 r24 r23 r1
def Ud (a2:Ab) (r15:Ai×YBs×YI) (r18:Ah) (a0:Ac) (a1:YI) (r24:Ah) (r23:Ai×Ab×YI) (r1:Ac):Tree (Ac×((List Ab)×Unit)×((List Ah)×Unit)):=
 .chk (decide (([]:List YB).length+a2.2.2.2.1.length≤4294967296)) <|
 Uc r15 r18 a0 a2 a1 r24 r23 r1
def Ue (r18:Ah) (a0:Ac) (a2:Ab) (r15:Ai×YBs×YI) (a1:YI) (r24:Ah) (r23:Ai×Ab×YI) (r1:Ac):Tree (Ac×((List Ab)×Unit)×((List Ah)×Unit)):=
 letI u1:=a2.2.2.2;.chk (decide ((((([]:List Ah)++[r18])++[((3:Int),a0.1,(0:Int),(([]:List YB)++a0.2.2.2.2.2.1),(([]:List YB)++u1.1),(0:Int),(0:Int),([]:List YB),(([]:List YB)++a0.2.2.2.2.2.2.2.2.2.2.2.2.2.2.2.2.2.2.2.2.1),(0:Int),(0:Int),(0:Int),())])++[((6:Int),(0:Int),(1:Int),([]:List YB),(([]:List YB)++u1.1),u1.2.2.2.2.1,u1.2.2.2.2.2.1,(([]:List YB)++r15.2.1.1),([]:List YB),(0:Int),(0:Int),a1.1,())]).length+[r24].length≤4294967296)) <|
 Ud a2 r15 r18 a0 a1 r24 r23 r1
def Uf (r23:Ai×Ab×YI) (r18:Ah) (a0:Ac) (a2:Ab) (r15:Ai×YBs×YI) (a1:YI) (r1:Ac):Tree (Ac×((List Ab)×Unit)×((List Ah)×Unit)):=
 .ob (Eu r23.1 r23.2.1) fun r24=>
 Ue r18 a0 a2 r15 a1 r24 r23 r1
def Ug (r23:Ai×Ab×YI) (r18:Ah) (a0:Ac) (a2:Ab) (r15:Ai×YBs×YI) (a1:YI) (r1:Ac):Tree (Ac×((List Ab)×Unit)×((List Ah)×Unit)):=
 .chk (decide (([]:List Ab).length+[r23.2.1].length≤4294967296)) <|
 Uf r23 r18 a0 a2 r15 a1 r1
def Uh (r23:Ai×Ab×YI) (r18:Ah) (a0:Ac) (a2:Ab) (r15:Ai×YBs×YI) (a1:YI) (r1:Ac):Tree (Ac×((List Ab)×Unit)×((List Ah)×Unit)):=
 letI u1:=a2.2.2.2;letI u2:=r15.1.2.2.2;letI u3:=u2.2.2.2;letI u4:=u3.2.2.2.2;letI u5:=r1.2.2;letI u6:=u5.2.2.2.2.2.2.2.2.2.2.2.2.2.2.2.2.2.2.2.2.2.2.2.2.2.2.2.2.2.2.2.2.2.2;.br (r23.2.2.1==(0:Int)) (
 Ug r23 r18 a0 a2 r15 a1 r1) (
 .leaf ((r1.1,r1.2.1,u5.1,u5.2.1,(3:Int),u5.2.2.2.1,(0:Int),(0:Int),([]:List YB),([]:List YB),(0:Int),([]:List YB),([]:List YB),(0:Int),(0:Int),([]:List YB),([]:List YB),r15.1.1,r15.1.2.1,r15.1.2.2.1,u2.1,u2.2.1,u2.2.2.1,u3.1,u3.2.1,u3.2.2.1,u3.2.2.2.1,u4.1,u4.2.1,u4.2.2.1,u4.2.2.2.1,u4.2.2.2.2.1,false,(0:Int),(0:Int),(0:Int),u6.1,u6.2.1,u6.2.2.1,u6.2.2.2.1,a1.1,()),(([]:List Ab),()),((((([]:List Ah)++[r18])++[((3:Int),a0.1,(0:Int),(([]:List YB)++a0.2.2.2.2.2.1),(([]:List YB)++u1.1),(0:Int),(0:Int),([]:List YB),(([]:List YB)++a0.2.2.2.2.2.2.2.2.2.2.2.2.2.2.2.2.2.2.2.2.1),(0:Int),(0:Int),(0:Int),())])++[((6:Int),(0:Int),(1:Int),([]:List YB),(([]:List YB)++u1.1),u1.2.2.2.2.1,u1.2.2.2.2.2.1,(([]:List YB)++r15.2.1.1),([]:List YB),(0:Int),(0:Int),a1.1,())]),())))
def Ui (r15:Ai×YBs×YI) (r18:Ah) (a0:Ac) (a2:Ab) (a1:YI) (r1:Ac):Tree (Ac×((List Ab)×Unit)×((List Ah)×Unit)):=
 .ob (Ea r15.1 ((6:Int),()) r15.2.1) fun r23=>
 Uh r23 r18 a0 a2 r15 a1 r1
def Uj (a2:Ab) (r15:Ai×YBs×YI) (r18:Ah) (a0:Ac) (a1:YI) (r1:Ac):Tree (Ac×((List Ab)×Unit)×((List Ah)×Unit)):=
 letI u1:=a2.2.2.2;letI u2:=r15.1.2.2.2;letI u3:=u2.2.2.2;letI u4:=u3.2.2.2.2;letI u5:=r1.2.2;letI u6:=u5.2.2.2.2.2.2.2.2.2.2.2.2.2.2.2.2.2.2.2.2.2.2.2.2.2.2.2.2.2.2.2.2.2.2;.br (a2.1==(5:Int)) (
 Ui r15 r18 a0 a2 a1 r1) (
 .leaf ((r1.1,r1.2.1,u5.1,u5.2.1,(3:Int),u5.2.2.2.1,(0:Int),(0:Int),([]:List YB),([]:List YB),(0:Int),([]:List YB),([]:List YB),(0:Int),(0:Int),([]:List YB),([]:List YB),r15.1.1,r15.1.2.1,r15.1.2.2.1,u2.1,u2.2.1,u2.2.2.1,u3.1,u3.2.1,u3.2.2.1,u3.2.2.2.1,u4.1,u4.2.1,u4.2.2.1,u4.2.2.2.1,u4.2.2.2.2.1,false,(0:Int),(0:Int),(0:Int),u6.1,u6.2.1,u6.2.2.1,u6.2.2.2.1,a1.1,()),(([]:List Ab),()),((((([]:List Ah)++[r18])++[((3:Int),a0.1,(0:Int),(([]:List YB)++a0.2.2.2.2.2.1),(([]:List YB)++u1.1),(0:Int),(0:Int),([]:List YB),(([]:List YB)++a0.2.2.2.2.2.2.2.2.2.2.2.2.2.2.2.2.2.2.2.2.1),(0:Int),(0:Int),(0:Int),())])++[((6:Int),(0:Int),(1:Int),([]:List YB),(([]:List YB)++u1.1),u1.2.2.2.2.1,u1.2.2.2.2.2.1,(([]:List YB)++r15.2.1.1),([]:List YB),(0:Int),(0:Int),a1.1,())]),())))
def Uk (r18:Ah) (a0:Ac) (a2:Ab) (r15:Ai×YBs×YI) (a1:YI) (r1:Ac):Tree (Ac×((List Ab)×Unit)×((List Ah)×Unit)):=
 letI u1:=a2.2.2.2;.chk (decide (((([]:List Ah)++[r18])++[((3:Int),a0.1,(0:Int),(([]:List YB)++a0.2.2.2.2.2.1),(([]:List YB)++u1.1),(0:Int),(0:Int),([]:List YB),(([]:List YB)++a0.2.2.2.2.2.2.2.2.2.2.2.2.2.2.2.2.2.2.2.2.1),(0:Int),(0:Int),(0:Int),())]).length+[((6:Int),(0:Int),(1:Int),([]:List YB),(([]:List YB)++u1.1),u1.2.2.2.2.1,u1.2.2.2.2.2.1,(([]:List YB)++r15.2.1.1),([]:List YB),(0:Int),(0:Int),a1.1,())].length≤4294967296)) <|
 Uj a2 r15 r18 a0 a1 r1
def Ul (r15:Ai×YBs×YI) (r18:Ah) (a0:Ac) (a2:Ab) (a1:YI) (r1:Ac):Tree (Ac×((List Ab)×Unit)×((List Ah)×Unit)):=
 .chk (decide (([]:List YB).length+r15.2.1.1.length≤4294967296)) <|
 Uk r18 a0 a2 r15 a1 r1
def Um (a2:Ab) (r15:Ai×YBs×YI) (r18:Ah) (a0:Ac) (a1:YI) (r1:Ac):Tree (Ac×((List Ab)×Unit)×((List Ah)×Unit)):=
 .chk (decide (([]:List YB).length+a2.2.2.2.1.length≤4294967296)) <|
 Ul r15 r18 a0 a2 a1 r1
def Un (r18:Ah) (a0:Ac) (a2:Ab) (r26:Ah) (r25:Ai×Ab×YI) (r15:Ai×YBs×YI) (r1:Ac) (a1:YI):Tree (Ac×((List Ab)×Unit)×((List Ah)×Unit)):=
 letI u1:=a0.2.2.2.2.2;letI u2:=u1.2.2.2.2.2.2.2.2.2.2.2.2.2.2.2;letI u3:=a2.2.2.2;letI u4:=r25.1.2.2.2;letI u5:=u4.2.2.2;letI u6:=u5.2.2.2.2;letI u7:=r1.2.2;letI u8:=u7.2.2.2.2.2.2.2.2.2.2.2.2.2.2.2.2.2.2.2.2.2.2.2.2.2.2.2.2.2.2.2.2.2.2;.chk (decide ((((([]:List Ah)++[r18])++[((3:Int),a0.1,(0:Int),(([]:List YB)++u1.1),(([]:List YB)++u3.1),(0:Int),(0:Int),([]:List YB),(([]:List YB)++u2.1),(0:Int),(0:Int),(0:Int),())])++[r26]).length+[((8:Int),(0:Int),(0:Int),([]:List YB),(([]:List YB)++u3.1),r25.2.1.2.2.2.2.2.2.2.1,(0:Int),(([]:List YB)++r15.2.1.1),([]:List YB),(0:Int),(0:Int),(0:Int),())].length≤4294967296)) <|
 .leaf ((r1.1,r1.2.1,u7.1,u7.2.1,(3:Int),u7.2.2.2.1,(0:Int),(0:Int),([]:List YB),([]:List YB),(0:Int),([]:List YB),([]:List YB),(0:Int),(0:Int),([]:List YB),([]:List YB),r25.1.1,r25.1.2.1,r25.1.2.2.1,u4.1,u4.2.1,u4.2.2.1,u5.1,u5.2.1,u5.2.2.1,u5.2.2.2.1,u6.1,u6.2.1,u6.2.2.1,u6.2.2.2.1,u6.2.2.2.2.1,false,(0:Int),(0:Int),(0:Int),u8.1,u8.2.1,u8.2.2.1,u8.2.2.2.1,a1.1,()),((([]:List Ab)++[r25.2.1]),()),(((((([]:List Ah)++[r18])++[((3:Int),a0.1,(0:Int),(([]:List YB)++u1.1),(([]:List YB)++u3.1),(0:Int),(0:Int),([]:List YB),(([]:List YB)++u2.1),(0:Int),(0:Int),(0:Int),())])++[r26])++[((8:Int),(0:Int),(0:Int),([]:List YB),(([]:List YB)++u3.1),r25.2.1.2.2.2.2.2.2.2.1,(0:Int),(([]:List YB)++r15.2.1.1),([]:List YB),(0:Int),(0:Int),(0:Int),())]),()))
def Uo (r15:Ai×YBs×YI) (r18:Ah) (a0:Ac) (a2:Ab) (r26:Ah) (r25:Ai×Ab×YI) (r1:Ac) (a1:YI):Tree (Ac×((List Ab)×Unit)×((List Ah)×Unit)):=
 .chk (decide (([]:List YB).length+r15.2.1.1.length≤4294967296)) <|
 Un r18 a0 a2 r26 r25 r15 r1 a1
def Up (a2:Ab) (r15:Ai×YBs×YI) (r18:Ah) (a0:Ac) (r26:Ah) (r25:Ai×Ab×YI) (r1:Ac) (a1:YI):Tree (Ac×((List Ab)×Unit)×((List Ah)×Unit)):=
 .chk (decide (([]:List YB).length+a2.2.2.2.1.length≤4294967296)) <|
 Uo r15 r18 a0 a2 r26 r25 r1 a1
def Uq (r18:Ah) (a0:Ac) (a2:Ab) (r26:Ah) (r15:Ai×YBs×YI) (r25:Ai×Ab×YI) (r1:Ac) (a1:YI):Tree (Ac×((List Ab)×Unit)×((List Ah)×Unit)):=
 .chk (decide (((([]:List Ah)++[r18])++[((3:Int),a0.1,(0:Int),(([]:List YB)++a0.2.2.2.2.2.1),(([]:List YB)++a2.2.2.2.1),(0:Int),(0:Int),([]:List YB),(([]:List YB)++a0.2.2.2.2.2.2.2.2.2.2.2.2.2.2.2.2.2.2.2.2.1),(0:Int),(0:Int),(0:Int),())]).length+[r26].length≤4294967296)) <|
 Up a2 r15 r18 a0 r26 r25 r1 a1
def Ur (r25:Ai×Ab×YI) (r18:Ah) (a0:Ac) (a2:Ab) (r15:Ai×YBs×YI) (r1:Ac) (a1:YI):Tree (Ac×((List Ab)×Unit)×((List Ah)×Unit)):=
 .ob (Eu r25.1 r25.2.1) fun r26=>
 Uq r18 a0 a2 r26 r15 r25 r1 a1
def Us (r25:Ai×Ab×YI) (r18:Ah) (a0:Ac) (a2:Ab) (r15:Ai×YBs×YI) (r1:Ac) (a1:YI):Tree (Ac×((List Ab)×Unit)×((List Ah)×Unit)):=
 .chk (decide (([]:List Ab).length+[r25.2.1].length≤4294967296)) <|
 Ur r25 r18 a0 a2 r15 r1 a1
def Ut (r25:Ai×Ab×YI) (r18:Ah) (a0:Ac) (a2:Ab) (r15:Ai×YBs×YI) (r1:Ac) (a1:YI):Tree (Ac×((List Ab)×Unit)×((List Ah)×Unit)):=
 letI u1:=r15.1.2.2.2;letI u2:=u1.2.2.2;letI u3:=u2.2.2.2.2;letI u4:=r1.2.2;letI u5:=u4.2.2.2.2.2.2.2.2.2.2.2.2.2.2.2.2.2.2.2.2.2.2.2.2.2.2.2.2.2.2.2.2.2.2;.br (r25.2.2.1==(0:Int)) (
 Us r25 r18 a0 a2 r15 r1 a1) (
 .leaf ((r1.1,r1.2.1,u4.1,u4.2.1,(3:Int),u4.2.2.2.1,(0:Int),(0:Int),([]:List YB),([]:List YB),(0:Int),([]:List YB),([]:List YB),(0:Int),(0:Int),([]:List YB),([]:List YB),r15.1.1,r15.1.2.1,r15.1.2.2.1,u1.1,u1.2.1,u1.2.2.1,u2.1,u2.2.1,u2.2.2.1,u2.2.2.2.1,u3.1,u3.2.1,u3.2.2.1,u3.2.2.2.1,u3.2.2.2.2.1,false,(0:Int),(0:Int),(0:Int),u5.1,u5.2.1,u5.2.2.1,u5.2.2.2.1,a1.1,()),(([]:List Ab),()),(((([]:List Ah)++[r18])++[((3:Int),a0.1,(0:Int),(([]:List YB)++a0.2.2.2.2.2.1),(([]:List YB)++a2.2.2.2.1),(0:Int),(0:Int),([]:List YB),(([]:List YB)++a0.2.2.2.2.2.2.2.2.2.2.2.2.2.2.2.2.2.2.2.2.1),(0:Int),(0:Int),(0:Int),())]),())))
def Uu (r15:Ai×YBs×YI) (r18:Ah) (a0:Ac) (a2:Ab) (r1:Ac) (a1:YI):Tree (Ac×((List Ab)×Unit)×((List Ah)×Unit)):=
 .ob (Ea r15.1 ((6:Int),()) r15.2.1) fun r25=>
 Ut r25 r18 a0 a2 r15 r1 a1
def Uv (a2:Ab) (r15:Ai×YBs×YI) (r18:Ah) (a0:Ac) (r1:Ac) (a1:YI):Tree (Ac×((List Ab)×Unit)×((List Ah)×Unit)):=
 letI u1:=r15.1.2.2.2;letI u2:=u1.2.2.2;letI u3:=u2.2.2.2.2;letI u4:=r1.2.2;letI u5:=u4.2.2.2.2.2.2.2.2.2.2.2.2.2.2.2.2.2.2.2.2.2.2.2.2.2.2.2.2.2.2.2.2.2.2;.br (a2.1==(5:Int)) (
 Uu r15 r18 a0 a2 r1 a1) (
 .leaf ((r1.1,r1.2.1,u4.1,u4.2.1,(3:Int),u4.2.2.2.1,(0:Int),(0:Int),([]:List YB),([]:List YB),(0:Int),([]:List YB),([]:List YB),(0:Int),(0:Int),([]:List YB),([]:List YB),r15.1.1,r15.1.2.1,r15.1.2.2.1,u1.1,u1.2.1,u1.2.2.1,u2.1,u2.2.1,u2.2.2.1,u2.2.2.2.1,u3.1,u3.2.1,u3.2.2.1,u3.2.2.2.1,u3.2.2.2.2.1,false,(0:Int),(0:Int),(0:Int),u5.1,u5.2.1,u5.2.2.1,u5.2.2.2.1,a1.1,()),(([]:List Ab),()),(((([]:List Ah)++[r18])++[((3:Int),a0.1,(0:Int),(([]:List YB)++a0.2.2.2.2.2.1),(([]:List YB)++a2.2.2.2.1),(0:Int),(0:Int),([]:List YB),(([]:List YB)++a0.2.2.2.2.2.2.2.2.2.2.2.2.2.2.2.2.2.2.2.2.1),(0:Int),(0:Int),(0:Int),())]),())))
def Uw (a2:Ab) (r15:Ai×YBs×YI) (r18:Ah) (a0:Ac) (a1:YI) (r1:Ac):Tree (Ac×((List Ab)×Unit)×((List Ah)×Unit)):=
 .br (a2.1==(4:Int)) (
 Um a2 r15 r18 a0 a1 r1) (
 Uv a2 r15 r18 a0 r1 a1)
def Ux (r15:Ai×YBs×YI) (a0:Ac) (a2:Ab) (r18:Ah) (a1:YI) (r1:Ac):Tree (Ac×((List Ab)×Unit)×((List Ah)×Unit)):=
 .br (r15.1.2.2.1 != a0.2.2.2.2.2.2.2.2.2.2.2.2.2.2.2.2.2.2.2.1) (
 Ua a2 r15 r18 a0 a1 r1) (
 Uw a2 r15 r18 a0 a1 r1)
def Uy (r18:Ah) (a0:Ac) (a2:Ab) (r15:Ai×YBs×YI) (a1:YI) (r1:Ac):Tree (Ac×((List Ab)×Unit)×((List Ah)×Unit)):=
 .chk (decide ((([]:List Ah)++[r18]).length+[((3:Int),a0.1,(0:Int),(([]:List YB)++a0.2.2.2.2.2.1),(([]:List YB)++a2.2.2.2.1),(0:Int),(0:Int),([]:List YB),(([]:List YB)++a0.2.2.2.2.2.2.2.2.2.2.2.2.2.2.2.2.2.2.2.2.1),(0:Int),(0:Int),(0:Int),())].length≤4294967296)) <|
 Ux r15 a0 a2 r18 a1 r1
def Uz (a0:Ac) (r18:Ah) (a2:Ab) (r15:Ai×YBs×YI) (a1:YI) (r1:Ac):Tree (Ac×((List Ab)×Unit)×((List Ah)×Unit)):=
 .chk (decide (([]:List YB).length+a0.2.2.2.2.2.2.2.2.2.2.2.2.2.2.2.2.2.2.2.2.1.length≤4294967296)) <|
 Uy r18 a0 a2 r15 a1 r1
def U0 (a2:Ab) (a0:Ac) (r18:Ah) (r15:Ai×YBs×YI) (a1:YI) (r1:Ac):Tree (Ac×((List Ab)×Unit)×((List Ah)×Unit)):=
 .chk (decide (([]:List YB).length+a2.2.2.2.1.length≤4294967296)) <|
 Uz a0 r18 a2 r15 a1 r1
def U1 (a0:Ac) (a2:Ab) (r18:Ah) (r15:Ai×YBs×YI) (a1:YI) (r1:Ac):Tree (Ac×((List Ab)×Unit)×((List Ah)×Unit)):=
 .chk (decide (([]:List YB).length+a0.2.2.2.2.2.1.length≤4294967296)) <|
 U0 a2 a0 r18 r15 a1 r1
def U2 (r18:Ah) (a2:Ab) (r15:Ai×YBs×YI) (a1:YI) (r28:Ah) (r27:Ai×Ab×YI) (r1:Ac):Tree (Ac×((List Ab)×Unit)×((List Ah)×Unit)):=
 letI u1:=a2.2.2.2;letI u2:=u1.2.2.2.2;letI u3:=r27.1.2.2.2;letI u4:=u3.2.2.2;letI u5:=u4.2.2.2.2;letI u6:=r1.2.2.2;letI u7:=u6.2.2.2;letI u8:=u7.2.2.2;letI u9:=u8.2.2.2.2;letI u10:=u9.2.2.2.2.2.2.2.2.2.2.2.2.2.2.2.2.2.2.2;.chk (decide (((((([]:List Ah)++[r18])++[((10:Int),(0:Int),(0:Int),([]:List YB),(([]:List YB)++u1.1),r15.1.2.2.1,(0:Int),([]:List YB),(([]:List YB)++r15.1.2.2.2.1),(0:Int),(0:Int),(0:Int),())])++[((6:Int),(0:Int),(1:Int),([]:List YB),(([]:List YB)++u1.1),u2.1,u2.2.1,(([]:List YB)++r15.2.1.1),([]:List YB),(0:Int),(0:Int),a1.1,())])++[r28]).length+[((8:Int),(0:Int),(0:Int),([]:List YB),(([]:List YB)++u1.1),r27.2.1.2.2.2.2.2.2.2.1,(0:Int),(([]:List YB)++r15.2.1.1),([]:List YB),(0:Int),(0:Int),(0:Int),())].length≤4294967296)) <|
 .leaf ((r1.1,r1.2.1,r1.2.2.1,u6.1,u6.2.1,u6.2.2.1,u7.1,u7.2.1,u7.2.2.1,u8.1,u8.2.1,u8.2.2.1,u8.2.2.2.1,u9.1,u9.2.1,u9.2.2.1,u9.2.2.2.1,r27.1.1,r27.1.2.1,r27.1.2.2.1,u3.1,u3.2.1,u3.2.2.1,u4.1,u4.2.1,u4.2.2.1,u4.2.2.2.1,u5.1,u5.2.1,u5.2.2.1,u5.2.2.2.1,u5.2.2.2.2.1,u10.1,u10.2.1,u10.2.2.1,u10.2.2.2.1,false,(0:Int),(0:Int),(0:Int),a1.1,()),((([]:List Ab)++[r27.2.1]),()),((((((([]:List Ah)++[r18])++[((10:Int),(0:Int),(0:Int),([]:List YB),(([]:List YB)++u1.1),r15.1.2.2.1,(0:Int),([]:List YB),(([]:List YB)++r15.1.2.2.2.1),(0:Int),(0:Int),(0:Int),())])++[((6:Int),(0:Int),(1:Int),([]:List YB),(([]:List YB)++u1.1),u2.1,u2.2.1,(([]:List YB)++r15.2.1.1),([]:List YB),(0:Int),(0:Int),a1.1,())])++[r28])++[((8:Int),(0:Int),(0:Int),([]:List YB),(([]:List YB)++u1.1),r27.2.1.2.2.2.2.2.2.2.1,(0:Int),(([]:List YB)++r15.2.1.1),([]:List YB),(0:Int),(0:Int),(0:Int),())]),()))
def U3 (r15:Ai×YBs×YI) (r18:Ah) (a2:Ab) (a1:YI) (r28:Ah) (r27:Ai×Ab×YI) (r1:Ac):Tree (Ac×((List Ab)×Unit)×((List Ah)×Unit)):=
 .chk (decide (([]:List YB).length+r15.2.1.1.length≤4294967296)) <|
 U2 r18 a2 r15 a1 r28 r27 r1
def U4 (a2:Ab) (r15:Ai×YBs×YI) (r18:Ah) (a1:YI) (r28:Ah) (r27:Ai×Ab×YI) (r1:Ac):Tree (Ac×((List Ab)×Unit)×((List Ah)×Unit)):=
 .chk (decide (([]:List YB).length+a2.2.2.2.1.length≤4294967296)) <|
 U3 r15 r18 a2 a1 r28 r27 r1
def U5 (r18:Ah) (a2:Ab) (r15:Ai×YBs×YI) (a1:YI) (r28:Ah) (r27:Ai×Ab×YI) (r1:Ac):Tree (Ac×((List Ab)×Unit)×((List Ah)×Unit)):=
 letI u1:=a2.2.2.2;.chk (decide ((((([]:List Ah)++[r18])++[((10:Int),(0:Int),(0:Int),([]:List YB),(([]:List YB)++u1.1),r15.1.2.2.1,(0:Int),([]:List YB),(([]:List YB)++r15.1.2.2.2.1),(0:Int),(0:Int),(0:Int),())])++[((6:Int),(0:Int),(1:Int),([]:List YB),(([]:List YB)++u1.1),u1.2.2.2.2.1,u1.2.2.2.2.2.1,(([]:List YB)++r15.2.1.1),([]:List YB),(0:Int),(0:Int),a1.1,())]).length+[r28].length≤4294967296)) <|
 U4 a2 r15 r18 a1 r28 r27 r1
def U6 (r27:Ai×Ab×YI) (r18:Ah) (a2:Ab) (r15:Ai×YBs×YI) (a1:YI) (r1:Ac):Tree (Ac×((List Ab)×Unit)×((List Ah)×Unit)):=
 .ob (Eu r27.1 r27.2.1) fun r28=>
 U5 r18 a2 r15 a1 r28 r27 r1
def U7 (r27:Ai×Ab×YI) (r18:Ah) (a2:Ab) (r15:Ai×YBs×YI) (a1:YI) (r1:Ac):Tree (Ac×((List Ab)×Unit)×((List Ah)×Unit)):=
 .chk (decide (([]:List Ab).length+[r27.2.1].length≤4294967296)) <|
 U6 r27 r18 a2 r15 a1 r1
def U8 (r27:Ai×Ab×YI) (r18:Ah) (a2:Ab) (r15:Ai×YBs×YI) (a1:YI) (r1:Ac):Tree (Ac×((List Ab)×Unit)×((List Ah)×Unit)):=
 letI u1:=a2.2.2.2;letI u2:=r15.1.2.2;letI u3:=u2.2.2.2;letI u4:=u3.2.2.2;letI u5:=u4.2.2.2;letI u6:=r1.2.2.2;letI u7:=u6.2.2.2;letI u8:=u7.2.2.2;letI u9:=u8.2.2.2.2;letI u10:=u9.2.2.2.2.2.2.2.2.2.2.2.2.2.2.2.2.2.2.2;.br (r27.2.2.1==(0:Int)) (
 U7 r27 r18 a2 r15 a1 r1) (
 .leaf ((r1.1,r1.2.1,r1.2.2.1,u6.1,u6.2.1,u6.2.2.1,u7.1,u7.2.1,u7.2.2.1,u8.1,u8.2.1,u8.2.2.1,u8.2.2.2.1,u9.1,u9.2.1,u9.2.2.1,u9.2.2.2.1,r15.1.1,r15.1.2.1,u2.1,u2.2.1,u2.2.2.1,u3.1,u3.2.1,u3.2.2.1,u4.1,u4.2.1,u4.2.2.1,u5.1,u5.2.1,u5.2.2.1,u5.2.2.2.1,u10.1,u10.2.1,u10.2.2.1,u10.2.2.2.1,false,(0:Int),(0:Int),(0:Int),a1.1,()),(([]:List Ab),()),((((([]:List Ah)++[r18])++[((10:Int),(0:Int),(0:Int),([]:List YB),(([]:List YB)++u1.1),u2.1,(0:Int),([]:List YB),(([]:List YB)++u2.2.1),(0:Int),(0:Int),(0:Int),())])++[((6:Int),(0:Int),(1:Int),([]:List YB),(([]:List YB)++u1.1),u1.2.2.2.2.1,u1.2.2.2.2.2.1,(([]:List YB)++r15.2.1.1),([]:List YB),(0:Int),(0:Int),a1.1,())]),())))
def U9 (r15:Ai×YBs×YI) (r18:Ah) (a2:Ab) (a1:YI) (r1:Ac):Tree (Ac×((List Ab)×Unit)×((List Ah)×Unit)):=
 .ob (Ea r15.1 ((6:Int),()) r15.2.1) fun r27=>
 U8 r27 r18 a2 r15 a1 r1
def Va (a2:Ab) (r15:Ai×YBs×YI) (r18:Ah) (a1:YI) (r1:Ac):Tree (Ac×((List Ab)×Unit)×((List Ah)×Unit)):=
 letI u1:=a2.2.2.2;letI u2:=r15.1.2.2;letI u3:=u2.2.2.2;letI u4:=u3.2.2.2;letI u5:=u4.2.2.2;letI u6:=r1.2.2.2;letI u7:=u6.2.2.2;letI u8:=u7.2.2.2;letI u9:=u8.2.2.2.2;letI u10:=u9.2.2.2.2.2.2.2.2.2.2.2.2.2.2.2.2.2.2.2;.br (a2.1==(5:Int)) (
 U9 r15 r18 a2 a1 r1) (
 .leaf ((r1.1,r1.2.1,r1.2.2.1,u6.1,u6.2.1,u6.2.2.1,u7.1,u7.2.1,u7.2.2.1,u8.1,u8.2.1,u8.2.2.1,u8.2.2.2.1,u9.1,u9.2.1,u9.2.2.1,u9.2.2.2.1,r15.1.1,r15.1.2.1,u2.1,u2.2.1,u2.2.2.1,u3.1,u3.2.1,u3.2.2.1,u4.1,u4.2.1,u4.2.2.1,u5.1,u5.2.1,u5.2.2.1,u5.2.2.2.1,u10.1,u10.2.1,u10.2.2.1,u10.2.2.2.1,false,(0:Int),(0:Int),(0:Int),a1.1,()),(([]:List Ab),()),((((([]:List Ah)++[r18])++[((10:Int),(0:Int),(0:Int),([]:List YB),(([]:List YB)++u1.1),u2.1,(0:Int),([]:List YB),(([]:List YB)++u2.2.1),(0:Int),(0:Int),(0:Int),())])++[((6:Int),(0:Int),(1:Int),([]:List YB),(([]:List YB)++u1.1),u1.2.2.2.2.1,u1.2.2.2.2.2.1,(([]:List YB)++r15.2.1.1),([]:List YB),(0:Int),(0:Int),a1.1,())]),())))
def Vb (r18:Ah) (a2:Ab) (r15:Ai×YBs×YI) (a1:YI) (r1:Ac):Tree (Ac×((List Ab)×Unit)×((List Ah)×Unit)):=
 letI u1:=a2.2.2.2;.chk (decide (((([]:List Ah)++[r18])++[((10:Int),(0:Int),(0:Int),([]:List YB),(([]:List YB)++u1.1),r15.1.2.2.1,(0:Int),([]:List YB),(([]:List YB)++r15.1.2.2.2.1),(0:Int),(0:Int),(0:Int),())]).length+[((6:Int),(0:Int),(1:Int),([]:List YB),(([]:List YB)++u1.1),u1.2.2.2.2.1,u1.2.2.2.2.2.1,(([]:List YB)++r15.2.1.1),([]:List YB),(0:Int),(0:Int),a1.1,())].length≤4294967296)) <|
 Va a2 r15 r18 a1 r1
def Vc (r15:Ai×YBs×YI) (r18:Ah) (a2:Ab) (a1:YI) (r1:Ac):Tree (Ac×((List Ab)×Unit)×((List Ah)×Unit)):=
 .chk (decide (([]:List YB).length+r15.2.1.1.length≤4294967296)) <|
 Vb r18 a2 r15 a1 r1
def Vd (a2:Ab) (r15:Ai×YBs×YI) (r18:Ah) (a1:YI) (r1:Ac):Tree (Ac×((List Ab)×Unit)×((List Ah)×Unit)):=
 .chk (decide (([]:List YB).length+a2.2.2.2.1.length≤4294967296)) <|
 Vc r15 r18 a2 a1 r1
def Ve (r18:Ah) (a2:Ab) (r15:Ai×YBs×YI) (r30:Ah) (r29:Ai×Ab×YI) (r1:Ac) (a1:YI):Tree (Ac×((List Ab)×Unit)×((List Ah)×Unit)):=
 letI u1:=a2.2.2.2;letI u2:=r29.1.2.2.2;letI u3:=u2.2.2.2;letI u4:=u3.2.2.2.2;letI u5:=r1.2.2.2;letI u6:=u5.2.2.2;letI u7:=u6.2.2.2;letI u8:=u7.2.2.2.2;letI u9:=u8.2.2.2.2.2.2.2.2.2.2.2.2.2.2.2.2.2.2.2;.chk (decide ((((([]:List Ah)++[r18])++[((10:Int),(0:Int),(0:Int),([]:List YB),(([]:List YB)++u1.1),r15.1.2.2.1,(0:Int),([]:List YB),(([]:List YB)++r15.1.2.2.2.1),(0:Int),(0:Int),(0:Int),())])++[r30]).length+[((8:Int),(0:Int),(0:Int),([]:List YB),(([]:List YB)++u1.1),r29.2.1.2.2.2.2.2.2.2.1,(0:Int),(([]:List YB)++r15.2.1.1),([]:List YB),(0:Int),(0:Int),(0:Int),())].length≤4294967296)) <|
 .leaf ((r1.1,r1.2.1,r1.2.2.1,u5.1,u5.2.1,u5.2.2.1,u6.1,u6.2.1,u6.2.2.1,u7.1,u7.2.1,u7.2.2.1,u7.2.2.2.1,u8.1,u8.2.1,u8.2.2.1,u8.2.2.2.1,r29.1.1,r29.1.2.1,r29.1.2.2.1,u2.1,u2.2.1,u2.2.2.1,u3.1,u3.2.1,u3.2.2.1,u3.2.2.2.1,u4.1,u4.2.1,u4.2.2.1,u4.2.2.2.1,u4.2.2.2.2.1,u9.1,u9.2.1,u9.2.2.1,u9.2.2.2.1,false,(0:Int),(0:Int),(0:Int),a1.1,()),((([]:List Ab)++[r29.2.1]),()),(((((([]:List Ah)++[r18])++[((10:Int),(0:Int),(0:Int),([]:List YB),(([]:List YB)++u1.1),r15.1.2.2.1,(0:Int),([]:List YB),(([]:List YB)++r15.1.2.2.2.1),(0:Int),(0:Int),(0:Int),())])++[r30])++[((8:Int),(0:Int),(0:Int),([]:List YB),(([]:List YB)++u1.1),r29.2.1.2.2.2.2.2.2.2.1,(0:Int),(([]:List YB)++r15.2.1.1),([]:List YB),(0:Int),(0:Int),(0:Int),())]),()))
def Vf (r15:Ai×YBs×YI) (r18:Ah) (a2:Ab) (r30:Ah) (r29:Ai×Ab×YI) (r1:Ac) (a1:YI):Tree (Ac×((List Ab)×Unit)×((List Ah)×Unit)):=
 .chk (decide (([]:List YB).length+r15.2.1.1.length≤4294967296)) <|
 Ve r18 a2 r15 r30 r29 r1 a1
def Vg (a2:Ab) (r15:Ai×YBs×YI) (r18:Ah) (r30:Ah) (r29:Ai×Ab×YI) (r1:Ac) (a1:YI):Tree (Ac×((List Ab)×Unit)×((List Ah)×Unit)):=
 .chk (decide (([]:List YB).length+a2.2.2.2.1.length≤4294967296)) <|
 Vf r15 r18 a2 r30 r29 r1 a1
def Vh (r18:Ah) (a2:Ab) (r15:Ai×YBs×YI) (r30:Ah) (r29:Ai×Ab×YI) (r1:Ac) (a1:YI):Tree (Ac×((List Ab)×Unit)×((List Ah)×Unit)):=
 .chk (decide (((([]:List Ah)++[r18])++[((10:Int),(0:Int),(0:Int),([]:List YB),(([]:List YB)++a2.2.2.2.1),r15.1.2.2.1,(0:Int),([]:List YB),(([]:List YB)++r15.1.2.2.2.1),(0:Int),(0:Int),(0:Int),())]).length+[r30].length≤4294967296)) <|
 Vg a2 r15 r18 r30 r29 r1 a1
def Vi (r29:Ai×Ab×YI) (r18:Ah) (a2:Ab) (r15:Ai×YBs×YI) (r1:Ac) (a1:YI):Tree (Ac×((List Ab)×Unit)×((List Ah)×Unit)):=
 .ob (Eu r29.1 r29.2.1) fun r30=>
 Vh r18 a2 r15 r30 r29 r1 a1
def Vj (r29:Ai×Ab×YI) (r18:Ah) (a2:Ab) (r15:Ai×YBs×YI) (r1:Ac) (a1:YI):Tree (Ac×((List Ab)×Unit)×((List Ah)×Unit)):=
 .chk (decide (([]:List Ab).length+[r29.2.1].length≤4294967296)) <|
 Vi r29 r18 a2 r15 r1 a1
def Vk (r29:Ai×Ab×YI) (r18:Ah) (a2:Ab) (r15:Ai×YBs×YI) (r1:Ac) (a1:YI):Tree (Ac×((List Ab)×Unit)×((List Ah)×Unit)):=
 letI u1:=r15.1.2.2;letI u2:=u1.2.2.2;letI u3:=u2.2.2.2;letI u4:=u3.2.2.2;letI u5:=r1.2.2.2;letI u6:=u5.2.2.2;letI u7:=u6.2.2.2;letI u8:=u7.2.2.2.2;letI u9:=u8.2.2.2.2.2.2.2.2.2.2.2.2.2.2.2.2.2.2.2;.br (r29.2.2.1==(0:Int)) (
 Vj r29 r18 a2 r15 r1 a1) (
 .leaf ((r1.1,r1.2.1,r1.2.2.1,u5.1,u5.2.1,u5.2.2.1,u6.1,u6.2.1,u6.2.2.1,u7.1,u7.2.1,u7.2.2.1,u7.2.2.2.1,u8.1,u8.2.1,u8.2.2.1,u8.2.2.2.1,r15.1.1,r15.1.2.1,u1.1,u1.2.1,u1.2.2.1,u2.1,u2.2.1,u2.2.2.1,u3.1,u3.2.1,u3.2.2.1,u4.1,u4.2.1,u4.2.2.1,u4.2.2.2.1,u9.1,u9.2.1,u9.2.2.1,u9.2.2.2.1,false,(0:Int),(0:Int),(0:Int),a1.1,()),(([]:List Ab),()),(((([]:List Ah)++[r18])++[((10:Int),(0:Int),(0:Int),([]:List YB),(([]:List YB)++a2.2.2.2.1),u1.1,(0:Int),([]:List YB),(([]:List YB)++u1.2.1),(0:Int),(0:Int),(0:Int),())]),())))
def Vl (r15:Ai×YBs×YI) (r18:Ah) (a2:Ab) (r1:Ac) (a1:YI):Tree (Ac×((List Ab)×Unit)×((List Ah)×Unit)):=
 .ob (Ea r15.1 ((6:Int),()) r15.2.1) fun r29=>
 Vk r29 r18 a2 r15 r1 a1
def Vm (a2:Ab) (r15:Ai×YBs×YI) (r18:Ah) (r1:Ac) (a1:YI):Tree (Ac×((List Ab)×Unit)×((List Ah)×Unit)):=
 letI u1:=r15.1.2.2;letI u2:=u1.2.2.2;letI u3:=u2.2.2.2;letI u4:=u3.2.2.2;letI u5:=r1.2.2.2;letI u6:=u5.2.2.2;letI u7:=u6.2.2.2;letI u8:=u7.2.2.2.2;letI u9:=u8.2.2.2.2.2.2.2.2.2.2.2.2.2.2.2.2.2.2.2;.br (a2.1==(5:Int)) (
 Vl r15 r18 a2 r1 a1) (
 .leaf ((r1.1,r1.2.1,r1.2.2.1,u5.1,u5.2.1,u5.2.2.1,u6.1,u6.2.1,u6.2.2.1,u7.1,u7.2.1,u7.2.2.1,u7.2.2.2.1,u8.1,u8.2.1,u8.2.2.1,u8.2.2.2.1,r15.1.1,r15.1.2.1,u1.1,u1.2.1,u1.2.2.1,u2.1,u2.2.1,u2.2.2.1,u3.1,u3.2.1,u3.2.2.1,u4.1,u4.2.1,u4.2.2.1,u4.2.2.2.1,u9.1,u9.2.1,u9.2.2.1,u9.2.2.2.1,false,(0:Int),(0:Int),(0:Int),a1.1,()),(([]:List Ab),()),(((([]:List Ah)++[r18])++[((10:Int),(0:Int),(0:Int),([]:List YB),(([]:List YB)++a2.2.2.2.1),u1.1,(0:Int),([]:List YB),(([]:List YB)++u1.2.1),(0:Int),(0:Int),(0:Int),())]),())))
def Vn (a2:Ab) (r15:Ai×YBs×YI) (r18:Ah) (a1:YI) (r1:Ac):Tree (Ac×((List Ab)×Unit)×((List Ah)×Unit)):=
 .br (a2.1==(4:Int)) (
 Vd a2 r15 r18 a1 r1) (
 Vm a2 r15 r18 r1 a1)
def Vo (r18:Ah) (a2:Ab) (r15:Ai×YBs×YI) (a1:YI) (r1:Ac):Tree (Ac×((List Ab)×Unit)×((List Ah)×Unit)):=
 .chk (decide ((([]:List Ah)++[r18]).length+[((10:Int),(0:Int),(0:Int),([]:List YB),(([]:List YB)++a2.2.2.2.1),r15.1.2.2.1,(0:Int),([]:List YB),(([]:List YB)++r15.1.2.2.2.1),(0:Int),(0:Int),(0:Int),())].length≤4294967296)) <|
 Vn a2 r15 r18 a1 r1
def Vp (r15:Ai×YBs×YI) (r18:Ah) (a2:Ab) (a1:YI) (r1:Ac):Tree (Ac×((List Ab)×Unit)×((List Ah)×Unit)):=
 .chk (decide (([]:List YB).length+r15.1.2.2.2.1.length≤4294967296)) <|
 Vo r18 a2 r15 a1 r1
def Vq (a2:Ab) (r15:Ai×YBs×YI) (r18:Ah) (a1:YI) (r1:Ac):Tree (Ac×((List Ab)×Unit)×((List Ah)×Unit)):=
 .chk (decide (([]:List YB).length+a2.2.2.2.1.length≤4294967296)) <|
 Vp r15 r18 a2 a1 r1
def Vr (r18:Ah) (a2:Ab) (r15:Ai×YBs×YI) (a1:YI) (r32:Ah) (r31:Ai×Ab×YI) (r1:Ac):Tree (Ac×((List Ab)×Unit)×((List Ah)×Unit)):=
 letI u1:=a2.2.2.2;letI u2:=u1.2.2.2.2;letI u3:=r31.1.2.2.2;letI u4:=u3.2.2.2;letI u5:=u4.2.2.2.2;letI u6:=r1.2.2.2;letI u7:=u6.2.2.2;letI u8:=u7.2.2.2;letI u9:=u8.2.2.2.2;letI u10:=u9.2.2.2.2.2.2.2.2.2.2.2.2.2.2.2.2.2.2.2;letI u11:=u10.2.2.2;.chk (decide ((((([]:List Ah)++[r18])++[((6:Int),(0:Int),(1:Int),([]:List YB),(([]:List YB)++u1.1),u2.1,u2.2.1,(([]:List YB)++r15.2.1.1),([]:List YB),(0:Int),(0:Int),a1.1,())])++[r32]).length+[((8:Int),(0:Int),(0:Int),([]:List YB),(([]:List YB)++u1.1),r31.2.1.2.2.2.2.2.2.2.1,(0:Int),(([]:List YB)++r15.2.1.1),([]:List YB),(0:Int),(0:Int),(0:Int),())].length≤4294967296)) <|
 .leaf ((r1.1,r1.2.1,r1.2.2.1,u6.1,u6.2.1,u6.2.2.1,u7.1,u7.2.1,u7.2.2.1,u8.1,u8.2.1,u8.2.2.1,u8.2.2.2.1,u9.1,u9.2.1,u9.2.2.1,u9.2.2.2.1,r31.1.1,r31.1.2.1,r31.1.2.2.1,u3.1,u3.2.1,u3.2.2.1,u4.1,u4.2.1,u4.2.2.1,u4.2.2.2.1,u5.1,u5.2.1,u5.2.2.1,u5.2.2.2.1,u5.2.2.2.2.1,u10.1,u10.2.1,u10.2.2.1,u11.1,u11.2.1,u11.2.2.1,u11.2.2.2.1,u11.2.2.2.2.1,a1.1,()),((([]:List Ab)++[r31.2.1]),()),(((((([]:List Ah)++[r18])++[((6:Int),(0:Int),(1:Int),([]:List YB),(([]:List YB)++u1.1),u2.1,u2.2.1,(([]:List YB)++r15.2.1.1),([]:List YB),(0:Int),(0:Int),a1.1,())])++[r32])++[((8:Int),(0:Int),(0:Int),([]:List YB),(([]:List YB)++u1.1),r31.2.1.2.2.2.2.2.2.2.1,(0:Int),(([]:List YB)++r15.2.1.1),([]:List YB),(0:Int),(0:Int),(0:Int),())]),()))
def Vs (r15:Ai×YBs×YI) (r18:Ah) (a2:Ab) (a1:YI) (r32:Ah) (r31:Ai×Ab×YI) (r1:Ac):Tree (Ac×((List Ab)×Unit)×((List Ah)×Unit)):=
 .chk (decide (([]:List YB).length+r15.2.1.1.length≤4294967296)) <|
 Vr r18 a2 r15 a1 r32 r31 r1
def Vt (a2:Ab) (r15:Ai×YBs×YI) (r18:Ah) (a1:YI) (r32:Ah) (r31:Ai×Ab×YI) (r1:Ac):Tree (Ac×((List Ab)×Unit)×((List Ah)×Unit)):=
 .chk (decide (([]:List YB).length+a2.2.2.2.1.length≤4294967296)) <|
 Vs r15 r18 a2 a1 r32 r31 r1
def Vu (r18:Ah) (a2:Ab) (r15:Ai×YBs×YI) (a1:YI) (r32:Ah) (r31:Ai×Ab×YI) (r1:Ac):Tree (Ac×((List Ab)×Unit)×((List Ah)×Unit)):=
 letI u1:=a2.2.2.2.2.2.2.2;.chk (decide (((([]:List Ah)++[r18])++[((6:Int),(0:Int),(1:Int),([]:List YB),(([]:List YB)++a2.2.2.2.1),u1.1,u1.2.1,(([]:List YB)++r15.2.1.1),([]:List YB),(0:Int),(0:Int),a1.1,())]).length+[r32].length≤4294967296)) <|
 Vt a2 r15 r18 a1 r32 r31 r1
def Vv (r31:Ai×Ab×YI) (r18:Ah) (a2:Ab) (r15:Ai×YBs×YI) (a1:YI) (r1:Ac):Tree (Ac×((List Ab)×Unit)×((List Ah)×Unit)):=
 .ob (Eu r31.1 r31.2.1) fun r32=>
 Vu r18 a2 r15 a1 r32 r31 r1
def Vw (r31:Ai×Ab×YI) (r18:Ah) (a2:Ab) (r15:Ai×YBs×YI) (a1:YI) (r1:Ac):Tree (Ac×((List Ab)×Unit)×((List Ah)×Unit)):=
 .chk (decide (([]:List Ab).length+[r31.2.1].length≤4294967296)) <|
 Vv r31 r18 a2 r15 a1 r1
def Vx (r31:Ai×Ab×YI) (r18:Ah) (a2:Ab) (r15:Ai×YBs×YI) (a1:YI) (r1:Ac):Tree (Ac×((List Ab)×Unit)×((List Ah)×Unit)):=
 letI u1:=a2.2.2.2.2.2.2.2;letI u2:=r15.1.2.2.2;letI u3:=u2.2.2.2;letI u4:=u3.2.2.2.2;letI u5:=r1.2.2.2;letI u6:=u5.2.2.2;letI u7:=u6.2.2.2;letI u8:=u7.2.2.2.2;letI u9:=u8.2.2.2.2.2.2.2.2.2.2.2.2.2.2.2.2.2.2.2;letI u10:=u9.2.2.2;.br (r31.2.2.1==(0:Int)) (
 Vw r31 r18 a2 r15 a1 r1) (
 .leaf ((r1.1,r1.2.1,r1.2.2.1,u5.1,u5.2.1,u5.2.2.1,u6.1,u6.2.1,u6.2.2.1,u7.1,u7.2.1,u7.2.2.1,u7.2.2.2.1,u8.1,u8.2.1,u8.2.2.1,u8.2.2.2.1,r15.1.1,r15.1.2.1,r15.1.2.2.1,u2.1,u2.2.1,u2.2.2.1,u3.1,u3.2.1,u3.2.2.1,u3.2.2.2.1,u4.1,u4.2.1,u4.2.2.1,u4.2.2.2.1,u4.2.2.2.2.1,u9.1,u9.2.1,u9.2.2.1,u10.1,u10.2.1,u10.2.2.1,u10.2.2.2.1,u10.2.2.2.2.1,a1.1,()),(([]:List Ab),()),(((([]:List Ah)++[r18])++[((6:Int),(0:Int),(1:Int),([]:List YB),(([]:List YB)++a2.2.2.2.1),u1.1,u1.2.1,(([]:List YB)++r15.2.1.1),([]:List YB),(0:Int),(0:Int),a1.1,())]),())))
def Vy (r15:Ai×YBs×YI) (r18:Ah) (a2:Ab) (a1:YI) (r1:Ac):Tree (Ac×((List Ab)×Unit)×((List Ah)×Unit)):=
 .ob (Ea r15.1 ((6:Int),()) r15.2.1) fun r31=>
 Vx r31 r18 a2 r15 a1 r1
def Vz (a2:Ab) (r15:Ai×YBs×YI) (r18:Ah) (a1:YI) (r1:Ac):Tree (Ac×((List Ab)×Unit)×((List Ah)×Unit)):=
 letI u1:=a2.2.2.2.2.2.2.2;letI u2:=r15.1.2.2.2;letI u3:=u2.2.2.2;letI u4:=u3.2.2.2.2;letI u5:=r1.2.2.2;letI u6:=u5.2.2.2;letI u7:=u6.2.2.2;letI u8:=u7.2.2.2.2;letI u9:=u8.2.2.2.2.2.2.2.2.2.2.2.2.2.2.2.2.2.2.2;letI u10:=u9.2.2.2;.br (a2.1==(5:Int)) (
 Vy r15 r18 a2 a1 r1) (
 .leaf ((r1.1,r1.2.1,r1.2.2.1,u5.1,u5.2.1,u5.2.2.1,u6.1,u6.2.1,u6.2.2.1,u7.1,u7.2.1,u7.2.2.1,u7.2.2.2.1,u8.1,u8.2.1,u8.2.2.1,u8.2.2.2.1,r15.1.1,r15.1.2.1,r15.1.2.2.1,u2.1,u2.2.1,u2.2.2.1,u3.1,u3.2.1,u3.2.2.1,u3.2.2.2.1,u4.1,u4.2.1,u4.2.2.1,u4.2.2.2.1,u4.2.2.2.2.1,u9.1,u9.2.1,u9.2.2.1,u10.1,u10.2.1,u10.2.2.1,u10.2.2.2.1,u10.2.2.2.2.1,a1.1,()),(([]:List Ab),()),(((([]:List Ah)++[r18])++[((6:Int),(0:Int),(1:Int),([]:List YB),(([]:List YB)++a2.2.2.2.1),u1.1,u1.2.1,(([]:List YB)++r15.2.1.1),([]:List YB),(0:Int),(0:Int),a1.1,())]),())))
def V0 (r18:Ah) (a2:Ab) (r15:Ai×YBs×YI) (a1:YI) (r1:Ac):Tree (Ac×((List Ab)×Unit)×((List Ah)×Unit)):=
 letI u1:=a2.2.2.2.2.2.2.2;.chk (decide ((([]:List Ah)++[r18]).length+[((6:Int),(0:Int),(1:Int),([]:List YB),(([]:List YB)++a2.2.2.2.1),u1.1,u1.2.1,(([]:List YB)++r15.2.1.1),([]:List YB),(0:Int),(0:Int),a1.1,())].length≤4294967296)) <|
 Vz a2 r15 r18 a1 r1
def V2 (r15:Ai×YBs×YI) (r18:Ah) (a2:Ab) (a1:YI) (r1:Ac):Tree (Ac×((List Ab)×Unit)×((List Ah)×Unit)):=
 .chk (decide (([]:List YB).length+r15.2.1.1.length≤4294967296)) <|
 V0 r18 a2 r15 a1 r1
def V3 (a2:Ab) (r15:Ai×YBs×YI) (r18:Ah) (a1:YI) (r1:Ac):Tree (Ac×((List Ab)×Unit)×((List Ah)×Unit)):=
 .chk (decide (([]:List YB).length+a2.2.2.2.1.length≤4294967296)) <|
 V2 r15 r18 a2 a1 r1
def V4 (r18:Ah) (r34:Ah) (a2:Ab) (r33:Ai×Ab×YI) (r15:Ai×YBs×YI) (r1:Ac) (a1:YI):Tree (Ac×((List Ab)×Unit)×((List Ah)×Unit)):=
 letI u1:=r33.1.2.2.2;letI u2:=u1.2.2.2;letI u3:=u2.2.2.2.2;letI u4:=r1.2.2.2;letI u5:=u4.2.2.2;letI u6:=u5.2.2.2;letI u7:=u6.2.2.2.2;letI u8:=u7.2.2.2.2.2.2.2.2.2.2.2.2.2.2.2.2.2.2.2;letI u9:=u8.2.2.2;.chk (decide (((([]:List Ah)++[r18])++[r34]).length+[((8:Int),(0:Int),(0:Int),([]:List YB),(([]:List YB)++a2.2.2.2.1),r33.2.1.2.2.2.2.2.2.2.1,(0:Int),(([]:List YB)++r15.2.1.1),([]:List YB),(0:Int),(0:Int),(0:Int),())].length≤4294967296)) <|
 .leaf ((r1.1,r1.2.1,r1.2.2.1,u4.1,u4.2.1,u4.2.2.1,u5.1,u5.2.1,u5.2.2.1,u6.1,u6.2.1,u6.2.2.1,u6.2.2.2.1,u7.1,u7.2.1,u7.2.2.1,u7.2.2.2.1,r33.1.1,r33.1.2.1,r33.1.2.2.1,u1.1,u1.2.1,u1.2.2.1,u2.1,u2.2.1,u2.2.2.1,u2.2.2.2.1,u3.1,u3.2.1,u3.2.2.1,u3.2.2.2.1,u3.2.2.2.2.1,u8.1,u8.2.1,u8.2.2.1,u9.1,u9.2.1,u9.2.2.1,u9.2.2.2.1,u9.2.2.2.2.1,a1.1,()),((([]:List Ab)++[r33.2.1]),()),((((([]:List Ah)++[r18])++[r34])++[((8:Int),(0:Int),(0:Int),([]:List YB),(([]:List YB)++a2.2.2.2.1),r33.2.1.2.2.2.2.2.2.2.1,(0:Int),(([]:List YB)++r15.2.1.1),([]:List YB),(0:Int),(0:Int),(0:Int),())]),()))
def V5 (r15:Ai×YBs×YI) (r18:Ah) (r34:Ah) (a2:Ab) (r33:Ai×Ab×YI) (r1:Ac) (a1:YI):Tree (Ac×((List Ab)×Unit)×((List Ah)×Unit)):=
 .chk (decide (([]:List YB).length+r15.2.1.1.length≤4294967296)) <|
 V4 r18 r34 a2 r33 r15 r1 a1
def V6 (a2:Ab) (r15:Ai×YBs×YI) (r18:Ah) (r34:Ah) (r33:Ai×Ab×YI) (r1:Ac) (a1:YI):Tree (Ac×((List Ab)×Unit)×((List Ah)×Unit)):=
 .chk (decide (([]:List YB).length+a2.2.2.2.1.length≤4294967296)) <|
 V5 r15 r18 r34 a2 r33 r1 a1
def V7 (r18:Ah) (r34:Ah) (a2:Ab) (r15:Ai×YBs×YI) (r33:Ai×Ab×YI) (r1:Ac) (a1:YI):Tree (Ac×((List Ab)×Unit)×((List Ah)×Unit)):=
 .chk (decide ((([]:List Ah)++[r18]).length+[r34].length≤4294967296)) <|
 V6 a2 r15 r18 r34 r33 r1 a1
def V8 (r33:Ai×Ab×YI) (r18:Ah) (a2:Ab) (r15:Ai×YBs×YI) (r1:Ac) (a1:YI):Tree (Ac×((List Ab)×Unit)×((List Ah)×Unit)):=
 .ob (Eu r33.1 r33.2.1) fun r34=>
 V7 r18 r34 a2 r15 r33 r1 a1
def V9 (r33:Ai×Ab×YI) (r18:Ah) (a2:Ab) (r15:Ai×YBs×YI) (r1:Ac) (a1:YI):Tree (Ac×((List Ab)×Unit)×((List Ah)×Unit)):=
 .chk (decide (([]:List Ab).length+[r33.2.1].length≤4294967296)) <|
 V8 r33 r18 a2 r15 r1 a1
def Wa (r33:Ai×Ab×YI) (r18:Ah) (a2:Ab) (r15:Ai×YBs×YI) (r1:Ac) (a1:YI):Tree (Ac×((List Ab)×Unit)×((List Ah)×Unit)):=
 letI u1:=r15.1.2.2.2;letI u2:=u1.2.2.2;letI u3:=u2.2.2.2.2;letI u4:=r1.2.2.2;letI u5:=u4.2.2.2;letI u6:=u5.2.2.2;letI u7:=u6.2.2.2.2;letI u8:=u7.2.2.2.2.2.2.2.2.2.2.2.2.2.2.2.2.2.2.2;letI u9:=u8.2.2.2;.br (r33.2.2.1==(0:Int)) (
 V9 r33 r18 a2 r15 r1 a1) (
 .leaf ((r1.1,r1.2.1,r1.2.2.1,u4.1,u4.2.1,u4.2.2.1,u5.1,u5.2.1,u5.2.2.1,u6.1,u6.2.1,u6.2.2.1,u6.2.2.2.1,u7.1,u7.2.1,u7.2.2.1,u7.2.2.2.1,r15.1.1,r15.1.2.1,r15.1.2.2.1,u1.1,u1.2.1,u1.2.2.1,u2.1,u2.2.1,u2.2.2.1,u2.2.2.2.1,u3.1,u3.2.1,u3.2.2.1,u3.2.2.2.1,u3.2.2.2.2.1,u8.1,u8.2.1,u8.2.2.1,u9.1,u9.2.1,u9.2.2.1,u9.2.2.2.1,u9.2.2.2.2.1,a1.1,()),(([]:List Ab),()),((([]:List Ah)++[r18]),())))
def Wb (r15:Ai×YBs×YI) (r18:Ah) (a2:Ab) (r1:Ac) (a1:YI):Tree (Ac×((List Ab)×Unit)×((List Ah)×Unit)):=
 .ob (Ea r15.1 ((6:Int),()) r15.2.1) fun r33=>
 Wa r33 r18 a2 r15 r1 a1
def Wc (a2:Ab) (r15:Ai×YBs×YI) (r18:Ah) (r1:Ac) (a1:YI):Tree (Ac×((List Ab)×Unit)×((List Ah)×Unit)):=
 letI u1:=r15.1.2.2.2;letI u2:=u1.2.2.2;letI u3:=u2.2.2.2.2;letI u4:=r1.2.2.2;letI u5:=u4.2.2.2;letI u6:=u5.2.2.2;letI u7:=u6.2.2.2.2;letI u8:=u7.2.2.2.2.2.2.2.2.2.2.2.2.2.2.2.2.2.2.2;letI u9:=u8.2.2.2;.br (a2.1==(5:Int)) (
 Wb r15 r18 a2 r1 a1) (
 .leaf ((r1.1,r1.2.1,r1.2.2.1,u4.1,u4.2.1,u4.2.2.1,u5.1,u5.2.1,u5.2.2.1,u6.1,u6.2.1,u6.2.2.1,u6.2.2.2.1,u7.1,u7.2.1,u7.2.2.1,u7.2.2.2.1,r15.1.1,r15.1.2.1,r15.1.2.2.1,u1.1,u1.2.1,u1.2.2.1,u2.1,u2.2.1,u2.2.2.1,u2.2.2.2.1,u3.1,u3.2.1,u3.2.2.1,u3.2.2.2.1,u3.2.2.2.2.1,u8.1,u8.2.1,u8.2.2.1,u9.1,u9.2.1,u9.2.2.1,u9.2.2.2.1,u9.2.2.2.2.1,a1.1,()),(([]:List Ab),()),((([]:List Ah)++[r18]),())))
def Wd (a2:Ab) (r15:Ai×YBs×YI) (r18:Ah) (a1:YI) (r1:Ac):Tree (Ac×((List Ab)×Unit)×((List Ah)×Unit)):=
 .br (a2.1==(4:Int)) (
 V3 a2 r15 r18 a1 r1) (
 Wc a2 r15 r18 r1 a1)
def R0 (r15:Ai×YBs×YI) (a0:Ac) (a2:Ab) (r18:Ah) (a1:YI) (r1:Ac):Tree (Ac×((List Ab)×Unit)×((List Ah)×Unit)):=
 .br (r15.1.2.2.1 != a0.2.2.2.2.2.2.2.2.2.2.2.2.2.2.2.2.2.2.2.1) (
 Vq a2 r15 r18 a1 r1) (
 Wd a2 r15 r18 a1 r1)
def R1 (a0:Ac) (a2:Ab) (r18:Ah) (r15:Ai×YBs×YI) (a1:YI) (r1:Ac):Tree (Ac×((List Ab)×Unit)×((List Ah)×Unit)):=
 .br (a0.2.2.2.2.1==(2:Int)) (
 U1 a0 a2 r18 r15 a1 r1) (
 R0 r15 a0 a2 r18 a1 r1)
def R2 (r18:Ah) (a0:Ac) (a2:Ab) (r15:Ai×YBs×YI) (a1:YI) (r1:Ac):Tree (Ac×((List Ab)×Unit)×((List Ah)×Unit)):=
 .chk (decide (([]:List Ah).length+[r18].length≤4294967296)) <|
 R1 a0 a2 r18 r15 a1 r1
def R3 (r16:YBs×(Bool×Unit)) (a2:Ab) (r17:YBs) (a0:Ac) (r15:Ai×YBs×YI) (a1:YI) (r1:Ac):Tree (Ac×((List Ab)×Unit)×((List Ah)×Unit)):=
 .ob (Aps r16.1 (a2.2.2.2.1,()) r17) fun r18=>
 R2 r18 a0 a2 r15 a1 r1
def R4 (a2:Ab) (r16:YBs×(Bool×Unit)) (a0:Ac) (r15:Ai×YBs×YI) (a1:YI) (r1:Ac):Tree (Ac×((List Ab)×Unit)×((List Ah)×Unit)):=
 .ob (Gx ((1:Int),()) a2) fun r17=>
 R3 r16 a2 r17 a0 r15 a1 r1
def R5 (a0:Ac) (a2:Ab) (r15:Ai×YBs×YI) (a1:YI) (r1:Ac):Tree (Ac×((List Ab)×Unit)×((List Ah)×Unit)):=
 letI u1:=a0.2.2.2.2.2.2.2.2.2.2.2.2.2.2.2.2.2;letI u2:=u1.2.2.2;letI u3:=u2.2.2.2;letI u4:=u3.2.2.2.2;.ob (Wh (u1.1,u1.2.1,u1.2.2.1,u2.1,u2.2.1,u2.2.2.1,u3.1,u3.2.1,u3.2.2.1,u3.2.2.2.1,u4.1,u4.2.1,u4.2.2.1,u4.2.2.2.1,u4.2.2.2.2.1,()) (a2.2.2.2.2.2.2.2.1,())) fun r16=>
 R4 a2 r16 a0 r15 a1 r1
def R6 (r15:Ai×YBs×YI) (r1:Ac) (a0:Ac) (a2:Ab) (a1:YI):Tree (Ac×((List Ab)×Unit)×((List Ah)×Unit)):=
 .br (r15.2.2.1 != (0:Int)) (
 .leaf (r1,(([]:List Ab),()),(([]:List Ah),()))) (
 R5 a0 a2 r15 a1 r1)
def Hs (a0:Ac) (a1:YI) (a2:Ab) (r1:Ac):Tree (Ac×((List Ab)×Unit)×((List Ah)×Unit)):=
 letI u1:=a0.2.2.2.2.2.2.2.2.2.2.2.2.2.2.2.2.2;letI u2:=u1.2.2.2;letI u3:=u2.2.2.2;letI u4:=u3.2.2.2.2;.ob (Gy (u1.1,u1.2.1,u1.2.2.1,u2.1,u2.2.1,u2.2.2.1,u3.1,u3.2.1,u3.2.2.1,u3.2.2.2.1,u4.1,u4.2.1,u4.2.2.1,u4.2.2.2.1,u4.2.2.2.2.1,()) a1 a2) fun r15=>
 R6 r15 r1 a0 a2 a1
def R7 (a0:Ac) (r1:Ac) (a1:YI) (a2:Ab):Tree (Ac×((List Ab)×Unit)×((List Ah)×Unit)):=
 .br (decide (a0.2.2.2.2.1<(2:Int))) (
 .leaf (r1,(([]:List Ab),()),(([]:List Ah),()))) (
 Hs a0 a1 a2 r1)
def R8 (r14:(Bool×Unit)) (r1:Ac) (a0:Ac) (a1:YI) (a2:Ab):Tree (Ac×((List Ab)×Unit)×((List Ah)×Unit)):=
 .br (!r14.1) (
 .leaf (r1,(([]:List Ab),()),(([]:List Ah),()))) (
 R7 a0 r1 a1 a2)
def Ht (a2:Ab) (r1:Ac) (a0:Ac) (a1:YI):Tree (Ac×((List Ab)×Unit)×((List Ah)×Unit)):=
 .ob (Hq (a2.1,())) fun r14=>
 R8 r14 r1 a0 a1 a2
def Qc (a0:Ac) (a1:YI) (a2:Ab):Tree (Ac×((List Ab)×Unit)×((List Ah)×Unit)):=
 letI u1:=a0.2.2.2.2;letI u2:=a2.2.2.2;.ob (Q6 a0) fun r1=>letI u3:=r1.2.2;letI u4:=u3.2.2.2.2.2.2.2.2.2.2.2.2.2.2.2.2.2.2.2.2.2.2.2.2.2.2.2.2.2.2.2.2.2.2;
 .ob (Ie a0) fun r2=>
 .br (!r2.1) (
 .leaf (r1,(([]:List Ab),()),(([]:List Ah),()))) (
 .ob (Bi a1 ((0:Int),()) ((1000000:Int),())) fun r3=>
 .br (!r3.1) (
 .leaf (r1,(([]:List Ab),()),(([]:List Ah),()))) (
 .ob (H5 a2) fun r4=>
 .br (!r4.1) (
 .leaf (r1,(([]:List Ab),()),(([]:List Ah),()))) (
 .br (a2.1==(2:Int)) (
 .br (u1.1==(1:Int)) (
 .ob (N4 (a2.2.2.1,()) (u1.2.1,())) fun r5=>
 .br r5.1 (
 .ob (Xh (a0.2.1,()) (a0.1,()) a2) fun r6=>letI u5:=r6.1.2.2;letI u6:=u5.2.2;letI u7:=u6.2.2.2;
 .ob (Xl (a0.2.1,()) (u1.2.1,()) (u2.1,()) ((0:Int),())) fun r7=>
 .ob (J6 ((0:Int),()) (u2.1,()) r7) fun r8=>letI u8:=r8.2.2.2;letI u9:=u8.2.2.2;letI u10:=u9.2.2.2.2;
 .ob (Dg a1) fun r9=>
 .chk (decide (([]:List YB).length+a0.2.2.2.2.2.1.length≤4294967296)) <|
 .chk (decide (([]:List YB).length+a2.2.2.2.1.length≤4294967296)) <|
 .chk (decide (([]:List Ah).length+[((2:Int),a0.1,(0:Int),(([]:List YB)++u1.2.1),(([]:List YB)++u2.1),(0:Int),(0:Int),([]:List YB),([]:List YB),(0:Int),(0:Int),a1.1,())].length≤4294967296)) <|
 .ob (Ms (a0.2.1,())) fun r10=>
 .ob (Ju (r6.1.2.1,()) (u5.1,()) (u5.2.1,()) (u6.1,()) (u6.2.1,())) fun r11=>
 .ob (Afu r10 r11) fun r12=>
 .chk (decide ((([]:List Ah)++[((2:Int),a0.1,(0:Int),(([]:List YB)++u1.2.1),(([]:List YB)++u2.1),(0:Int),(0:Int),([]:List YB),([]:List YB),(0:Int),(0:Int),a1.1,())]).length+[r12].length≤4294967296)) <|
 .ob (Lj r6.1) fun r13=>
 .chk (decide (([]:List Ab).length+[r13].length≤4294967296)) <|
 .leaf ((r1.1,r1.2.1,u3.1,u3.2.1,(2:Int),u3.2.2.2.1,r6.1.1,r6.1.2.1,u5.1,u5.2.1,u6.1,u6.2.1,u6.2.2.1,u7.1,u7.2.1,u7.2.2.1,u7.2.2.2.1,r8.1,r8.2.1,r8.2.2.1,u8.1,u8.2.1,u8.2.2.1,u9.1,u9.2.1,u9.2.2.1,u9.2.2.2.1,u10.1,u10.2.1,u10.2.2.1,u10.2.2.2.1,u10.2.2.2.2.1,r9.1,r9.2.1,r9.2.2.1,r9.2.2.2.1,u4.1,u4.2.1,u4.2.2.1,u4.2.2.2.1,u4.2.2.2.2.1,()),((([]:List Ab)++[r13]),()),(((([]:List Ah)++[((2:Int),a0.1,(0:Int),(([]:List YB)++u1.2.1),(([]:List YB)++u2.1),(0:Int),(0:Int),([]:List YB),([]:List YB),(0:Int),(0:Int),a1.1,())])++[r12]),()))) (
 Ht a2 r1 a0 a1)) (
 Ht a2 r1 a0 a1)) (
 Ht a2 r1 a0 a1))))
def Ik (a0:Ac) (a1:YI) (a2:Ab):Option (Ac×((List Ab)×Unit)×((List Ah)×Unit)):=(Qc a0 a1 a2).val
def S4 (a0:YI):Tree (YBs):=
 .ob (Bi a0 ((0:Int),()) ((4294967295:Int),())) fun r1=>
 .br (!r1.1) (
 .leaf (([]:List YB),())) (
 .ob (Ff (([]:List YB),()) a0 ((4:Int),())) fun r2=>
 .leaf r2)
def Jv (a0:YI):Option (YBs):=(S4 a0).val
def Af7 (a0:Au) (a1:YI):Tree ((Bool×Unit)×Au):=
 .ob (A7 a0 a1) fun r1=>
 .leaf (((r1.1.1==(0:Int)),()),(a0.1,r1.2.2.1,r1.2.2.2.1,()))
def Ax (a0:Au) (a1:YI):Option ((Bool×Unit)×Au):=(Af7 a0 a1).val
def Od (x3:(List YI)×Int×Int×(List YB)×Int×Int×Unit):Option (((List YI)×Int×Int×(List YB)×Int×Int×Unit)⊕(((List YI)×(List YB)×Int×Int×Unit))):=
 letI u1:=x3.2.2.2;Tree.val (α:=((List YI)×Int×Int×(List YB)×Int×Int×Unit)⊕(((List YI)×(List YB)×Int×Int×Unit))) <|
 .br (decide (x3.2.2.1>(0:Int))) (
 .ob (Ax (u1.1,u1.2.1,u1.2.2.1,()) ((6:Int),())) fun r4=>
 .br r4.1.1 (
 .ob (A3 (u1.1,r4.2.2.1,r4.2.2.2.1,()) ([((1:Int),()),((32:Int),()),((900:Int),()),((1023:Int),()),((1024:Int),()),((1025:Int),()),((3000:Int),())],())) fun r5=>
 .ob (A7 (u1.1,r5.2.2.1,r5.2.2.2.1,()) ((40:Int),())) fun r6=>
 .ob (A3 (u1.1,r6.2.2.1,r6.2.2.2.1,()) ([((0:Int),()),((0:Int),()),((20:Int),()),((1000:Int),())],())) fun r7=>
 .chk (decide (x3.1.length+[((i64.wrap ((i64.wrap ((i64.wrap (x3.2.1+r5.1.1))+r6.1.1))-r7.1.1)),())].length≤4294967296)) <|
 .leaf (.inl ((x3.1++[((i64.wrap ((i64.wrap ((i64.wrap (x3.2.1+r5.1.1))+r6.1.1))-r7.1.1)),())]),(i64.wrap (x3.2.1+r5.1.1)),(i64.wrap (x3.2.2.1-(1:Int))),u1.1,r7.2.2.1,r7.2.2.2.1,()))) (
 .ob (A7 (u1.1,r4.2.2.1,r4.2.2.2.1,()) ((40:Int),())) fun r8=>
 .ob (A3 (u1.1,r8.2.2.1,r8.2.2.2.1,()) ([((0:Int),()),((0:Int),()),((20:Int),()),((1000:Int),())],())) fun r9=>
 .chk (decide (x3.1.length+[((i64.wrap ((i64.wrap (x3.2.1+r8.1.1))-r9.1.1)),())].length≤4294967296)) <|
 .leaf (.inl ((x3.1++[((i64.wrap ((i64.wrap (x3.2.1+r8.1.1))-r9.1.1)),())]),x3.2.1,(i64.wrap (x3.2.2.1-(1:Int))),u1.1,r9.2.2.1,r9.2.2.2.1,())))) (
 .leaf (.inr (x3.1,u1.1,u1.2.1,u1.2.2.1,())))
def Af8 (a0:Au) (a1:YI):Tree (((List YI)×Unit)×Au):=
 .ob (A3 a0 ([((0:Int),()),((0:Int),()),((0:Int),()),((1000:Int),()),((5000:Int),()),((281474976710000:Int),())],())) fun r1=>
 .ob (A7 (a0.1,r1.2.2.1,r1.2.2.2.1,()) ((i64.wrap (a1.1+(1:Int))),())) fun r2=>
 .ob (A1 Od (([]:List YI),r1.1.1,r2.1.1,a0.1,r2.2.2.1,r2.2.2.2.1,())) fun o10=>
 .ob (Ax (o10.2.1,o10.2.2.1,o10.2.2.2.1,()) ((5:Int),())) fun r11=>
 .br r11.1.1 (
 .ob (A3 (o10.2.1,r11.2.2.1,r11.2.2.2.1,()) ([((-1:Int),()),((281474976710655:Int),()),((281474976710656:Int),())],())) fun r12=>
 .chk (decide (o10.1.length+[r12.1].length≤4294967296)) <|
 .leaf (((o10.1++[r12.1]),()),(o10.2.1,r12.2.2.1,r12.2.2.2.1,()))) (
 .leaf ((o10.1,()),(o10.2.1,r11.2.2.1,r11.2.2.2.1,())))
def Af9 (a0:Au) (a1:YI):Option (((List YI)×Unit)×Au):=(Af8 a0 a1).val
def Ra (x2:(List YI)×Int×Int×(List YI)×Int×(List YI)×Unit):Option (((List YI)×Int×Int×(List YI)×Int×(List YI)×Unit)⊕((Int×(List YI)×Int×(List YI)×Unit))):=
 letI u1:=x2.2.2.2;Tree.val (α:=((List YI)×Int×Int×(List YI)×Int×(List YI)×Unit)⊕((Int×(List YI)×Int×(List YI)×Unit))) <|
 .br (decide (x2.2.1<(x2.1.length:Int))) (
 .ob (idx x2.1 x2.2.1) fun e3=>
 .ob (Ob (u1.2.1,u1.2.2.1,()) e3) fun r4=>
 .leaf (.inl (x2.1,(i64.wrap (x2.2.1+(1:Int))),x2.2.2.1,u1.1,r4.1.1,r4.1.2.1,()))) (
 .leaf (.inr (x2.2.2.1,u1.1,u1.2.1,u1.2.2.1,())))
def Akf (a0:(List YI)×Unit):Tree (Bs):=
 .ob We fun r1=>
 .ob (A1 Ra (a0.1,(0:Int),(0:Int),([]:List YI),r1.1,r1.2.1,())) fun o5=>
 .leaf (o5.2.2.1,o5.2.2.2.1,())
def Akg (a0:(List YI)×Unit):Option (Bs):=(Akf a0).val
def Aga (a0:Au):Tree (Bs×Au):=
 .ob (Af9 a0 ((12:Int),())) fun r1=>
 .ob (Akg r1.1) fun r2=>
 .leaf (r2,(a0.1,r1.2.2.1,r1.2.2.2.1,()))
def Oe (a0:Au):Option (Bs×Au):=(Aga a0).val
def Acf (a0:Au) (a1:YI):Tree (Ai×Au):=
 .ob (Bb a0 ((12:Int),())) fun r1=>
 .ob (Bb (a0.1,r1.2.2.1,r1.2.2.2.1,()) ((32:Int),())) fun r2=>
 .ob (J6 a1 r1.1 r2.1) fun r3=>letI u1:=r3.2.2.2;letI u2:=u1.2.2;letI u3:=u2.2.2;letI u4:=u3.2.2;letI u5:=u4.2.2;letI u6:=u5.2.2.2;
 .ob (A3 (a0.1,r2.2.2.1,r2.2.2.2.1,()) ([((0:Int),()),((0:Int),()),((3:Int),()),((281474976709656:Int),()),((281474976710656:Int),())],())) fun r4=>
 .ob (Ax (a0.1,r4.2.2.1,r4.2.2.2.1,()) ((3:Int),())) fun r5=>
 .br r5.1.1 (
 .ob (Oe (a0.1,r5.2.2.1,r5.2.2.2.1,())) fun r6=>
 .ob (Ax (a0.1,r6.2.2.1,r6.2.2.2.1,()) ((2:Int),())) fun r7=>letI u7:=r7.2.2;
 .br r7.1.1 (
 .ob (A3 (a0.1,u7.1,u7.2.1,()) ([((1:Int),()),((1:Int),()),((2:Int),()),((4294967295:Int),())],())) fun r8=>
 .ob (Cn (u1.1,()) ((Ck [114,101,107,101,121]),())) fun r9=>
 .ob (Dr r8.1 r9) fun r10=>letI u8:=r10.2.2;letI u9:=u8.2.2;
 .ob (A3 (a0.1,r8.2.2.1,r8.2.2.2.1,()) ([((-1:Int),()),((0:Int),()),((5:Int),()),((7:Int),()),((1000005:Int),())],())) fun r11=>letI u10:=r11.2.2;
 .br (a1.1==(0:Int)) (
 .br (decide (r11.1.1<(0:Int))) (
 .br (a1.1==(0:Int)) (
 .br (decide (r10.1<(4294967295:Int))) (
 .ob (Ax (a0.1,u10.1,u10.2.1,()) ((2:Int),())) fun r12=>
 .br r12.1.1 (
 .ob (Cn (r10.2.1,()) ((Ck [114,101,107,101,121]),())) fun r13=>
 .leaf ((r3.1,r3.2.1,r10.1,r10.2.1,u8.1,u8.2.1,u9.1,(i64.wrap (r10.1-(1:Int))),u1.1,r4.1.1,r6.1.1,r6.1.2.1,true,(5:Int),r13.1,()),(a0.1,r12.2.2.1,r12.2.2.2.1,()))) (
 .leaf ((r3.1,r3.2.1,r10.1,r10.2.1,u8.1,u8.2.1,u9.1,(i64.wrap (r10.1-(1:Int))),u1.1,r4.1.1,r6.1.1,r6.1.2.1,true,(5:Int),u6.1,()),(a0.1,r12.2.2.1,r12.2.2.2.1,())))) (
 .leaf ((r3.1,r3.2.1,r10.1,r10.2.1,u8.1,u8.2.1,u9.1,(i64.wrap (r10.1-(1:Int))),u1.1,r4.1.1,r6.1.1,r6.1.2.1,true,(5:Int),u6.1,()),(a0.1,u10.1,u10.2.1,())))) (
 .leaf ((r3.1,r3.2.1,r10.1,r10.2.1,u8.1,u8.2.1,u9.1,(i64.wrap (r10.1-(1:Int))),u1.1,r4.1.1,r6.1.1,r6.1.2.1,true,(5:Int),u6.1,()),(a0.1,u10.1,u10.2.1,())))) (
 .br (a1.1==(0:Int)) (
 .br (decide (r10.1<(4294967295:Int))) (
 .ob (Ax (a0.1,u10.1,u10.2.1,()) ((2:Int),())) fun r14=>
 .br r14.1.1 (
 .ob (Cn (r10.2.1,()) ((Ck [114,101,107,101,121]),())) fun r15=>
 .leaf ((r3.1,r3.2.1,r10.1,r10.2.1,u8.1,u8.2.1,u9.1,(i64.wrap (r10.1-(1:Int))),u1.1,r4.1.1,r6.1.1,r6.1.2.1,true,r11.1.1,r15.1,()),(a0.1,r14.2.2.1,r14.2.2.2.1,()))) (
 .leaf ((r3.1,r3.2.1,r10.1,r10.2.1,u8.1,u8.2.1,u9.1,(i64.wrap (r10.1-(1:Int))),u1.1,r4.1.1,r6.1.1,r6.1.2.1,true,r11.1.1,u6.1,()),(a0.1,r14.2.2.1,r14.2.2.2.1,())))) (
 .leaf ((r3.1,r3.2.1,r10.1,r10.2.1,u8.1,u8.2.1,u9.1,(i64.wrap (r10.1-(1:Int))),u1.1,r4.1.1,r6.1.1,r6.1.2.1,true,r11.1.1,u6.1,()),(a0.1,u10.1,u10.2.1,())))) (
 .leaf ((r3.1,r3.2.1,r10.1,r10.2.1,u8.1,u8.2.1,u9.1,(i64.wrap (r10.1-(1:Int))),u1.1,r4.1.1,r6.1.1,r6.1.2.1,true,r11.1.1,u6.1,()),(a0.1,u10.1,u10.2.1,()))))) (
 .br (a1.1==(0:Int)) (
 .br (decide (r10.1<(4294967295:Int))) (
 .ob (Ax (a0.1,u10.1,u10.2.1,()) ((2:Int),())) fun r16=>
 .br r16.1.1 (
 .ob (Cn (r10.2.1,()) ((Ck [114,101,107,101,121]),())) fun r17=>
 .leaf ((r3.1,r3.2.1,r10.1,r10.2.1,u8.1,u8.2.1,u9.1,(i64.wrap (r10.1-(1:Int))),u1.1,r4.1.1,r6.1.1,r6.1.2.1,true,r11.1.1,r17.1,()),(a0.1,r16.2.2.1,r16.2.2.2.1,()))) (
 .leaf ((r3.1,r3.2.1,r10.1,r10.2.1,u8.1,u8.2.1,u9.1,(i64.wrap (r10.1-(1:Int))),u1.1,r4.1.1,r6.1.1,r6.1.2.1,true,r11.1.1,u6.1,()),(a0.1,r16.2.2.1,r16.2.2.2.1,())))) (
 .leaf ((r3.1,r3.2.1,r10.1,r10.2.1,u8.1,u8.2.1,u9.1,(i64.wrap (r10.1-(1:Int))),u1.1,r4.1.1,r6.1.1,r6.1.2.1,true,r11.1.1,u6.1,()),(a0.1,u10.1,u10.2.1,())))) (
 .leaf ((r3.1,r3.2.1,r10.1,r10.2.1,u8.1,u8.2.1,u9.1,(i64.wrap (r10.1-(1:Int))),u1.1,r4.1.1,r6.1.1,r6.1.2.1,true,r11.1.1,u6.1,()),(a0.1,u10.1,u10.2.1,()))))) (
 .br (a1.1==(0:Int)) (
 .br (decide (r3.2.2.1<(4294967295:Int))) (
 .ob (Ax (a0.1,u7.1,u7.2.1,()) ((2:Int),())) fun r18=>
 .br r18.1.1 (
 .ob (Cn (u1.1,()) ((Ck [114,101,107,101,121]),())) fun r19=>
 .leaf ((r3.1,r3.2.1,r3.2.2.1,u1.1,r4.1.1,r6.1.1,r6.1.2.1,u3.1,u3.2.1,u4.1,u4.2.1,u5.1,u5.2.1,u5.2.2.1,r19.1,()),(a0.1,r18.2.2.1,r18.2.2.2.1,()))) (
 .leaf ((r3.1,r3.2.1,r3.2.2.1,u1.1,r4.1.1,r6.1.1,r6.1.2.1,u3.1,u3.2.1,u4.1,u4.2.1,u5.1,u5.2.1,u5.2.2.1,u6.1,()),(a0.1,r18.2.2.1,r18.2.2.2.1,())))) (
 .leaf ((r3.1,r3.2.1,r3.2.2.1,u1.1,r4.1.1,r6.1.1,r6.1.2.1,u3.1,u3.2.1,u4.1,u4.2.1,u5.1,u5.2.1,u5.2.2.1,u6.1,()),(a0.1,u7.1,u7.2.1,())))) (
 .leaf ((r3.1,r3.2.1,r3.2.2.1,u1.1,r4.1.1,r6.1.1,r6.1.2.1,u3.1,u3.2.1,u4.1,u4.2.1,u5.1,u5.2.1,u5.2.2.1,u6.1,()),(a0.1,u7.1,u7.2.1,()))))) (
 .ob (Ax (a0.1,r5.2.2.1,r5.2.2.2.1,()) ((2:Int),())) fun r20=>letI u11:=r20.2.2;
 .br r20.1.1 (
 .ob (A3 (a0.1,u11.1,u11.2.1,()) ([((1:Int),()),((1:Int),()),((2:Int),()),((4294967295:Int),())],())) fun r21=>
 .ob (Cn (u1.1,()) ((Ck [114,101,107,101,121]),())) fun r22=>
 .ob (Dr r21.1 r22) fun r23=>letI u12:=r23.2.2;letI u13:=u12.2.2;
 .ob (A3 (a0.1,r21.2.2.1,r21.2.2.2.1,()) ([((-1:Int),()),((0:Int),()),((5:Int),()),((7:Int),()),((1000005:Int),())],())) fun r24=>letI u14:=r24.2.2;
 .br (a1.1==(0:Int)) (
 .br (decide (r24.1.1<(0:Int))) (
 .br (a1.1==(0:Int)) (
 .br (decide (r23.1<(4294967295:Int))) (
 .ob (Ax (a0.1,u14.1,u14.2.1,()) ((2:Int),())) fun r25=>
 .br r25.1.1 (
 .ob (Cn (r23.2.1,()) ((Ck [114,101,107,101,121]),())) fun r26=>
 .leaf ((r3.1,r3.2.1,r23.1,r23.2.1,u12.1,u12.2.1,u13.1,(i64.wrap (r23.1-(1:Int))),u1.1,r4.1.1,u2.1,u2.2.1,true,(5:Int),r26.1,()),(a0.1,r25.2.2.1,r25.2.2.2.1,()))) (
 .leaf ((r3.1,r3.2.1,r23.1,r23.2.1,u12.1,u12.2.1,u13.1,(i64.wrap (r23.1-(1:Int))),u1.1,r4.1.1,u2.1,u2.2.1,true,(5:Int),u6.1,()),(a0.1,r25.2.2.1,r25.2.2.2.1,())))) (
 .leaf ((r3.1,r3.2.1,r23.1,r23.2.1,u12.1,u12.2.1,u13.1,(i64.wrap (r23.1-(1:Int))),u1.1,r4.1.1,u2.1,u2.2.1,true,(5:Int),u6.1,()),(a0.1,u14.1,u14.2.1,())))) (
 .leaf ((r3.1,r3.2.1,r23.1,r23.2.1,u12.1,u12.2.1,u13.1,(i64.wrap (r23.1-(1:Int))),u1.1,r4.1.1,u2.1,u2.2.1,true,(5:Int),u6.1,()),(a0.1,u14.1,u14.2.1,())))) (
 .br (a1.1==(0:Int)) (
 .br (decide (r23.1<(4294967295:Int))) (
 .ob (Ax (a0.1,u14.1,u14.2.1,()) ((2:Int),())) fun r27=>
 .br r27.1.1 (
 .ob (Cn (r23.2.1,()) ((Ck [114,101,107,101,121]),())) fun r28=>
 .leaf ((r3.1,r3.2.1,r23.1,r23.2.1,u12.1,u12.2.1,u13.1,(i64.wrap (r23.1-(1:Int))),u1.1,r4.1.1,u2.1,u2.2.1,true,r24.1.1,r28.1,()),(a0.1,r27.2.2.1,r27.2.2.2.1,()))) (
 .leaf ((r3.1,r3.2.1,r23.1,r23.2.1,u12.1,u12.2.1,u13.1,(i64.wrap (r23.1-(1:Int))),u1.1,r4.1.1,u2.1,u2.2.1,true,r24.1.1,u6.1,()),(a0.1,r27.2.2.1,r27.2.2.2.1,())))) (
 .leaf ((r3.1,r3.2.1,r23.1,r23.2.1,u12.1,u12.2.1,u13.1,(i64.wrap (r23.1-(1:Int))),u1.1,r4.1.1,u2.1,u2.2.1,true,r24.1.1,u6.1,()),(a0.1,u14.1,u14.2.1,())))) (
 .leaf ((r3.1,r3.2.1,r23.1,r23.2.1,u12.1,u12.2.1,u13.1,(i64.wrap (r23.1-(1:Int))),u1.1,r4.1.1,u2.1,u2.2.1,true,r24.1.1,u6.1,()),(a0.1,u14.1,u14.2.1,()))))) (
 .br (a1.1==(0:Int)) (
 .br (decide (r23.1<(4294967295:Int))) (
 .ob (Ax (a0.1,u14.1,u14.2.1,()) ((2:Int),())) fun r29=>
 .br r29.1.1 (
 .ob (Cn (r23.2.1,()) ((Ck [114,101,107,101,121]),())) fun r30=>
 .leaf ((r3.1,r3.2.1,r23.1,r23.2.1,u12.1,u12.2.1,u13.1,(i64.wrap (r23.1-(1:Int))),u1.1,r4.1.1,u2.1,u2.2.1,true,r24.1.1,r30.1,()),(a0.1,r29.2.2.1,r29.2.2.2.1,()))) (
 .leaf ((r3.1,r3.2.1,r23.1,r23.2.1,u12.1,u12.2.1,u13.1,(i64.wrap (r23.1-(1:Int))),u1.1,r4.1.1,u2.1,u2.2.1,true,r24.1.1,u6.1,()),(a0.1,r29.2.2.1,r29.2.2.2.1,())))) (
 .leaf ((r3.1,r3.2.1,r23.1,r23.2.1,u12.1,u12.2.1,u13.1,(i64.wrap (r23.1-(1:Int))),u1.1,r4.1.1,u2.1,u2.2.1,true,r24.1.1,u6.1,()),(a0.1,u14.1,u14.2.1,())))) (
 .leaf ((r3.1,r3.2.1,r23.1,r23.2.1,u12.1,u12.2.1,u13.1,(i64.wrap (r23.1-(1:Int))),u1.1,r4.1.1,u2.1,u2.2.1,true,r24.1.1,u6.1,()),(a0.1,u14.1,u14.2.1,()))))) (
 .br (a1.1==(0:Int)) (
 .br (decide (r3.2.2.1<(4294967295:Int))) (
 .ob (Ax (a0.1,u11.1,u11.2.1,()) ((2:Int),())) fun r31=>
 .br r31.1.1 (
 .ob (Cn (u1.1,()) ((Ck [114,101,107,101,121]),())) fun r32=>
 .leaf ((r3.1,r3.2.1,r3.2.2.1,u1.1,r4.1.1,u2.1,u2.2.1,u3.1,u3.2.1,u4.1,u4.2.1,u5.1,u5.2.1,u5.2.2.1,r32.1,()),(a0.1,r31.2.2.1,r31.2.2.2.1,()))) (
 .leaf ((r3.1,r3.2.1,r3.2.2.1,u1.1,r4.1.1,u2.1,u2.2.1,u3.1,u3.2.1,u4.1,u4.2.1,u5.1,u5.2.1,u5.2.2.1,u6.1,()),(a0.1,r31.2.2.1,r31.2.2.2.1,())))) (
 .leaf ((r3.1,r3.2.1,r3.2.2.1,u1.1,r4.1.1,u2.1,u2.2.1,u3.1,u3.2.1,u4.1,u4.2.1,u5.1,u5.2.1,u5.2.2.1,u6.1,()),(a0.1,u11.1,u11.2.1,())))) (
 .leaf ((r3.1,r3.2.1,r3.2.2.1,u1.1,r4.1.1,u2.1,u2.2.1,u3.1,u3.2.1,u4.1,u4.2.1,u5.1,u5.2.1,u5.2.2.1,u6.1,()),(a0.1,u11.1,u11.2.1,())))))
def Rb (a0:Au) (a1:YI):Option (Ai×Au):=(Acf a0 a1).val
def Mt (x3:Int×(List YB)×Int×Int×Bool×Int×Int×Int×Bool×Int×Int×Int×Unit):Option ((Int×(List YB)×Int×Int×Bool×Int×Int×Int×Bool×Int×Int×Int×Unit)⊕(((List YB)×Int×Int×Bool×Int×Int×Int×Bool×Int×Int×Int×Unit))):=
 letI u1:=x3.2.2;letI u2:=u1.2.2;letI u3:=u2.2.2;letI u4:=u3.2.2.2;Tree.val (α:=(Int×(List YB)×Int×Int×Bool×Int×Int×Int×Bool×Int×Int×Int×Unit)⊕(((List YB)×Int×Int×Bool×Int×Int×Int×Bool×Int×Int×Int×Unit))) <|
 .br (decide (x3.1>(0:Int))) (
 .ob (Js (u3.2.2.1,u4.1,u4.2.1,u4.2.2.1,()) (u4.1,())) fun r4=>
 .leaf (.inl ((i64.wrap (x3.1-(1:Int))),x3.2.1,u1.1,u1.2.1,u2.1,u2.2.1,u3.1,u3.2.1,r4.1.1,r4.1.2.1,r4.1.2.2.1,r4.1.2.2.2.1,()))) (
 .leaf (.inr (x3.2.1,u1.1,u1.2.1,u2.1,u2.2.1,u3.1,u3.2.1,u3.2.2.1,u4.1,u4.2.1,u4.2.2.1,())))
def Acg (a0:Au) (a1:YI):Tree (B0×Au):=
 .ob (Dg a1) fun r1=>
 .ob (A7 a0 ((6:Int),())) fun r2=>
 .ob (A1 Mt (r2.1.1,a0.1,r2.2.2.1,r2.2.2.2.1,false,(0:Int),(0:Int),(0:Int),r1.1,r1.2.1,r1.2.2.1,r1.2.2.2.1,())) fun o5=>letI u1:=o5.2.2.2.2.2.2.2;
 .leaf ((u1.1,u1.2.1,u1.2.2.1,u1.2.2.2.1,()),(o5.1,o5.2.1,o5.2.2.1,()))
def Rc (a0:Au) (a1:YI):Option (B0×Au):=(Acg a0 a1).val
def Em (x16:Int×Int×(List YB)×Int×Int×Int×(List YB)×Int×Int×Int×(List YB)×Int×Int×(List YB)×(List YB)×Int×(List YB)×(List YB)×Int×Int×(List YB)×(List YB)×Int×(List YB)×Int×(List YB)×Int×Int×(List YI)×Int×(List YB)×Int×Int×(List YI)×Bool×Int×(List YB)×Bool×Int×Int×Int×Bool×Int×Int×Int×Int×Int×(List YB)×Int×Int×Int×(List YB)×Int×Int×(List YB)×(List YB)×Int×(List YB)×(List YB)×Int×Int×(List YB)×(List YB)×Int×(List YB)×Int×(List YB)×Int×Int×(List YI)×Int×(List YB)×Int×Int×(List YI)×Bool×Int×(List YB)×Bool×Int×Int×Int×Bool×Int×Int×Int×Int×Unit):Option ((Int×Int×(List YB)×Int×Int×Int×(List YB)×Int×Int×Int×(List YB)×Int×Int×(List YB)×(List YB)×Int×(List YB)×(List YB)×Int×Int×(List YB)×(List YB)×Int×(List YB)×Int×(List YB)×Int×Int×(List YI)×Int×(List YB)×Int×Int×(List YI)×Bool×Int×(List YB)×Bool×Int×Int×Int×Bool×Int×Int×Int×Int×Int×(List YB)×Int×Int×Int×(List YB)×Int×Int×(List YB)×(List YB)×Int×(List YB)×(List YB)×Int×Int×(List YB)×(List YB)×Int×(List YB)×Int×(List YB)×Int×Int×(List YI)×Int×(List YB)×Int×Int×(List YI)×Bool×Int×(List YB)×Bool×Int×Int×Int×Bool×Int×Int×Int×Int×Unit)⊕((Int×(List YB)×Int×Int×Int×(List YB)×Int×Int×Int×(List YB)×Int×Int×(List YB)×(List YB)×Int×(List YB)×(List YB)×Int×Int×(List YB)×(List YB)×Int×(List YB)×Int×(List YB)×Int×Int×(List YI)×Int×(List YB)×Int×Int×(List YI)×Bool×Int×(List YB)×Bool×Int×Int×Int×Bool×Int×Int×Int×Int×Int×(List YB)×Int×Int×Int×(List YB)×Int×Int×(List YB)×(List YB)×Int×(List YB)×(List YB)×Int×Int×(List YB)×(List YB)×Int×(List YB)×Int×(List YB)×Int×Int×(List YI)×Int×(List YB)×Int×Int×(List YI)×Bool×Int×(List YB)×Bool×Int×Int×Int×Bool×Int×Int×Int×Int×Unit))):=
 letI u1:=x16.2.2;letI u2:=u1.2.2;letI u3:=u2.2.2;letI u4:=u3.2.2;letI u5:=u4.2.2;letI u6:=u5.2.2;letI u7:=u6.2.2;letI u8:=u7.2.2;letI u9:=u8.2.2;letI u10:=u9.2.2;letI u11:=u10.2.2;letI u12:=u11.2.2;letI u13:=u12.2.2;letI u14:=u13.2.2;letI u15:=u14.2.2;letI u16:=u15.2.2;letI u17:=u16.2.2;letI u18:=u17.2.2;letI u19:=u18.2.2;letI u20:=u19.2.2;letI u21:=u20.2.2;letI u22:=u21.2.2;letI u23:=u22.2.2;letI u24:=u23.2.2;letI u25:=u24.2.2;letI u26:=u25.2.2;letI u27:=u26.2.2;letI u28:=u27.2.2;letI u29:=u28.2.2;letI u30:=u29.2.2;letI u31:=u30.2.2;letI u32:=u31.2.2;letI u33:=u32.2.2;letI u34:=u33.2.2;letI u35:=u34.2.2;letI u36:=u35.2.2;letI u37:=u36.2.2;letI u38:=u37.2.2;letI u39:=u38.2.2.2;letI u40:=u39.2.2;letI u41:=u40.2.2.2;Tree.val (α:=(Int×Int×(List YB)×Int×Int×Int×(List YB)×Int×Int×Int×(List YB)×Int×Int×(List YB)×(List YB)×Int×(List YB)×(List YB)×Int×Int×(List YB)×(List YB)×Int×(List YB)×Int×(List YB)×Int×Int×(List YI)×Int×(List YB)×Int×Int×(List YI)×Bool×Int×(List YB)×Bool×Int×Int×Int×Bool×Int×Int×Int×Int×Int×(List YB)×Int×Int×Int×(List YB)×Int×Int×(List YB)×(List YB)×Int×(List YB)×(List YB)×Int×Int×(List YB)×(List YB)×Int×(List YB)×Int×(List YB)×Int×Int×(List YI)×Int×(List YB)×Int×Int×(List YI)×Bool×Int×(List YB)×Bool×Int×Int×Int×Bool×Int×Int×Int×Int×Unit)⊕((Int×(List YB)×Int×Int×Int×(List YB)×Int×Int×Int×(List YB)×Int×Int×(List YB)×(List YB)×Int×(List YB)×(List YB)×Int×Int×(List YB)×(List YB)×Int×(List YB)×Int×(List YB)×Int×Int×(List YI)×Int×(List YB)×Int×Int×(List YI)×Bool×Int×(List YB)×Bool×Int×Int×Int×Bool×Int×Int×Int×Int×Int×(List YB)×Int×Int×Int×(List YB)×Int×Int×(List YB)×(List YB)×Int×(List YB)×(List YB)×Int×Int×(List YB)×(List YB)×Int×(List YB)×Int×(List YB)×Int×Int×(List YI)×Int×(List YB)×Int×Int×(List YI)×Bool×Int×(List YB)×Bool×Int×Int×Int×Bool×Int×Int×Int×Int×Unit))) <|
 .br (decide (x16.2.1>(0:Int))) (
 .ob (Js (u38.2.2.1,u39.1,u39.2.1,u40.1,()) (u39.1,())) fun r17=>
 .leaf (.inl (x16.1,(i64.wrap (x16.2.1-(1:Int))),u1.1,u1.2.1,u2.1,u2.2.1,u3.1,u3.2.1,u4.1,u4.2.1,u5.1,u5.2.1,u6.1,u6.2.1,u7.1,u7.2.1,u8.1,u8.2.1,u9.1,u9.2.1,u10.1,u10.2.1,u11.1,u11.2.1,u12.1,u12.2.1,u13.1,u13.2.1,u14.1,u14.2.1,u15.1,u15.2.1,u16.1,u16.2.1,u17.1,u17.2.1,u18.1,u18.2.1,u19.1,u19.2.1,u20.1,u20.2.1,u21.1,u21.2.1,u22.1,u22.2.1,u23.1,u23.2.1,u24.1,u24.2.1,u25.1,u25.2.1,u26.1,u26.2.1,u27.1,u27.2.1,u28.1,u28.2.1,u29.1,u29.2.1,u30.1,u30.2.1,u31.1,u31.2.1,u32.1,u32.2.1,u33.1,u33.2.1,u34.1,u34.2.1,u35.1,u35.2.1,u36.1,u36.2.1,u37.1,u37.2.1,u38.1,u38.2.1,r17.1.1,r17.1.2.1,r17.1.2.2.1,r17.1.2.2.2.1,u40.2.1,u40.2.2.1,u41.1,u41.2.1,u41.2.2.1,()))) (
 .leaf (.inr (x16.1,u1.1,u1.2.1,u2.1,u2.2.1,u3.1,u3.2.1,u4.1,u4.2.1,u5.1,u5.2.1,u6.1,u6.2.1,u7.1,u7.2.1,u8.1,u8.2.1,u9.1,u9.2.1,u10.1,u10.2.1,u11.1,u11.2.1,u12.1,u12.2.1,u13.1,u13.2.1,u14.1,u14.2.1,u15.1,u15.2.1,u16.1,u16.2.1,u17.1,u17.2.1,u18.1,u18.2.1,u19.1,u19.2.1,u20.1,u20.2.1,u21.1,u21.2.1,u22.1,u22.2.1,u23.1,u23.2.1,u24.1,u24.2.1,u25.1,u25.2.1,u26.1,u26.2.1,u27.1,u27.2.1,u28.1,u28.2.1,u29.1,u29.2.1,u30.1,u30.2.1,u31.1,u31.2.1,u32.1,u32.2.1,u33.1,u33.2.1,u34.1,u34.2.1,u35.1,u35.2.1,u36.1,u36.2.1,u37.1,u37.2.1,u38.1,u38.2.1,u38.2.2.1,u39.1,u39.2.1,u40.1,u40.2.1,u40.2.2.1,u41.1,u41.2.1,u41.2.2.1,())))
def Rd (a0:Au):Tree (Ac×Au):=
 .ob (A7 a0 ((3:Int),())) fun r1=>
 .ob (A7 (a0.1,r1.2.2.1,r1.2.2.2.1,()) ((32:Int),())) fun r2=>
 .ob (Bb (a0.1,r2.2.2.1,r2.2.2.2.1,()) ((i64.wrap ((1:Int)+r2.1.1)),())) fun r3=>
 .ob (A7 (a0.1,r3.2.2.1,r3.2.2.2.1,()) ((5:Int),())) fun r4=>
 .ob (Afh ((i64.wrap ((1:Int)+r4.1.1)),())) fun r5=>
 .ob (Sx ((i64.wrap ((1:Int)+r1.1.1)),()) r3.1 r5) fun r6=>
 .ob (A3 (a0.1,r4.2.2.1,r4.2.2.2.1,()) ([((0:Int),()),((1:Int),()),((2:Int),()),((2:Int),()),((3:Int),()),((3:Int),()),((3:Int),()),((3:Int),())],())) fun r7=>
 .br (r7.1.1==(0:Int)) (
 .leaf (r6,(a0.1,r7.2.2.1,r7.2.2.2.1,()))) (
 .ob (A3 (a0.1,r7.2.2.1,r7.2.2.2.1,()) ([((0:Int),()),((0:Int),()),((5:Int),()),((90:Int),())],())) fun r8=>
 .ob (Bb (a0.1,r8.2.2.1,r8.2.2.2.1,()) ((12:Int),())) fun r9=>
 .ob (Afp r6 r8.1 r9.1) fun r10=>letI u1:=r10.1.2.2;letI u2:=u1.2.2.2;letI u3:=u2.2.2;letI u4:=u3.2.2;letI u5:=u4.2.2;letI u6:=u5.2.2;letI u7:=u6.2.2;letI u8:=u7.2.2;letI u9:=u8.2.2;letI u10:=u9.2.2;letI u11:=u10.2.2;letI u12:=u11.2.2;letI u13:=u12.2.2;letI u14:=u13.2.2.2;letI u15:=u14.2.2.2;letI u16:=u15.2.2.2;letI u17:=u16.2.2;
 .ob (A7 (a0.1,r9.2.2.1,r9.2.2.2.1,()) ((3:Int),())) fun r11=>
 .ob (Js (u14.2.2.1,u15.1,u15.2.1,u15.2.2.1,()) ((i64.wrap (r8.1.1+r11.1.1)),())) fun r12=>
 .br (r7.1.1==(1:Int)) (
 .leaf ((r10.1.1,r10.1.2.1,u1.1,u1.2.1,u1.2.2.1,u2.1,u2.2.1,u3.1,u3.2.1,u4.1,u4.2.1,u5.1,u5.2.1,u6.1,u6.2.1,u7.1,u7.2.1,u8.1,u8.2.1,u9.1,u9.2.1,u10.1,u10.2.1,u11.1,u11.2.1,u12.1,u12.2.1,u13.1,u13.2.1,u13.2.2.1,u14.1,u14.2.1,r12.1.1,r12.1.2.1,r12.1.2.2.1,r12.1.2.2.2.1,u16.1,u16.2.1,u17.1,u17.2.1,u17.2.2.1,()),(a0.1,r11.2.2.1,r11.2.2.2.1,()))) (
 .ob (Mr (a0.1,r11.2.2.1,r11.2.2.2.1,())) fun r13=>letI u18:=r13.1.2.2.2;letI u19:=u18.2.2.2;
 .ob (Ik (r10.1.1,r10.1.2.1,u1.1,u1.2.1,u1.2.2.1,u2.1,u2.2.1,u3.1,u3.2.1,u4.1,u4.2.1,u5.1,u5.2.1,u6.1,u6.2.1,u7.1,u7.2.1,u8.1,u8.2.1,u9.1,u9.2.1,u10.1,u10.2.1,u11.1,u11.2.1,u12.1,u12.2.1,u13.1,u13.2.1,u13.2.2.1,u14.1,u14.2.1,r12.1.1,r12.1.2.1,r12.1.2.2.1,r12.1.2.2.2.1,u16.1,u16.2.1,u17.1,u17.2.1,u17.2.2.1,()) r8.1 (r13.1.1,r13.1.2.1,u2.1,u18.1,u18.2.1,u18.2.2.1,u19.1,u19.2.1,u19.2.2.1,u19.2.2.2.1,u19.2.2.2.2.1,())) fun r14=>letI u20:=r14.1.2.2.2;letI u21:=u20.2.2.2;letI u22:=u21.2.2.2;letI u23:=u22.2.2.2;letI u24:=u23.2.2.2;letI u25:=u24.2.2.2;letI u26:=u25.2.2;letI u27:=u26.2.2.2;letI u28:=u27.2.2.2;letI u29:=u28.2.2.2;letI u30:=u29.2.2.2;letI u31:=u30.2.2.2.2;
 .br (r7.1.1==(2:Int)) (
 .ob (A7 (a0.1,r13.2.2.1,r13.2.2.2.1,()) ((5:Int),())) fun r15=>
 .ob (A1 Em (r8.1.1,r15.1.1,a0.1,r15.2.2.1,r15.2.2.2.1,(0:Int),([]:List YB),(0:Int),(0:Int),(0:Int),([]:List YB),(0:Int),(0:Int),([]:List YB),([]:List YB),(0:Int),([]:List YB),([]:List YB),(0:Int),(0:Int),([]:List YB),([]:List YB),(0:Int),([]:List YB),(0:Int),([]:List YB),(0:Int),(0:Int),([]:List YI),(0:Int),([]:List YB),(0:Int),(0:Int),([]:List YI),false,(0:Int),([]:List YB),false,(0:Int),(0:Int),(0:Int),false,(0:Int),(0:Int),(0:Int),(0:Int),r14.1.1,r14.1.2.1,r14.1.2.2.1,u20.1,u20.2.1,u20.2.2.1,u21.1,u21.2.1,u21.2.2.1,u22.1,u22.2.1,u22.2.2.1,u23.1,u23.2.1,u23.2.2.1,u24.1,u24.2.1,u24.2.2.1,u25.1,u25.2.1,u26.1,u26.2.1,u26.2.2.1,u27.1,u27.2.1,u27.2.2.1,u28.1,u28.2.1,u28.2.2.1,u29.1,u29.2.1,u29.2.2.1,u30.1,u30.2.1,u30.2.2.1,u30.2.2.2.1,u31.1,u31.2.1,u31.2.2.1,u31.2.2.2.1,u31.2.2.2.2.1,())) fun o18=>letI u32:=o18.2.2;letI u33:=u32.2.2.2.2.2.2.2.2.2.2.2.2.2.2.2.2.2.2.2.2.2.2.2.2.2.2.2.2.2.2.2.2.2.2.2.2.2.2.2.2.2.2.2;letI u34:=u33.2.2;letI u35:=u34.2.2;letI u36:=u35.2.2;letI u37:=u36.2.2;letI u38:=u37.2.2;letI u39:=u38.2.2;letI u40:=u39.2.2;letI u41:=u40.2.2;letI u42:=u41.2.2;letI u43:=u42.2.2;letI u44:=u43.2.2;letI u45:=u44.2.2;letI u46:=u45.2.2;letI u47:=u46.2.2;letI u48:=u47.2.2;letI u49:=u48.2.2;letI u50:=u49.2.2.2.2;letI u51:=u50.2.2;
 .br (!u49.1) (
 .ob (Dg (o18.1,())) fun r19=>
 .leaf ((u33.1,u33.2.1,u34.1,u34.2.1,u35.1,u35.2.1,u36.1,u36.2.1,u37.1,u37.2.1,u38.1,u38.2.1,u39.1,u39.2.1,u40.1,u40.2.1,u41.1,u41.2.1,u42.1,u42.2.1,u43.1,u43.2.1,u44.1,u44.2.1,u45.1,u45.2.1,u46.1,u46.2.1,u47.1,u47.2.1,u48.1,u48.2.1,r19.1,r19.2.1,r19.2.2.1,r19.2.2.2.1,u50.1,u50.2.1,u51.1,u51.2.1,u51.2.2.1,()),(o18.2.1,u32.1,u32.2.1,()))) (
 .leaf ((u33.1,u33.2.1,u34.1,u34.2.1,u35.1,u35.2.1,u36.1,u36.2.1,u37.1,u37.2.1,u38.1,u38.2.1,u39.1,u39.2.1,u40.1,u40.2.1,u41.1,u41.2.1,u42.1,u42.2.1,u43.1,u43.2.1,u44.1,u44.2.1,u45.1,u45.2.1,u46.1,u46.2.1,u47.1,u47.2.1,u48.1,u48.2.1,u49.1,u49.2.1,u49.2.2.1,u49.2.2.2.1,u50.1,u50.2.1,u51.1,u51.2.1,u51.2.2.1,()),(o18.2.1,u32.1,u32.2.1,())))) (
 .ob (Jv ((0:Int),())) fun r20=>
 .ob (Bl (u26.1,()) ((1:Int),()) (u25.1,()) ((0:Int),()) ((0:Int),()) ((8:Int),()) r20) fun r21=>
 .ob (Ik r14.1 r8.1 r21.1) fun r22=>letI u52:=r22.1.2.2;letI u53:=u52.2.2;letI u54:=u53.2.2;letI u55:=u54.2.2;letI u56:=u55.2.2;letI u57:=u56.2.2;letI u58:=u57.2.2;letI u59:=u58.2.2;letI u60:=u59.2.2.2.2.2.2.2.2.2.2.2.2.2.2.2.2;letI u61:=u60.2.2;letI u62:=u61.2.2.2.2;
 .ob (Ax (a0.1,r13.2.2.1,r13.2.2.2.1,()) ((2:Int),())) fun r23=>
 .br r23.1.1 (
 .ob (Rb (a0.1,r23.2.2.1,r23.2.2.2.1,()) ((0:Int),())) fun r24=>letI u63:=r24.1.2.2;letI u64:=u63.2.2;letI u65:=u64.2.2;letI u66:=u65.2.2;letI u67:=u66.2.2;letI u68:=u67.2.2;
 .br (decide ((r24.1.2.2.2.2.2.2.2.2.2.2.2.2.2.2.1.length:Int)>(0:Int))) (
 .ob (Rc (a0.1,r24.2.2.1,r24.2.2.2.1,()) r8.1) fun r25=>
 .br (!r25.1.1) (
 .ob (Dg r8.1) fun r26=>
 .leaf ((r22.1.1,r22.1.2.1,u52.1,u52.2.1,u53.1,u53.2.1,u54.1,u54.2.1,u55.1,u55.2.1,u56.1,u56.2.1,u57.1,u57.2.1,u58.1,u58.2.1,u59.1,r24.1.1,r24.1.2.1,u63.1,u63.2.1,u64.1,u64.2.1,u65.1,u65.2.1,u66.1,u66.2.1,u67.1,u67.2.1,u68.1,u68.2.1,u68.2.2.1,u60.1,u60.2.1,u61.1,u61.2.1,r26.1,r26.2.1,r26.2.2.1,r26.2.2.2.1,u62.2.2.1,()),(a0.1,r25.2.2.1,r25.2.2.2.1,()))) (
 .leaf ((r22.1.1,r22.1.2.1,u52.1,u52.2.1,u53.1,u53.2.1,u54.1,u54.2.1,u55.1,u55.2.1,u56.1,u56.2.1,u57.1,u57.2.1,u58.1,u58.2.1,u59.1,r24.1.1,r24.1.2.1,u63.1,u63.2.1,u64.1,u64.2.1,u65.1,u65.2.1,u66.1,u66.2.1,u67.1,u67.2.1,u68.1,u68.2.1,u68.2.2.1,u60.1,u60.2.1,u61.1,u61.2.1,r25.1.1,r25.1.2.1,r25.1.2.2.1,r25.1.2.2.2.1,u62.2.2.1,()),(a0.1,r25.2.2.1,r25.2.2.2.1,())))) (
 .leaf ((r22.1.1,r22.1.2.1,u52.1,u52.2.1,u53.1,u53.2.1,u54.1,u54.2.1,u55.1,u55.2.1,u56.1,u56.2.1,u57.1,u57.2.1,u58.1,u58.2.1,u59.1,r24.1.1,r24.1.2.1,u63.1,u63.2.1,u64.1,u64.2.1,u65.1,u65.2.1,u66.1,u66.2.1,u67.1,u67.2.1,u68.1,u68.2.1,u68.2.2.1,u60.1,u60.2.1,u61.1,u61.2.1,u61.2.2.1,u61.2.2.2.1,u62.1,u62.2.1,u62.2.2.1,()),(a0.1,r24.2.2.1,r24.2.2.2.1,())))) (
 .leaf (r22.1,(a0.1,r23.2.2.1,r23.2.2.2.1,()))))))
def Ach (a0:Au):Option (Ac×Au):=(Rd a0).val
def Agb (a0:Au):Tree (Hk×Au):=
 .ob (Ax a0 ((3:Int),())) fun r1=>
 .br r1.1.1 (
 .ob (A7 (a0.1,r1.2.2.1,r1.2.2.2.1,()) ((16777216:Int),())) fun r2=>
 .ob (Gc (a0.1,r2.2.2.1,r2.2.2.2.1,())) fun r3=>
 .ob (A7 (a0.1,r3.2.2.1,r3.2.2.2.1,()) ((65536:Int),())) fun r4=>
 .leaf (((i64.wrap ((i64.wrap (r2.1.1*(256:Int)))+r3.1.1)),r4.1.1,()),(a0.1,r4.2.2.1,r4.2.2.2.1,()))) (
 .ob (A7 (a0.1,r1.2.2.1,r1.2.2.2.1,()) ((6:Int),())) fun r5=>
 .ob (Afh r5.1) fun r6=>
 .leaf (r6,(a0.1,r5.2.2.1,r5.2.2.2.1,())))
def Agc (a0:Au):Option (Hk×Au):=(Agb a0).val
def Akh (a0:Au):Tree (YI×Au):=
 .ob (A3 a0 ([((-1:Int),()),((0:Int),()),((1:Int),()),((2:Int),()),((255:Int),()),((256:Int),()),((65535:Int),()),((2147483647:Int),()),((2147483648:Int),()),((4294967295:Int),()),((4294967296:Int),()),((-2147483648:Int),()),((9223372036854775807:Int),()),((-9223372036854775808:Int),())],())) fun r1=>
 .leaf (r1.1,(a0.1,r1.2.2.1,r1.2.2.2.1,()))
def Aki (a0:Au):Option (YI×Au):=(Akh a0).val
def Akj (a0:Au):Tree (Hk×Au):=
 .ob (Agc a0) fun r1=>
 .ob (A7 (a0.1,r1.2.2.1,r1.2.2.2.1,()) ((10:Int),())) fun r2=>letI u1:=r2.2.2;
 .br (r2.1.1==(0:Int)) (
 .ob (Aki (a0.1,u1.1,u1.2.1,())) fun r3=>
 .leaf ((r3.1.1,r1.1.2.1,()),(a0.1,r3.2.2.1,r3.2.2.2.1,()))) (
 .br (r2.1.1==(1:Int)) (
 .ob (A3 (a0.1,u1.1,u1.2.1,()) ([((-1:Int),()),((65535:Int),()),((65536:Int),()),((0:Int),())],())) fun r4=>
 .leaf ((r1.1.1,r4.1.1,()),(a0.1,r4.2.2.1,r4.2.2.2.1,()))) (
 .leaf (r1.1,(a0.1,u1.1,u1.2.1,()))))
def Akk (a0:Au):Option (Hk×Au):=(Akj a0).val
def Agd (a0:Au):Tree (Ab×Au):=
 .ob (A7 a0 ((8:Int),())) fun r1=>letI u1:=r1.2.2;
 .br ((i64.wrap ((1:Int)+r1.1.1))==(1:Int)) (
 .ob (A7 (a0.1,u1.1,u1.2.1,()) ((9:Int),())) fun r2=>
 .ob (Bb (a0.1,r2.2.2.1,r2.2.2.2.1,()) ((12:Int),())) fun r3=>
 .leaf (((i64.wrap ((1:Int)+r1.1.1)),(i64.wrap ((1:Int)+r2.1.1)),r3.1.1,([]:List YB),(0:Int),([]:List YB),([]:List YB),(0:Int),(0:Int),([]:List YB),([]:List YB),()),(a0.1,r3.2.2.1,r3.2.2.2.1,()))) (
 .br ((i64.wrap ((1:Int)+r1.1.1))==(2:Int)) (
 .ob (Bb (a0.1,u1.1,u1.2.1,()) ((12:Int),())) fun r4=>
 .ob (Bb (a0.1,r4.2.2.1,r4.2.2.2.1,()) ((12:Int),())) fun r5=>
 .ob (A3 (a0.1,r5.2.2.1,r5.2.2.2.1,()) ([((0:Int),()),((1:Int),()),((300:Int),()),((1000000:Int),())],())) fun r6=>
 .ob (Bb (a0.1,r6.2.2.1,r6.2.2.2.1,()) ((16:Int),())) fun r7=>
 .br ((i64.wrap ((1:Int)+r1.1.1))==(3:Int)) (
 .ob (A7 (a0.1,r7.2.2.1,r7.2.2.2.1,()) ((9:Int),())) fun r8=>
 .ob (Bb (a0.1,r8.2.2.1,r8.2.2.2.1,()) ((16:Int),())) fun r9=>
 .leaf (((i64.wrap ((1:Int)+r1.1.1)),(i64.wrap ((1:Int)+r8.1.1)),r4.1.1,r5.1.1,r6.1.1,r7.1.1,r9.1.1,(0:Int),(0:Int),([]:List YB),([]:List YB),()),(a0.1,r9.2.2.1,r9.2.2.2.1,()))) (
 .leaf (((i64.wrap ((1:Int)+r1.1.1)),(0:Int),r4.1.1,r5.1.1,r6.1.1,r7.1.1,([]:List YB),(0:Int),(0:Int),([]:List YB),([]:List YB),()),(a0.1,r7.2.2.1,r7.2.2.2.1,())))) (
 .br ((i64.wrap ((1:Int)+r1.1.1))==(3:Int)) (
 .ob (Bb (a0.1,u1.1,u1.2.1,()) ((12:Int),())) fun r10=>
 .ob (Bb (a0.1,r10.2.2.1,r10.2.2.2.1,()) ((12:Int),())) fun r11=>
 .ob (A3 (a0.1,r11.2.2.1,r11.2.2.2.1,()) ([((0:Int),()),((1:Int),()),((300:Int),()),((1000000:Int),())],())) fun r12=>
 .ob (Bb (a0.1,r12.2.2.1,r12.2.2.2.1,()) ((16:Int),())) fun r13=>
 .br ((i64.wrap ((1:Int)+r1.1.1))==(3:Int)) (
 .ob (A7 (a0.1,r13.2.2.1,r13.2.2.2.1,()) ((9:Int),())) fun r14=>
 .ob (Bb (a0.1,r14.2.2.1,r14.2.2.2.1,()) ((16:Int),())) fun r15=>
 .leaf (((i64.wrap ((1:Int)+r1.1.1)),(i64.wrap ((1:Int)+r14.1.1)),r10.1.1,r11.1.1,r12.1.1,r13.1.1,r15.1.1,(0:Int),(0:Int),([]:List YB),([]:List YB),()),(a0.1,r15.2.2.1,r15.2.2.2.1,()))) (
 .leaf (((i64.wrap ((1:Int)+r1.1.1)),(0:Int),r10.1.1,r11.1.1,r12.1.1,r13.1.1,([]:List YB),(0:Int),(0:Int),([]:List YB),([]:List YB),()),(a0.1,r13.2.2.1,r13.2.2.2.1,())))) (
 .ob (Bb (a0.1,u1.1,u1.2.1,()) ((12:Int),())) fun r16=>
 .ob (A3 (a0.1,r16.2.2.1,r16.2.2.2.1,()) ([((0:Int),()),((1:Int),()),((2:Int),()),((4294967295:Int),())],())) fun r17=>
 .ob (A3 (a0.1,r17.2.2.1,r17.2.2.2.1,()) ([((0:Int),()),((1:Int),()),((70000:Int),()),((281474976710655:Int),())],())) fun r18=>
 .ob (Bb (a0.1,r18.2.2.1,r18.2.2.2.1,()) ((16:Int),())) fun r19=>
 .ob (A3 (a0.1,r19.2.2.1,r19.2.2.2.1,()) ([((0:Int),()),((1:Int),()),((12:Int),()),((40:Int),())],())) fun r20=>letI u2:=r20.2.2;
 .br ((i64.wrap ((1:Int)+r1.1.1))==(5:Int)) (
 .br (decide ((i64.wrap ((1:Int)+r1.1.1))≥(7:Int))) (
 .ob (Bb (a0.1,u2.1,u2.2.1,()) ((4:Int),())) fun r21=>
 .leaf (((i64.wrap ((1:Int)+r1.1.1)),(0:Int),([]:List YB),r16.1.1,(0:Int),([]:List YB),([]:List YB),r17.1.1,r18.1.1,r21.1.1,r19.1.1,()),(a0.1,r21.2.2.1,r21.2.2.2.1,()))) (
 .ob (Bb (a0.1,u2.1,u2.2.1,()) ((12:Int),())) fun r22=>
 .leaf (((i64.wrap ((1:Int)+r1.1.1)),(0:Int),([]:List YB),r16.1.1,(0:Int),([]:List YB),([]:List YB),r17.1.1,r18.1.1,r22.1.1,r19.1.1,()),(a0.1,r22.2.2.1,r22.2.2.2.1,())))) (
 .br ((i64.wrap ((1:Int)+r1.1.1))==(6:Int)) (
 .br (decide ((i64.wrap ((1:Int)+r1.1.1))≥(7:Int))) (
 .ob (Bb (a0.1,u2.1,u2.2.1,()) ((4:Int),())) fun r23=>
 .leaf (((i64.wrap ((1:Int)+r1.1.1)),(0:Int),([]:List YB),r16.1.1,(0:Int),([]:List YB),([]:List YB),r17.1.1,r18.1.1,r23.1.1,r19.1.1,()),(a0.1,r23.2.2.1,r23.2.2.2.1,()))) (
 .ob (Bb (a0.1,u2.1,u2.2.1,()) ((12:Int),())) fun r24=>
 .leaf (((i64.wrap ((1:Int)+r1.1.1)),(0:Int),([]:List YB),r16.1.1,(0:Int),([]:List YB),([]:List YB),r17.1.1,r18.1.1,r24.1.1,r19.1.1,()),(a0.1,r24.2.2.1,r24.2.2.2.1,())))) (
 .br (decide ((i64.wrap ((1:Int)+r1.1.1))≥(7:Int))) (
 .ob (Bb (a0.1,u2.1,u2.2.1,()) ((4:Int),())) fun r25=>
 .leaf (((i64.wrap ((1:Int)+r1.1.1)),(0:Int),([]:List YB),r16.1.1,(0:Int),([]:List YB),([]:List YB),r17.1.1,r18.1.1,r25.1.1,r19.1.1,()),(a0.1,r25.2.2.1,r25.2.2.2.1,()))) (
 .ob (Bb (a0.1,u2.1,u2.2.1,()) r20.1) fun r26=>
 .leaf (((i64.wrap ((1:Int)+r1.1.1)),(0:Int),([]:List YB),r16.1.1,(0:Int),([]:List YB),([]:List YB),r17.1.1,r18.1.1,r26.1.1,r19.1.1,()),(a0.1,r26.2.2.1,r26.2.2.2.1,()))))))))
def Age (a0:Au):Option (Ab×Au):=(Agd a0).val
end
end Go.Proofs.YtmhhajdeafijmaaGreat

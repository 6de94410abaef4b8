/-
  What the functions of the seat answer, as plain terms (printed by a program, proved in the texts P); nothing is assumed.
-/
import Derived.Test.YtjlblagmjlmglaaGreatEv2
namespace Go.Proofs.YtjlblagmjlmglaaGreat
open Go.RowKit IntKind
set_option linter.unusedVariables false
set_option maxRecDepth 100000
set_option maxHeartbeats 4000000
noncomputable section
abbrev YB:Type:=Int×Unit
abbrev YI:Type:=Int×Unit
abbrev YBs:Type:=List YB×Unit
abbrev A6l:Type:=ByteArray×Int×Unit
abbrev Dk:Type:=Int×Int×Unit
abbrev Bp:Type:=Int×(List YI)×Unit
abbrev Bb8:Type:=Int×Int×Bool×Int×Unit
abbrev Bg:Type:=Bool×Int×Int×Int×Unit
abbrev Aw:Type:=(List YB)×Int×Int×Unit
abbrev Jk:Type:=(List YI)×(List YB)×Int×Unit
abbrev Bau:Type:=Int×Int×(List YB)×Int×Unit
abbrev YEp:Type:=Int×(List YB)×Int×Int×(List YI)×Unit
abbrev Bea:Type:=Int×Int×(List Bau)×Unit
abbrev Ae:Type:=Int×Int×Int×(List YB)×(List YB)×Int×Int×(List YB)×(List YB)×Int×Int×Int×Unit
abbrev Aa:Type:=Int×Int×(List YB)×(List YB)×Int×(List YB)×(List YB)×Int×Int×(List YB)×(List YB)×Unit
abbrev Bee:Type:=Int×Int×Int×Int×(List YB)×(List YB)×Int×(List YB)×(List YB)×Int×Int×(List YB)×(List YB)×Unit
abbrev Af:Type:=Int×(List YB)×Int×(List YB)×Int×Int×(List YI)×Int×(List YB)×Int×Int×(List YI)×Bool×Int×(List YB)×Unit
abbrev Bec:Type:=Int×(List YB)×(List YB)×Int×(List YB)×Int×(List YB)×Int×Int×(List YI)×Int×(List YB)×Int×Int×(List YI)×Bool×Int×(List YB)×Int×Int×(List Bau)×Int×Int×Bool×Unit
abbrev Ab:Type:=Int×(List YB)×Int×Int×Int×(List YB)×Int×Int×(List YB)×(List YB)×Int×(List YB)×(List YB)×Int×Int×(List YB)×(List YB)×Int×(List YB)×Int×(List YB)×Int×Int×(List YI)×Int×(List YB)×Int×Int×(List YI)×Bool×Int×(List YB)×Bool×Int×Int×Int×Bool×Int×Int×Int×Int×Unit
def A2s (a0:YBs):Tree ((Bool×Unit)):=
 .leaf ((decide ((a0.1.length:Int)>(1048576:Int))),())
def A20 (a0:YBs):Option ((Bool×Unit)):=(A2s a0).val
def Q8 (x1:Aw):Option (Aw⊕(((List YB)×Int×Unit))):=
 Tree.val (α:=Aw⊕(((List YB)×Int×Unit))) <|
 .br (decide (x1.2.2.1<(x1.1.length:Int))) (
 .br (decide (x1.2.2.1<(4000:Int))) (
 .ob (idx x1.1 x1.2.2.1) fun e2=>
 .leaf (.inl (x1.1,(i64.wrap ((BitVec.ofInt (i64.bits) ((i64.wrap ((i64.wrap ((i64.wrap (x1.2.1*(137:Int)))+(i64.wrap (e2.1))))+(11:Int)))) &&& BitVec.ofInt (i64.bits) ((1073741823:Int))).toNat:Nat)),(i64.wrap (x1.2.2.1+(1:Int))),()))) (
 .leaf (.inr (x1.1,x1.2.1,())))) (
 .leaf (.inr (x1.1,x1.2.1,())))
def Ajk (a0:YBs):Tree (Aw):=
 .ob (Az Q8 (a0.1,(i64.wrap ((127812:Int)+(a0.1.length:Int))),(0:Int),())) fun o3=>
 .leaf (o3.1,(0:Int),o3.2.1,())
def Ak4 (a0:YBs):Option (Aw):=(Ajk a0).val
def Afe (a0:Aw):Tree (YI×Aw):=
 letI u1:=a0.2.2;.br (decide (a0.2.1<(a0.1.length:Int))) (
 .ob (idx a0.1 a0.2.1) fun e1=>
 .leaf (((i64.wrap ((BitVec.ofInt (i64.bits) ((i64.wrap ((i64.wrap ((BitVec.ofInt (i64.bits) ((i64.wrap ((BitVec.ofInt (i64.bits) ((Int.fdiv (i64.wrap ((i64.wrap (u1.1*(6364136223846793005:Int)))+(1442695040888963407:Int))) (2^(min ((33:Int)).toNat i64.bits)))) ^^^ BitVec.ofInt (i64.bits) ((Int.fdiv (i64.wrap ((i64.wrap (u1.1*(6364136223846793005:Int)))+(1442695040888963407:Int))) (2^(min ((47:Int)).toNat i64.bits))))).toNat:Nat))) &&& BitVec.ofInt (i64.bits) ((255:Int))).toNat:Nat))+(i64.wrap (e1.1))))) &&& BitVec.ofInt (i64.bits) ((255:Int))).toNat:Nat)),()),(a0.1,(i64.wrap (a0.2.1+(1:Int))),(i64.wrap ((i64.wrap (u1.1*(6364136223846793005:Int)))+(1442695040888963407:Int))),()))) (
 .leaf (((i64.wrap ((BitVec.ofInt (i64.bits) ((i64.wrap ((BitVec.ofInt (i64.bits) ((Int.fdiv (i64.wrap ((i64.wrap (u1.1*(6364136223846793005:Int)))+(1442695040888963407:Int))) (2^(min ((33:Int)).toNat i64.bits)))) ^^^ BitVec.ofInt (i64.bits) ((Int.fdiv (i64.wrap ((i64.wrap (u1.1*(6364136223846793005:Int)))+(1442695040888963407:Int))) (2^(min ((47:Int)).toNat i64.bits))))).toNat:Nat))) &&& BitVec.ofInt (i64.bits) ((255:Int))).toNat:Nat)),()),(a0.1,a0.2.1,(i64.wrap ((i64.wrap (u1.1*(6364136223846793005:Int)))+(1442695040888963407:Int))),())))
def Hw (a0:Aw):Option (YI×Aw):=(Afe a0).val
def Abp (a0:Aw) (a1:YI):Tree (YI×Aw):=
 .br (decide (a1.1≤(0:Int))) (
 .leaf (((0:Int),()),a0)) (
 .br (decide (a1.1≤(256:Int))) (
 .ob (Hw a0) fun r1=>
 .chk (decide ((0:Int)<a1.1)) <|
 .chk (decide ((0:Int)≤r1.1.1)) <|
 .leaf (((r1.1.1%a1.1),()),(a0.1,r1.2.2.1,r1.2.2.2.1,()))) (
 .ob (Hw a0) fun r2=>
 .ob (Hw (a0.1,r2.2.2.1,r2.2.2.2.1,())) fun r3=>
 .ob (Hw (a0.1,r3.2.2.1,r3.2.2.2.1,())) fun r4=>
 .chk (decide ((0:Int)<a1.1)) <|
 .chk (decide ((0:Int)≤(i64.wrap ((i64.wrap ((i64.wrap (r2.1.1*(65536:Int)))+(i64.wrap (r3.1.1*(256:Int)))))+r4.1.1)))) <|
 .leaf ((((i64.wrap ((i64.wrap ((i64.wrap (r2.1.1*(65536:Int)))+(i64.wrap (r3.1.1*(256:Int)))))+r4.1.1))%a1.1),()),(a0.1,r4.2.2.1,r4.2.2.2.1,()))))
def Bi (a0:Aw) (a1:YI):Option (YI×Aw):=(Abp a0 a1).val
def Jx (x1:Int×(List YB)×Int×(List YB)×Int×Int×Unit):Option ((Int×(List YB)×Int×(List YB)×Int×Int×Unit)⊕(((List YB)×(List YB)×Int×Int×Unit))):=
 letI u1:=x1.2.2.2;Tree.val (α:=(Int×(List YB)×Int×(List YB)×Int×Int×Unit)⊕(((List YB)×(List YB)×Int×Int×Unit))) <|
 .br (decide (x1.2.2.1<x1.1)) (
 .ob (Hw (u1.1,u1.2.1,u1.2.2.1,())) fun r2=>
 .chk (decide (x1.2.1.length+[((u8.wrap (r2.1.1)),())].length≤4294967296)) <|
 .leaf (.inl (x1.1,(x1.2.1++[((u8.wrap (r2.1.1)),())]),(i64.wrap (x1.2.2.1+(1:Int))),u1.1,r2.2.2.1,r2.2.2.2.1,()))) (
 .leaf (.inr (x1.2.1,u1.1,u1.2.1,u1.2.2.1,())))
def Abq (a0:Aw) (a1:YI):Tree (YBs×Aw):=
 .ob (Az Jx (a1.1,([]:List YB),(0:Int),a0.1,a0.2.1,a0.2.2.1,())) fun o3=>
 .leaf ((o3.1,()),(o3.2.1,o3.2.2.1,o3.2.2.2.1,()))
def A9 (a0:Aw) (a1:YI):Option (YBs×Aw):=(Abq a0 a1).val
def Aoz (a0:YI) (a1:YI) (a2:YI):Tree ((Bool×Unit)):=
 .br (decide (a0.1≥a1.1)) (
 .leaf ((decide (a0.1≤a2.1)),())) (
 .leaf (false,()))
def Bd (a0:YI) (a1:YI) (a2:YI):Option ((Bool×Unit)):=(Aoz a0 a1 a2).val
def Ao1 (a0:YI):Tree (Dk):=
 .ob (Bd a0 ((0:Int),()) ((255:Int),())) fun r1=>
 .br (!r1.1) (
 .leaf ((0:Int),(0:Int),())) (
 .leaf ((i64.wrap ((167772160:Int)+a0.1)),(i64.wrap ((7000:Int)+a0.1)),()))
def Ag0 (a0:YI):Option (Dk):=(Ao1 a0).val
def Ajl (a0:YBs):Tree ((Bool×Unit)):=
 .ob (Bd ((a0.1.length:Int),()) ((1:Int),()) ((32:Int),())) fun r1=>
 .leaf r1
def K8 (a0:YBs):Option ((Bool×Unit)):=(Ajl a0).val
def Afg (a0:Dk):Tree ((Bool×Unit)):=
 .ob (Bd (a0.1,()) ((0:Int),()) ((4294967295:Int),())) fun r1=>
 .br r1.1 (
 .ob (Bd (a0.2.1,()) ((0:Int),()) ((65535:Int),())) fun r2=>
 .leaf r2) (
 .leaf (false,()))
def Ot (a0:Dk):Option ((Bool×Unit)):=(Afg a0).val
def Jy (a0:YI) (a1:YBs) (a2:Dk):Tree (Ab):=
 .ob (Bd a0 ((1:Int),()) ((9:Int),())) fun r1=>
 .br (!r1.1) (
 .leaf ((0:Int),([]:List YB),(0:Int),(0:Int),(0:Int),([]:List YB),(0:Int),(0:Int),([]:List YB),([]:List YB),(0:Int),([]:List YB),([]:List YB),(0:Int),(0:Int),([]:List YB),([]:List YB),(0:Int),([]:List YB),(0:Int),([]:List YB),(0:Int),(0:Int),([]:List YI),(0:Int),([]:List YB),(0:Int),(0:Int),([]:List YI),false,(0:Int),([]:List YB),false,(0:Int),(0:Int),(0:Int),false,(0:Int),(0:Int),(0:Int),(0:Int),())) (
 .ob (K8 a1) fun r2=>
 .br (!r2.1) (
 .leaf ((0:Int),([]:List YB),(0:Int),(0:Int),(0:Int),([]:List YB),(0:Int),(0:Int),([]:List YB),([]:List YB),(0:Int),([]:List YB),([]:List YB),(0:Int),(0:Int),([]:List YB),([]:List YB),(0:Int),([]:List YB),(0:Int),([]:List YB),(0:Int),(0:Int),([]:List YI),(0:Int),([]:List YB),(0:Int),(0:Int),([]:List YI),false,(0:Int),([]:List YB),false,(0:Int),(0:Int),(0:Int),false,(0:Int),(0:Int),(0:Int),(0:Int),())) (
 .ob (Ot a2) fun r3=>
 .br (!r3.1) (
 .leaf ((0:Int),([]:List YB),(0:Int),(0:Int),(0:Int),([]:List YB),(0:Int),(0:Int),([]:List YB),([]:List YB),(0:Int),([]:List YB),([]:List YB),(0:Int),(0:Int),([]:List YB),([]:List YB),(0:Int),([]:List YB),(0:Int),([]:List YB),(0:Int),(0:Int),([]:List YI),(0:Int),([]:List YB),(0:Int),(0:Int),([]:List YI),false,(0:Int),([]:List YB),false,(0:Int),(0:Int),(0:Int),false,(0:Int),(0:Int),(0:Int),(0:Int),())) (
 .chk (decide (([]:List YB).length+a1.1.length≤4294967296)) <|
 .leaf (a0.1,(([]:List YB)++a1.1),a2.1,a2.2.1,(0:Int),([]:List YB),(0:Int),(0:Int),([]:List YB),([]:List YB),(0:Int),([]:List YB),([]:List YB),(0:Int),(0:Int),([]:List YB),([]:List YB),(0:Int),([]:List YB),(0:Int),([]:List YB),(0:Int),(0:Int),([]:List YI),(0:Int),([]:List YB),(0:Int),(0:Int),([]:List YI),false,(0:Int),([]:List YB),false,(0:Int),(0:Int),(0:Int),false,(0:Int),(0:Int),(0:Int),(0:Int),()))))
def Gd (a0:YI) (a1:YBs) (a2:Dk):Option (Ab):=(Jy a0 a1 a2).val
def Ajm (a0:Aw) (a1:(List YI)×Unit):Tree (YI×Aw):=
 .ob (Bi a0 ((a1.1.length:Int),())) fun r1=>
 .ob (idx a1.1 r1.1.1) fun e2=>
 .leaf (e2,(a0.1,r1.2.2.1,r1.2.2.2.1,()))
def A6 (a0:Aw) (a1:(List YI)×Unit):Option (YI×Aw):=(Ajm a0 a1).val
def Afh (a0:Aa):Tree (Aa):=
 letI u1:=a0.2.2.2;letI u2:=u1.2.2.2;.chk (decide (([]:List YB).length+a0.2.2.1.length≤4294967296)) <|
 .chk (decide (([]:List YB).length+a0.2.2.2.1.length≤4294967296)) <|
 .chk (decide (([]:List YB).length+a0.2.2.2.2.2.1.length≤4294967296)) <|
 .chk (decide (([]:List YB).length+a0.2.2.2.2.2.2.1.length≤4294967296)) <|
 .chk (decide (([]:List YB).length+a0.2.2.2.2.2.2.2.2.2.1.length≤4294967296)) <|
 .chk (decide (([]:List YB).length+a0.2.2.2.2.2.2.2.2.2.2.1.length≤4294967296)) <|
 .leaf (a0.1,a0.2.1,(([]:List YB)++a0.2.2.1),(([]:List YB)++u1.1),u1.2.1,(([]:List YB)++u1.2.2.1),(([]:List YB)++u2.1),u2.2.1,u2.2.2.1,(([]:List YB)++u2.2.2.2.1),(([]:List YB)++u2.2.2.2.2.1),())
def Ou (a0:Aa):Option (Aa):=(Afh a0).val
def Aq3 (a0:Bp):Tree (Bp):=
 .chk (decide (([]:List YI).length+a0.2.1.length≤4294967296)) <|
 .leaf (a0.1,(([]:List YI)++a0.2.1),())
def Ag1 (a0:Bp):Option (Bp):=(Aq3 a0).val
def Afj (a0:YEp):Tree (YEp):=
 .chk (decide (([]:List YB).length+a0.2.1.length≤4294967296)) <|
 .ob (Ag1 (a0.2.2.2.1,a0.2.2.2.2.1,())) fun r1=>
 .leaf (a0.1,(([]:List YB)++a0.2.1),a0.2.2.1,r1.1,r1.2.1,())
def L0 (a0:YEp):Option (YEp):=(Afj a0).val
def Ajn (a0:YEp) (a1:Bool×Unit):Tree (YEp):=
 .br (!a1.1) (
 .chk (decide (([]:List YB).length+a0.2.1.length≤4294967296)) <|
 .chk (decide (([]:List YI).length+a0.2.2.2.2.1.length≤4294967296)) <|
 .leaf (a0.1,(([]:List YB)++a0.2.1),a0.2.2.1,a0.2.2.2.1,(([]:List YI)++a0.2.2.2.2.1),())) (
 .ob (L0 a0) fun r1=>
 .leaf r1)
def Ak5 (a0:YEp) (a1:Bool×Unit):Option (YEp):=(Ajn a0 a1).val
def Abs (a0:Af):Tree (Af):=
 letI u1:=a0.2.2.2;letI u2:=u1.2.2.2;letI u3:=u2.2.2.2;letI u4:=u3.2.2.2;.chk (decide (([]:List YB).length+a0.2.1.length≤4294967296)) <|
 .ob (L0 (a0.2.2.1,u1.1,u1.2.1,u1.2.2.1,u2.1,())) fun r1=>
 .ob (Ak5 (u2.2.1,u2.2.2.1,u3.1,u3.2.1,u3.2.2.1,()) (u4.1,())) fun r2=>
 .chk (decide (([]:List YB).length+a0.2.2.2.2.2.2.2.2.2.2.2.2.2.2.1.length≤4294967296)) <|
 .leaf (a0.1,(([]:List YB)++a0.2.1),r1.1,r1.2.1,r1.2.2.1,r1.2.2.2.1,r1.2.2.2.2.1,r2.1,r2.2.1,r2.2.2.1,r2.2.2.2.1,r2.2.2.2.2.1,u4.1,u4.2.1,(([]:List YB)++u4.2.2.1),())
def Mk (a0:Af):Option (Af):=(Abs a0).val
def Abu (a0:Ab):Tree (Ab):=
 letI u1:=a0.2.2.2;letI u2:=u1.2.2.2;letI u3:=u2.2.2.2;letI u4:=u3.2.2.2;letI u5:=u4.2.2.2;letI u6:=u5.2.2.2;letI u7:=u6.2.2.2;letI u8:=u7.2.2.2;letI u9:=u8.2.2.2;letI u10:=u9.2.2.2;letI u11:=u10.2.2.2;letI u12:=u11.2.2.2;.chk (decide (([]:List YB).length+a0.2.1.length≤4294967296)) <|
 .chk (decide (([]:List YB).length+a0.2.2.2.2.2.1.length≤4294967296)) <|
 .ob (Ou (u2.1,u2.2.1,u2.2.2.1,u3.1,u3.2.1,u3.2.2.1,u4.1,u4.2.1,u4.2.2.1,u5.1,u5.2.1,())) fun r1=>letI u13:=r1.2.2.2;letI u14:=u13.2.2.2;
 .ob (Mk (u5.2.2.1,u6.1,u6.2.1,u6.2.2.1,u7.1,u7.2.1,u7.2.2.1,u8.1,u8.2.1,u8.2.2.1,u9.1,u9.2.1,u9.2.2.1,u10.1,u10.2.1,())) fun r2=>letI u15:=r2.2.2.2;letI u16:=u15.2.2.2;letI u17:=u16.2.2.2.2;
 .leaf (a0.1,(([]:List YB)++a0.2.1),a0.2.2.1,u1.1,u1.2.1,(([]:List YB)++u1.2.2.1),r1.1,r1.2.1,r1.2.2.1,u13.1,u13.2.1,u13.2.2.1,u14.1,u14.2.1,u14.2.2.1,u14.2.2.2.1,u14.2.2.2.2.1,r2.1,r2.2.1,r2.2.2.1,u15.1,u15.2.1,u15.2.2.1,u16.1,u16.2.1,u16.2.2.1,u16.2.2.2.1,u17.1,u17.2.1,u17.2.2.1,u17.2.2.2.1,u17.2.2.2.2.1,u10.2.2.1,u11.1,u11.2.1,u11.2.2.1,u12.1,u12.2.1,u12.2.2.1,u12.2.2.2.1,u12.2.2.2.2.1,())
def Rn (a0:Ab):Option (Ab):=(Abu a0).val
def Abw (a0:Bg):Tree ((Bool×Unit)):=
 letI u1:=a0.2.2;.br (!a0.1) (
 .leaf ((and (a0.1==false) (and (a0.2.1==(0:Int)) (and (u1.1==(0:Int)) (and (u1.2.1==(0:Int)) true)))),())) (
 .ob (Bd (a0.2.1,()) ((0:Int),()) ((1000008:Int),())) fun r1=>
 .br r1.1 (
 .br (u1.1==(1:Int)) (
 .ob (Bd (u1.2.1,()) ((1:Int),()) ((5:Int),())) fun r2=>
 .leaf r2) (
 .br (u1.1==(2:Int)) (
 .ob (Bd (u1.2.1,()) ((1:Int),()) ((5:Int),())) fun r3=>
 .leaf r3) (
 .br (u1.1==(4:Int)) (
 .ob (Bd (u1.2.1,()) ((1:Int),()) ((5:Int),())) fun r4=>
 .leaf r4) (
 .br (u1.1==(8:Int)) (
 .ob (Bd (u1.2.1,()) ((1:Int),()) ((5:Int),())) fun r5=>
 .leaf r5) (
 .leaf (false,())))))) (
 .leaf (false,())))
def Kf (a0:Bg):Option ((Bool×Unit)):=(Abw a0).val
def Py (a0:Aa):Tree ((Bool×Unit)):=
 letI u1:=a0.2.2.2.2;.br (a0.1==(0:Int)) (
 .br (a0.2.1==(0:Int)) (
 .br ((a0.2.2.1.length:Int)==(0:Int)) (
 .br ((a0.2.2.2.1.length:Int)==(0:Int)) (
 .br (u1.1==(0:Int)) (
 .br ((a0.2.2.2.2.2.1.length:Int)==(0:Int)) (
 .br ((a0.2.2.2.2.2.2.1.length:Int)==(0:Int)) (
 .br (u1.2.2.2.1==(0:Int)) (
 .br (u1.2.2.2.2.1==(0:Int)) (
 .br ((a0.2.2.2.2.2.2.2.2.2.1.length:Int)==(0:Int)) (
 .leaf (((a0.2.2.2.2.2.2.2.2.2.2.1.length:Int)==(0:Int)),())) (
 .leaf (false,()))) (
 .leaf (false,()))) (
 .leaf (false,()))) (
 .leaf (false,()))) (
 .leaf (false,()))) (
 .leaf (false,()))) (
 .leaf (false,()))) (
 .leaf (false,()))) (
 .leaf (false,()))) (
 .leaf (false,()))
def Iw (a0:Aa):Option ((Bool×Unit)):=(Py a0).val
def Aby (a0:YEp):Tree ((Bool×Unit)):=
 .br (a0.1==(0:Int)) (
 .br ((a0.2.1.length:Int)==(0:Int)) (
 .br (a0.2.2.1==(0:Int)) (
 .br (a0.2.2.2.1==(0:Int)) (
 .leaf (((a0.2.2.2.2.1.length:Int)==(0:Int)),())) (
 .leaf (false,()))) (
 .leaf (false,()))) (
 .leaf (false,()))) (
 .leaf (false,()))
def Ml (a0:YEp):Option ((Bool×Unit)):=(Aby a0).val
def S1 (a0:Af):Tree ((Bool×Unit)):=
 letI u1:=a0.2.2.2;letI u2:=u1.2.2.2;letI u3:=u2.2.2.2;.br (a0.1==(0:Int)) (
 .br ((a0.2.1.length:Int)==(0:Int)) (
 .ob (Ml (a0.2.2.1,u1.1,u1.2.1,u1.2.2.1,u2.1,())) fun r1=>
 .br r1.1 (
 .ob (Ml (u2.2.1,u2.2.2.1,u3.1,u3.2.1,u3.2.2.1,())) fun r2=>
 .br r2.1 (
 .br (!u3.2.2.2.1) (
 .br (u3.2.2.2.2.1==(0:Int)) (
 .leaf (((a0.2.2.2.2.2.2.2.2.2.2.2.2.2.2.1.length:Int)==(0:Int)),())) (
 .leaf (false,()))) (
 .leaf (false,()))) (
 .leaf (false,()))) (
 .leaf (false,()))) (
 .leaf (false,()))) (
 .leaf (false,()))
def M0 (a0:Af):Option ((Bool×Unit)):=(S1 a0).val
def Ajs (a0:Bp) (a1:YI):Tree ((Bool×Unit)):=
 .chk (decide ((0:Int)≤a1.1)) <|
 .chk (decide ((0:Int)≤(a1.1%(1024:Int)))) <|
 .ob (idx a0.2.1 ((a1.1%(1024:Int))/(32:Int))) fun e1=>
 .chk (decide ((0:Int)≤(a1.1%(1024:Int)))) <|
 .chk (decide ((0:Int)≤((a1.1%(1024:Int))%(32:Int)))) <|
 .leaf (((i64.wrap ((BitVec.ofInt (i64.bits) ((Int.fdiv e1.1 (2^(min (((a1.1%(1024:Int))%(32:Int))).toNat i64.bits)))) &&& BitVec.ofInt (i64.bits) ((1:Int))).toNat:Nat))==(1:Int)),())
def R8 (a0:Bp) (a1:YI):Option ((Bool×Unit)):=(Ajs a0 a1).val
def Ib (x2:Int×Int×(List YI)×Unit):Option ((Int×Int×(List YI)×Unit)⊕((Bool×Unit)⊕Bp)):=
 Tree.val (α:=(Int×Int×(List YI)×Unit)⊕((Bool×Unit)⊕Bp)) <|
 .br (decide (x2.1<(32:Int))) (
 .ob (idx x2.2.2.1 x2.1) fun e3=>
 .ob (Bd e3 ((0:Int),()) ((4294967295:Int),())) fun r4=>
 .br (!r4.1) (
 .leaf (.inr (.inl (false,())))) (
 .leaf (.inl ((i64.wrap (x2.1+(1:Int))),x2.2.1,x2.2.2.1,())))) (
 .leaf (.inr (.inr (x2.2.1,x2.2.2.1,()))))
def Fx (x9:Int×Int×(List YI)×Unit):Option ((Int×Int×(List YI)×Unit)⊕((Bool×Unit)⊕(Unit))):=
 Tree.val (α:=(Int×Int×(List YI)×Unit)⊕((Bool×Unit)⊕(Unit))) <|
 .br (decide (x9.1<(1024:Int))) (
 .ob (R8 (x9.2.1,x9.2.2.1,()) (x9.1,())) fun r10=>
 .br r10.1 (
 .leaf (.inr (.inl (false,())))) (
 .leaf (.inl ((i64.wrap (x9.1+(1:Int))),x9.2.1,x9.2.2.1,())))) (
 .leaf (.inr (.inr ())))
def Aal (a0:Bp):Tree ((Bool×Unit)):=
 .br ((a0.2.1.length:Int) != (32:Int)) (
 .leaf (false,())) (
 .ob (Bd (a0.1,()) ((-1:Int),()) ((281474976710655:Int),())) fun r1=>
 .br (!r1.1) (
 .leaf (false,())) (
 .ob (Az Ib ((0:Int),a0.1,a0.2.1,())) fun o5=>
 .sm o5 (fun o6=>
 .leaf o6) (fun o7=>
 .br (decide (o7.1≥(0:Int))) (
 .ob (R8 o7 (o7.1,())) fun r8=>
 .br (!r8.1) (
 .leaf (false,())) (
 .ob (Az Fx ((i64.wrap (o7.1+(1:Int))),o7.1,o7.2.1,())) fun o11=>
 .sm o11 (fun o12=>
 .leaf o12) (fun o13=>
 .leaf (true,())))) (
 .ob (Az Fx ((i64.wrap (o7.1+(1:Int))),o7.1,o7.2.1,())) fun o14=>
 .sm o14 (fun o15=>
 .leaf o15) (fun o16=>
 .leaf (true,()))))))
def Aau (a0:Bp):Option ((Bool×Unit)):=(Aal a0).val
def Ao2 (a0:YEp):Tree ((Bool×Unit)):=
 .ob (Bd (a0.1,()) ((0:Int),()) ((4294967295:Int),())) fun r1=>
 .br r1.1 (
 .br ((a0.2.1.length:Int)==(32:Int)) (
 .ob (Bd (a0.2.2.1,()) ((0:Int),()) ((281474976710656:Int),())) fun r2=>
 .br r2.1 (
 .ob (Aau (a0.2.2.2.1,a0.2.2.2.2.1,())) fun r3=>
 .leaf r3) (
 .leaf (false,()))) (
 .leaf (false,()))) (
 .leaf (false,()))
def Nf (a0:YEp):Option ((Bool×Unit)):=(Ao2 a0).val
def Afl (a0:Af):Tree ((Bool×Unit)):=
 letI u1:=a0.2.2;letI u2:=u1.2.2;letI u3:=u2.2.2.2;letI u4:=u3.2.2;letI u5:=u4.2.2;.ob (Bd (a0.1,()) ((0:Int),()) ((1:Int),())) fun r1=>
 .br (!r1.1) (
 .leaf (false,())) (
 .br ((a0.2.1.length:Int) != (12:Int)) (
 .leaf (false,())) (
 .ob (Nf (u1.1,u1.2.1,u2.1,u2.2.1,u2.2.2.1,())) fun r2=>
 .br (!r2.1) (
 .leaf (false,())) (
 .br u5.2.1 (
 .br (a0.1==(0:Int)) (
 .ob (Nf (u3.1,u3.2.1,u4.1,u4.2.1,u5.1,())) fun r3=>
 .br (!r3.1) (
 .leaf (false,())) (
 .br (u3.1 != (i64.wrap (u1.1-(1:Int)))) (
 .leaf (false,())) (
 .ob (Bd (u5.2.2.1,()) ((0:Int),()) ((1000005:Int),())) fun r4=>
 .br (!r4.1) (
 .leaf (false,())) (
 .br ((a0.2.2.2.2.2.2.2.2.2.2.2.2.2.2.1.length:Int)==(0:Int)) (
 .leaf (true,())) (
 .br (a0.1==(0:Int)) (
 .br ((a0.2.2.2.2.2.2.2.2.2.2.2.2.2.2.1.length:Int)==(32:Int)) (
 .leaf ((decide (u1.1<(4294967295:Int))),())) (
 .leaf (false,()))) (
 .leaf (false,()))))))) (
 .ob (Nf (u3.1,u3.2.1,u4.1,u4.2.1,u5.1,())) fun r5=>
 .br (!r5.1) (
 .leaf (false,())) (
 .br (u3.1 != (i64.wrap (u1.1-(1:Int)))) (
 .leaf (false,())) (
 .ob (Bd (u5.2.2.1,()) ((-1:Int),()) ((1000005:Int),())) fun r6=>
 .br (!r6.1) (
 .leaf (false,())) (
 .br ((a0.2.2.2.2.2.2.2.2.2.2.2.2.2.2.1.length:Int)==(0:Int)) (
 .leaf (true,())) (
 .br (a0.1==(0:Int)) (
 .br ((a0.2.2.2.2.2.2.2.2.2.2.2.2.2.2.1.length:Int)==(32:Int)) (
 .leaf ((decide (u1.1<(4294967295:Int))),())) (
 .leaf (false,()))) (
 .leaf (false,())))))))) (
 .ob (Ml (u3.1,u3.2.1,u4.1,u4.2.1,u5.1,())) fun r7=>
 .br (!r7.1) (
 .leaf (false,())) (
 .br (u5.2.2.1 != (0:Int)) (
 .leaf (false,())) (
 .br ((a0.2.2.2.2.2.2.2.2.2.2.2.2.2.2.1.length:Int)==(0:Int)) (
 .leaf (true,())) (
 .br (a0.1==(0:Int)) (
 .br ((a0.2.2.2.2.2.2.2.2.2.2.2.2.2.2.1.length:Int)==(32:Int)) (
 .leaf ((decide (u1.1<(4294967295:Int))),())) (
 .leaf (false,()))) (
 .leaf (false,())))))))))
def Jl (a0:Af):Option ((Bool×Unit)):=(Afl a0).val
def Afm (a0:YI):Tree ((Bool×Unit)):=
 .ob (Bd a0 ((4:Int),()) ((8:Int),())) fun r1=>
 .leaf r1
def Hx (a0:YI):Option ((Bool×Unit)):=(Afm a0).val
def Afn (a0:YI) (a1:YI):Tree ((Bool×Unit)):=
 .br (a0.1==(4:Int)) (
 .leaf ((decide (a1.1≤(40:Int))),())) (
 .br (a0.1==(5:Int)) (
 .leaf ((a1.1==(12:Int)),())) (
 .br (a0.1==(6:Int)) (
 .leaf ((a1.1==(12:Int)),())) (
 .leaf ((a1.1==(4:Int)),()))))
def Ov (a0:YI) (a1:YI):Option ((Bool×Unit)):=(Afn a0 a1).val
def Ab0 (a0:Aa):Tree ((Bool×Unit)):=
 letI u1:=a0.2.2.2.2;letI u2:=u1.2.2.2;.ob (Hx (a0.1,())) fun r1=>
 .br r1.1 (
 .br (a0.2.1==(0:Int)) (
 .br ((a0.2.2.1.length:Int)==(0:Int)) (
 .br ((a0.2.2.2.1.length:Int)==(12:Int)) (
 .br (u1.1==(0:Int)) (
 .br ((a0.2.2.2.2.2.1.length:Int)==(0:Int)) (
 .br ((a0.2.2.2.2.2.2.1.length:Int)==(0:Int)) (
 .ob (Bd (u2.1,()) ((0:Int),()) ((4294967295:Int),())) fun r2=>
 .br r2.1 (
 .ob (Bd (u2.2.1,()) ((0:Int),()) ((281474976710655:Int),())) fun r3=>
 .br r3.1 (
 .ob (Ov (a0.1,()) ((a0.2.2.2.2.2.2.2.2.2.1.length:Int),())) fun r4=>
 .br r4.1 (
 .leaf (((a0.2.2.2.2.2.2.2.2.2.2.1.length:Int)==(16:Int)),())) (
 .leaf (false,()))) (
 .leaf (false,()))) (
 .leaf (false,()))) (
 .leaf (false,()))) (
 .leaf (false,()))) (
 .leaf (false,()))) (
 .leaf (false,()))) (
 .leaf (false,()))) (
 .leaf (false,()))) (
 .br (u2.1 != (0:Int)) (
 .leaf (false,())) (
 .br (u2.2.1 != (0:Int)) (
 .leaf (false,())) (
 .br ((a0.2.2.2.2.2.2.2.2.2.1.length:Int) != (0:Int)) (
 .leaf (false,())) (
 .br ((a0.2.2.2.2.2.2.2.2.2.2.1.length:Int) != (0:Int)) (
 .leaf (false,())) (
 .br ((a0.2.2.1.length:Int) != (12:Int)) (
 .leaf (false,())) (
 .br (a0.1==(1:Int)) (
 .ob (Bd (a0.2.1,()) ((1:Int),()) ((9:Int),())) fun r5=>
 .br r5.1 (
 .br ((a0.2.2.2.1.length:Int)==(0:Int)) (
 .br (u1.1==(0:Int)) (
 .br ((a0.2.2.2.2.2.1.length:Int)==(0:Int)) (
 .leaf (((a0.2.2.2.2.2.2.1.length:Int)==(0:Int)),())) (
 .leaf (false,()))) (
 .leaf (false,()))) (
 .leaf (false,()))) (
 .leaf (false,()))) (
 .br (a0.1==(2:Int)) (
 .br (a0.2.1==(0:Int)) (
 .br ((a0.2.2.2.1.length:Int)==(12:Int)) (
 .ob (Bd (u1.1,()) ((0:Int),()) ((1000000:Int),())) fun r6=>
 .br r6.1 (
 .br ((a0.2.2.2.2.2.1.length:Int)==(16:Int)) (
 .leaf (((a0.2.2.2.2.2.2.1.length:Int)==(0:Int)),())) (
 .leaf (false,()))) (
 .leaf (false,()))) (
 .leaf (false,()))) (
 .leaf (false,()))) (
 .br (a0.1==(3:Int)) (
 .ob (Bd (a0.2.1,()) ((1:Int),()) ((9:Int),())) fun r7=>
 .br r7.1 (
 .br ((a0.2.2.2.1.length:Int)==(12:Int)) (
 .ob (Bd (u1.1,()) ((0:Int),()) ((1000000:Int),())) fun r8=>
 .br r8.1 (
 .br ((a0.2.2.2.2.2.1.length:Int)==(16:Int)) (
 .leaf (((a0.2.2.2.2.2.2.1.length:Int)==(16:Int)),())) (
 .leaf (false,()))) (
 .leaf (false,()))) (
 .leaf (false,()))) (
 .leaf (false,()))) (
 .leaf (false,()))))))))))
def Id (a0:Aa):Option ((Bool×Unit)):=(Ab0 a0).val
def Aq7 (a0:YBs) (a1:YBs):Tree ((Bool×Unit)):=
 .leaf ((decide ((Kj a0.1)=(Kj a1.1))),())
def Ow (a0:YBs) (a1:YBs):Option ((Bool×Unit)):=(Aq7 a0 a1).val
def Xd (a0:Ab):Tree ((Bool×Unit)):=
 letI u1:=a0.2.2.2.2;letI u2:=u1.2.2;letI u3:=u2.2.2;letI u4:=u3.2.2;letI u5:=u4.2.2;letI u6:=u5.2.2;letI u7:=u6.2.2;letI u8:=u7.2.2;letI u9:=u8.2.2;letI u10:=u9.2.2;letI u11:=u10.2.2;letI u12:=u11.2.2;letI u13:=u12.2.2;letI u14:=u13.2.2;letI u15:=u14.2.2;letI u16:=u15.2.2.2.2;letI u17:=u16.2.2.2;.ob (Bd (a0.1,()) ((1:Int),()) ((9:Int),())) fun r1=>
 .br (!r1.1) (
 .leaf (false,())) (
 .ob (K8 (a0.2.1,())) fun r2=>
 .br (!r2.1) (
 .leaf (false,())) (
 .ob (Ot (a0.2.2.1,a0.2.2.2.1,())) fun r3=>
 .br (!r3.1) (
 .leaf (false,())) (
 .ob (Kf (u15.1,u15.2.1,u15.2.2.1,u15.2.2.2.1,())) fun r4=>
 .br (!r4.1) (
 .leaf (false,())) (
 .ob (Kf (u16.1,u16.2.1,u16.2.2.1,u17.1,())) fun r5=>
 .br (!r5.1) (
 .leaf (false,())) (
 .ob (Bd (u17.2.1,()) ((0:Int),()) ((1000000:Int),())) fun r6=>
 .br (!r6.1) (
 .leaf (false,())) (
 .br (u1.1==(0:Int)) (
 .br ((a0.2.2.2.2.2.1.length:Int)==(0:Int)) (
 .ob (Iw (u2.1,u2.2.1,u3.1,u3.2.1,u4.1,u4.2.1,u5.1,u5.2.1,u6.1,u6.2.1,u7.1,())) fun r7=>
 .br r7.1 (
 .ob (M0 (u7.2.1,u8.1,u8.2.1,u9.1,u9.2.1,u10.1,u10.2.1,u11.1,u11.2.1,u12.1,u12.2.1,u13.1,u13.2.1,u14.1,u14.2.1,())) fun r8=>
 .br r8.1 (
 .br (!u15.1) (
 .br (!u16.1) (
 .leaf ((u17.2.1==(0:Int)),())) (
 .leaf (false,()))) (
 .leaf (false,()))) (
 .leaf (false,()))) (
 .leaf (false,()))) (
 .leaf (false,()))) (
 .br ((a0.2.2.2.2.2.1.length:Int) != (12:Int)) (
 .leaf (false,())) (
 .br (u1.1==(3:Int)) (
 .ob (Iw (u2.1,u2.2.1,u3.1,u3.2.1,u4.1,u4.2.1,u5.1,u5.2.1,u6.1,u6.2.1,u7.1,())) fun r9=>
 .br r9.1 (
 .ob (Jl (u7.2.1,u8.1,u8.2.1,u9.1,u9.2.1,u10.1,u10.2.1,u11.1,u11.2.1,u12.1,u12.2.1,u13.1,u13.2.1,u14.1,u14.2.1,())) fun r10=>
 .br r10.1 (
 .br (u7.2.1==(0:Int)) (
 .br (!u15.1) (
 .leaf ((u16.1==(decide ((a0.2.2.2.2.2.2.2.2.2.2.2.2.2.2.2.2.2.2.2.2.2.2.2.2.2.2.2.2.2.2.2.1.length:Int)>(0:Int)))),())) (
 .leaf (false,()))) (
 .leaf (false,()))) (
 .leaf (false,()))) (
 .leaf (false,()))) (
 .br (!u15.1) (
 .leaf (false,())) (
 .br u16.1 (
 .leaf (false,())) (
 .br (u17.2.1 != (0:Int)) (
 .leaf (false,())) (
 .br (u1.1==(1:Int)) (
 .ob (Iw (u2.1,u2.2.1,u3.1,u3.2.1,u4.1,u4.2.1,u5.1,u5.2.1,u6.1,u6.2.1,u7.1,())) fun r11=>
 .br r11.1 (
 .ob (M0 (u7.2.1,u8.1,u8.2.1,u9.1,u9.2.1,u10.1,u10.2.1,u11.1,u11.2.1,u12.1,u12.2.1,u13.1,u13.2.1,u14.1,u14.2.1,())) fun r12=>
 .leaf r12) (
 .leaf (false,()))) (
 .br (u1.1==(2:Int)) (
 .ob (Id (u2.1,u2.2.1,u3.1,u3.2.1,u4.1,u4.2.1,u5.1,u5.2.1,u6.1,u6.2.1,u7.1,())) fun r13=>
 .br r13.1 (
 .br (u2.1==(3:Int)) (
 .br (u2.2.1==a0.1) (
 .ob (Ow (u3.1,()) (u1.2.1,())) fun r14=>
 .br r14.1 (
 .ob (Jl (u7.2.1,u8.1,u8.2.1,u9.1,u9.2.1,u10.1,u10.2.1,u11.1,u11.2.1,u12.1,u12.2.1,u13.1,u13.2.1,u14.1,u14.2.1,())) fun r15=>
 .br r15.1 (
 .br (u7.2.1==(0:Int)) (
 .ob (Ow (u8.1,()) (u3.2.1,())) fun r16=>
 .br r16.1 (
 .br (u8.2.1==(0:Int)) (
 .br (!u13.2.1) (
 .leaf (((a0.2.2.2.2.2.2.2.2.2.2.2.2.2.2.2.2.2.2.2.2.2.2.2.2.2.2.2.2.2.2.2.1.length:Int)==(0:Int)),())) (
 .leaf (false,()))) (
 .leaf (false,()))) (
 .leaf (false,()))) (
 .leaf (false,()))) (
 .leaf (false,()))) (
 .leaf (false,()))) (
 .leaf (false,()))) (
 .leaf (false,()))) (
 .leaf (false,()))) (
 .leaf (false,())))))))))))))))
def K9 (a0:Ab):Option ((Bool×Unit)):=(Xd a0).val
def G8 (a0:YI):Tree (Bg):=
 .ob (Bd a0 ((0:Int),()) ((1000000:Int),())) fun r1=>
 .br (!r1.1) (
 .leaf (false,(0:Int),(0:Int),(0:Int),())) (
 .leaf (true,(i64.wrap (a0.1+(1:Int))),(1:Int),(1:Int),()))
def Cj (a0:YI):Option (Bg):=(G8 a0).val
def Rc (a0:Ab):Tree (Aa):=
 .chk (decide (([]:List YB).length+a0.2.2.2.2.2.1.length≤4294967296)) <|
 .leaf ((1:Int),a0.1,(([]:List YB)++a0.2.2.2.2.2.1),([]:List YB),(0:Int),([]:List YB),([]:List YB),(0:Int),(0:Int),([]:List YB),([]:List YB),())
def Mm (a0:Ab):Option (Aa):=(Rc a0).val
def Pz (a0:Ab) (a1:YI) (a2:YBs):Tree (Ab×((List Aa)×Unit)×((List Ae)×Unit)×YI):=
 .ob (Rn a0) fun r1=>letI u1:=r1.2.2;letI u2:=u1.2.2.2.2;letI u3:=u2.2.2;letI u4:=u3.2.2;letI u5:=u4.2.2;letI u6:=u5.2.2;letI u7:=u6.2.2;letI u8:=u7.2.2;letI u9:=u8.2.2;letI u10:=u9.2.2;letI u11:=u10.2.2;letI u12:=u11.2.2;letI u13:=u12.2.2;letI u14:=u13.2.2;letI u15:=u14.2.2.2.2.2.2;letI u16:=u15.2.2;
 .ob (K9 a0) fun r2=>
 .br (!r2.1) (
 .leaf (r1,(([]:List Aa),()),(([]:List Ae),()),((1:Int),()))) (
 .ob (Bd a1 ((0:Int),()) ((1000000:Int),())) fun r3=>
 .br (!r3.1) (
 .leaf (r1,(([]:List Aa),()),(([]:List Ae),()),((1:Int),()))) (
 .br ((a2.1.length:Int) != (12:Int)) (
 .leaf (r1,(([]:List Aa),()),(([]:List Ae),()),((1:Int),()))) (
 .br (a0.2.2.2.2.1 != (0:Int)) (
 .leaf (r1,(([]:List Aa),()),(([]:List Ae),()),((6:Int),()))) (
 .chk (decide (([]:List YB).length+a2.1.length≤4294967296)) <|
 .ob (Cj a1) fun r4=>
 .chk (decide (([]:List YB).length+a2.1.length≤4294967296)) <|
 .ob (Mm (r1.1,r1.2.1,u1.1,u1.2.1,(1:Int),(([]:List YB)++a2.1),u2.1,u2.2.1,u3.1,u3.2.1,u4.1,u4.2.1,u5.1,u5.2.1,u6.1,u6.2.1,u7.1,u7.2.1,u8.1,u8.2.1,u9.1,u9.2.1,u10.1,u10.2.1,u11.1,u11.2.1,u12.1,u12.2.1,u13.1,u13.2.1,u14.1,u14.2.1,r4.1,r4.2.1,r4.2.2.1,r4.2.2.2.1,u15.1,u15.2.1,u16.1,u16.2.1,u16.2.2.1,())) fun r5=>
 .leaf ((r1.1,r1.2.1,u1.1,u1.2.1,(1:Int),(([]:List YB)++a2.1),u2.1,u2.2.1,u3.1,u3.2.1,u4.1,u4.2.1,u5.1,u5.2.1,u6.1,u6.2.1,u7.1,u7.2.1,u8.1,u8.2.1,u9.1,u9.2.1,u10.1,u10.2.1,u11.1,u11.2.1,u12.1,u12.2.1,u13.1,u13.2.1,u14.1,u14.2.1,r4.1,r4.2.1,r4.2.2.1,r4.2.2.2.1,u15.1,u15.2.1,u16.1,u16.2.1,u16.2.2.1,()),([r5],()),([((1:Int),a0.1,(0:Int),(([]:List YB)++a2.1),([]:List YB),(0:Int),(0:Int),([]:List YB),([]:List YB),(0:Int),(0:Int),a1.1,())],()),((0:Int),()))))))
def Ge (a0:Ab) (a1:YI) (a2:YBs):Option (Ab×((List Aa)×Unit)×((List Ae)×Unit)×YI):=(Pz a0 a1 a2).val
def Es (a0:Bg) (a1:YI):Tree ((Bool×Unit)):=
 .ob (Kf a0) fun r1=>
 .br r1.1 (
 .br a0.1 (
 .ob (Bd a1 ((0:Int),()) ((1000000:Int),())) fun r2=>
 .br r2.1 (
 .leaf ((decide (a1.1≥a0.2.1)),())) (
 .leaf (false,()))) (
 .leaf (false,()))) (
 .leaf (false,()))
def Dm (a0:Bg) (a1:YI):Option ((Bool×Unit)):=(Es a0 a1).val
def Gc (a0:Bg) (a1:YI):Tree (Bg×YI):=
 letI u1:=a0.2.2;.ob (Dm a0 a1) fun r1=>
 .br (!r1.1) (
 .leaf (a0,((0:Int),()))) (
 .br (u1.2.1==(5:Int)) (
 .leaf ((false,(0:Int),(0:Int),(0:Int),()),((2:Int),()))) (
 .br (decide ((i64.wrap ((2:Int)*u1.1))>(8:Int))) (
 .leaf ((true,(i64.wrap (a1.1+(8:Int))),(8:Int),(i64.wrap (u1.2.1+(1:Int))),()),((1:Int),()))) (
 .leaf ((true,(i64.wrap (a1.1+(i64.wrap ((2:Int)*u1.1)))),(i64.wrap ((2:Int)*u1.1)),(i64.wrap (u1.2.1+(1:Int))),()),((1:Int),())))))
def Ce (a0:Bg) (a1:YI):Option (Bg×YI):=(Gc a0 a1).val
def S3 (a0:Aw):Tree (Aa×Aw):=
 .ob (A9 a0 ((12:Int),())) fun r1=>
 .ob (A9 (a0.1,r1.2.2.1,r1.2.2.2.1,()) ((12:Int),())) fun r2=>
 .ob (Bi (a0.1,r2.2.2.1,r2.2.2.2.1,()) ((300:Int),())) fun r3=>
 .ob (A9 (a0.1,r3.2.2.1,r3.2.2.2.1,()) ((16:Int),())) fun r4=>
 .leaf (((2:Int),(0:Int),r1.1.1,r2.1.1,r3.1.1,r4.1.1,([]:List YB),(0:Int),(0:Int),([]:List YB),([]:List YB),()),(a0.1,r4.2.2.1,r4.2.2.2.1,()))
def Tk (a0:Aw):Option (Aa×Aw):=(S3 a0).val
def Oa (x1:Int×(List YB)×Int×Unit):Option ((Int×(List YB)×Int×Unit)⊕(YBs)):=
 letI u1:=x1.2.2;Tree.val (α:=(Int×(List YB)×Int×Unit)⊕(YBs)) <|
 .br (decide (u1.1≥(0:Int))) (
 .chk (decide ((0:Int)≤(i64.wrap ((8:Int)*u1.1)))) <|
 .chk (decide (x1.2.1.length+[((u8.wrap ((i64.wrap ((BitVec.ofInt (i64.bits) ((Int.fdiv x1.1 (2^(min ((i64.wrap ((8:Int)*u1.1))).toNat i64.bits)))) &&& BitVec.ofInt (i64.bits) ((255:Int))).toNat:Nat)))),())].length≤4294967296)) <|
 .leaf (.inl (x1.1,(x1.2.1++[((u8.wrap ((i64.wrap ((BitVec.ofInt (i64.bits) ((Int.fdiv x1.1 (2^(min ((i64.wrap ((8:Int)*u1.1))).toNat i64.bits)))) &&& BitVec.ofInt (i64.bits) ((255:Int))).toNat:Nat)))),())]),(i64.wrap (u1.1-(1:Int))),()))) (
 .leaf (.inr (x1.2.1,())))
def Ao4 (a0:YBs) (a1:YI) (a2:YI):Tree (YBs):=
 .chk (decide (([]:List YB).length+a0.1.length≤4294967296)) <|
 .br (decide (a2.1<(1:Int))) (
 .leaf ((([]:List YB)++a0.1),())) (
 .br (decide (a2.1>(6:Int))) (
 .leaf ((([]:List YB)++a0.1),())) (
 .ob (Az Oa (a1.1,(([]:List YB)++a0.1),(i64.wrap (a2.1-(1:Int))),())) fun o2=>
 .leaf o2))
def Fo (a0:YBs) (a1:YI) (a2:YI):Option (YBs):=(Ao4 a0 a1 a2).val
def Ajy (x1:Int×(List YB)×Unit):Option ((Int×(List YB)×Unit)⊕((Int×(List YB)×Unit))):=
 Tree.val (α:=(Int×(List YB)×Unit)⊕((Int×(List YB)×Unit))) <|
 .chk (decide ((0:Int)≤(i64.wrap ((i64.wrap (x1.1+(x1.2.1.length:Int)))+(8:Int))))) <|
 .br (((i64.wrap ((i64.wrap (x1.1+(x1.2.1.length:Int)))+(8:Int)))%(64:Int)) != (0:Int)) (
 .chk (decide (x1.2.1.length+[((0:Int),())].length≤4294967296)) <|
 .leaf (.inl (x1.1,(x1.2.1++[((0:Int),())]),()))) (
 .leaf (.inr x1))
def Atl (a0:YI):Tree (YBs):=
 .br (decide (a0.1<(0:Int))) (
 .leaf (([]:List YB),())) (
 .br (decide (a0.1>(1048576:Int))) (
 .leaf (([]:List YB),())) (
 .ob (Az Ajy (a0.1,[((128:Int),())],())) fun o2=>
 .ob (Fo (o2.2.1,()) ((0:Int),()) ((4:Int),())) fun r3=>
 .ob (Fo r3 ((i64.wrap ((8:Int)*o2.1)),()) ((4:Int),())) fun r4=>
 .leaf r4))
def At5 (a0:YI):Option (YBs):=(Atl a0).val
def Avb:Tree (((List YI)×Unit)):=
 .leaf ([((1779033703:Int),()),((3144134277:Int),()),((1013904242:Int),()),((2773480762:Int),()),((1359893119:Int),()),((2600822924:Int),()),((528734635:Int),()),((1541459225:Int),())],())
def Avy:Option (((List YI)×Unit)):=(Avb).val
def Jz (x1:(List YI)×Int×Unit):Option (((List YI)×Int×Unit)⊕((Bool×Unit)⊕((List YI)×Unit))):=
 Tree.val (α:=((List YI)×Int×Unit)⊕((Bool×Unit)⊕((List YI)×Unit))) <|
 .br (decide (x1.2.1<(x1.1.length:Int))) (
 .ob (idx x1.1 x1.2.1) fun e2=>
 .ob (Bd e2 ((0:Int),()) ((4294967295:Int),())) fun r3=>
 .br (!r3.1) (
 .leaf (.inr (.inl (false,())))) (
 .leaf (.inl (x1.1,(i64.wrap (x1.2.1+(1:Int))),())))) (
 .leaf (.inr (.inr (x1.1,()))))
def Ab2 (a0:(List YI)×Unit):Tree ((Bool×Unit)):=
 .ob (Az Jz (a0.1,(0:Int),())) fun o4=>
 .sm o4 (fun o5=>
 .leaf o5) (fun o6=>
 .leaf (((o6.1.length:Int)==(8:Int)),()))
def Acs (a0:(List YI)×Unit):Option ((Bool×Unit)):=(Ab2 a0).val
def A2v:Tree (((List YI)×Unit)):=
 .leaf ([((1116352408:Int),()),((1899447441:Int),()),((3049323471:Int),()),((3921009573:Int),()),((961987163:Int),()),((1508970993:Int),()),((2453635748:Int),()),((2870763221:Int),()),((3624381080:Int),()),((310598401:Int),()),((607225278:Int),()),((1426881987:Int),()),((1925078388:Int),()),((2162078206:Int),()),((2614888103:Int),()),((3248222580:Int),()),((3835390401:Int),()),((4022224774:Int),()),((264347078:Int),()),((604807628:Int),()),((770255983:Int),()),((1249150122:Int),()),((1555081692:Int),()),((1996064986:Int),()),((2554220882:Int),()),((2821834349:Int),()),((2952996808:Int),()),((3210313671:Int),()),((3336571891:Int),()),((3584528711:Int),()),((113926993:Int),()),((338241895:Int),()),((666307205:Int),()),((773529912:Int),()),((1294757372:Int),()),((1396182291:Int),()),((1695183700:Int),()),((1986661051:Int),()),((2177026350:Int),()),((2456956037:Int),()),((2730485921:Int),()),((2820302411:Int),()),((3259730800:Int),()),((3345764771:Int),()),((3516065817:Int),()),((3600352804:Int),()),((4094571909:Int),()),((275423344:Int),()),((430227734:Int),()),((506948616:Int),()),((659060556:Int),()),((883997877:Int),()),((958139571:Int),()),((1322822218:Int),()),((1537002063:Int),()),((1747873779:Int),()),((1955562222:Int),()),((2024104815:Int),()),((2227730452:Int),()),((2361852424:Int),()),((2428436474:Int),()),((2756734187:Int),()),((3204031479:Int),()),((3329325298:Int),())],())
def A21:Option (((List YI)×Unit)):=(A2v).val
def Lu (x1:(List YB)×Int×Int×Int×Int×Unit):Option (((List YB)×Int×Int×Int×Int×Unit)⊕((Int×Int×Int×Unit))):=
 letI u1:=x1.2.2;Tree.val (α:=((List YB)×Int×Int×Int×Int×Unit)⊕((Int×Int×Int×Unit))) <|
 .br (decide (u1.2.2.1<u1.1)) (
 .ob (idx x1.1 (i64.wrap (x1.2.1+u1.2.2.1))) fun e2=>
 .leaf (.inl (x1.1,x1.2.1,u1.1,(i64.wrap ((i64.wrap (u1.2.1*(256:Int)))+(i64.wrap (e2.1)))),(i64.wrap (u1.2.2.1+(1:Int))),()))) (
 .leaf (.inr (x1.2.1,u1.1,u1.2.1,())))
def Ao5 (a0:YBs) (a1:YI) (a2:YI):Tree (YI×YI×(Bool×Unit)):=
 .br (decide (a2.1<(1:Int))) (
 .leaf (((0:Int),()),((0:Int),()),(false,()))) (
 .br (decide (a2.1>(6:Int))) (
 .leaf (((0:Int),()),((0:Int),()),(false,()))) (
 .br (decide (a1.1<(0:Int))) (
 .leaf (((0:Int),()),((0:Int),()),(false,()))) (
 .br (decide (a1.1>(i64.wrap ((a0.1.length:Int)-a2.1)))) (
 .leaf (((0:Int),()),((0:Int),()),(false,()))) (
 .ob (Az Lu (a0.1,a1.1,a2.1,(0:Int),(0:Int),())) fun o3=>
 .leaf ((o3.2.2.1,()),((i64.wrap (o3.1+o3.2.1)),()),(true,()))))))
def Aps (a0:YBs) (a1:YI) (a2:YI):Option (YI×YI×(Bool×Unit)):=(Ao5 a0 a1 a2).val
def Atn (a0:YI) (a1:YI):Tree (YI):=
 .br (decide (a1.1<(1:Int))) (
 .leaf ((i64.wrap ((BitVec.ofInt (i64.bits) (a0.1) &&& BitVec.ofInt (i64.bits) ((4294967295:Int))).toNat:Nat)),())) (
 .br (decide (a1.1>(31:Int))) (
 .leaf ((i64.wrap ((BitVec.ofInt (i64.bits) (a0.1) &&& BitVec.ofInt (i64.bits) ((4294967295:Int))).toNat:Nat)),())) (
 .chk (decide ((0:Int)≤a1.1)) <|
 .chk (decide ((0:Int)≤(i64.wrap ((32:Int)-a1.1)))) <|
 .leaf ((i64.wrap ((BitVec.ofInt (i64.bits) ((i64.wrap ((BitVec.ofInt (i64.bits) ((Int.fdiv (i64.wrap ((BitVec.ofInt (i64.bits) (a0.1) &&& BitVec.ofInt (i64.bits) ((4294967295:Int))).toNat:Nat)) (2^(min (a1.1).toNat i64.bits)))) ||| BitVec.ofInt (i64.bits) ((i64.wrap ((i64.wrap ((BitVec.ofInt (i64.bits) (a0.1) &&& BitVec.ofInt (i64.bits) ((4294967295:Int))).toNat:Nat))*2^(min ((i64.wrap ((32:Int)-a1.1))).toNat i64.bits))))).toNat:Nat))) &&& BitVec.ofInt (i64.bits) ((4294967295:Int))).toNat:Nat)),())))
def Hs (a0:YI) (a1:YI):Option (YI):=(Atn a0 a1).val
def Gt (x1:(List YB)×(List YI)×Int×Unit):Option (((List YB)×(List YI)×Int×Unit)⊕(((List YI)×Unit))):=
 Tree.val (α:=((List YB)×(List YI)×Int×Unit)⊕(((List YI)×Unit))) <|
 .br (decide (x1.2.2.1<(16:Int))) (
 .ob (Aps (x1.1,()) ((i64.wrap ((4:Int)*x1.2.2.1)),()) ((4:Int),())) fun r2=>
 .chk (decide (x1.2.1.length+[r2.1].length≤4294967296)) <|
 .leaf (.inl (x1.1,(x1.2.1++[r2.1]),(i64.wrap (x1.2.2.1+(1:Int))),()))) (
 .leaf (.inr (x1.2.1,())))
def F5 (x4:(List YI)×Int×Unit):Option (((List YI)×Int×Unit)⊕(((List YI)×Unit))):=
 Tree.val (α:=((List YI)×Int×Unit)⊕(((List YI)×Unit))) <|
 .br (decide (x4.2.1<(64:Int))) (
 .ob (idx x4.1 (i64.wrap (x4.2.1-(15:Int)))) fun e5=>
 .ob (idx x4.1 (i64.wrap (x4.2.1-(2:Int)))) fun e6=>
 .ob (Hs e5 ((7:Int),())) fun r7=>
 .ob (Hs e5 ((18:Int),())) fun r8=>
 .ob (Hs e6 ((17:Int),())) fun r9=>
 .ob (Hs e6 ((19:Int),())) fun r10=>
 .ob (idx x4.1 (i64.wrap (x4.2.1-(7:Int)))) fun e11=>
 .ob (idx x4.1 (i64.wrap (x4.2.1-(16:Int)))) fun e12=>
 .chk (decide (x4.1.length+[((i64.wrap ((BitVec.ofInt (i64.bits) ((i64.wrap ((i64.wrap ((i64.wrap (e11.1+e12.1))+(i64.wrap ((BitVec.ofInt (i64.bits) ((i64.wrap ((BitVec.ofInt (i64.bits) (r7.1) ^^^ BitVec.ofInt (i64.bits) (r8.1)).toNat:Nat))) ^^^ BitVec.ofInt (i64.bits) ((Int.fdiv e5.1 (2^(min ((3:Int)).toNat i64.bits))))).toNat:Nat))))+(i64.wrap ((BitVec.ofInt (i64.bits) ((i64.wrap ((BitVec.ofInt (i64.bits) (r9.1) ^^^ BitVec.ofInt (i64.bits) (r10.1)).toNat:Nat))) ^^^ BitVec.ofInt (i64.bits) ((Int.fdiv e6.1 (2^(min ((10:Int)).toNat i64.bits))))).toNat:Nat))))) &&& BitVec.ofInt (i64.bits) ((4294967295:Int))).toNat:Nat)),())].length≤4294967296)) <|
 .leaf (.inl ((x4.1++[((i64.wrap ((BitVec.ofInt (i64.bits) ((i64.wrap ((i64.wrap ((i64.wrap (e11.1+e12.1))+(i64.wrap ((BitVec.ofInt (i64.bits) ((i64.wrap ((BitVec.ofInt (i64.bits) (r7.1) ^^^ BitVec.ofInt (i64.bits) (r8.1)).toNat:Nat))) ^^^ BitVec.ofInt (i64.bits) ((Int.fdiv e5.1 (2^(min ((3:Int)).toNat i64.bits))))).toNat:Nat))))+(i64.wrap ((BitVec.ofInt (i64.bits) ((i64.wrap ((BitVec.ofInt (i64.bits) (r9.1) ^^^ BitVec.ofInt (i64.bits) (r10.1)).toNat:Nat))) ^^^ BitVec.ofInt (i64.bits) ((Int.fdiv e6.1 (2^(min ((10:Int)).toNat i64.bits))))).toNat:Nat))))) &&& BitVec.ofInt (i64.bits) ((4294967295:Int))).toNat:Nat)),())]),(i64.wrap (x4.2.1+(1:Int))),()))) (
 .leaf (.inr (x4.1,())))
def Ob (a0:YBs):Tree (((List YI)×Unit)):=
 .br ((a0.1.length:Int) != (64:Int)) (
 .leaf (([]:List YI),())) (
 .ob (Az Gt (a0.1,([]:List YI),(0:Int),())) fun o3=>
 .ob (Az F5 (o3.1,(16:Int),())) fun o13=>
 .leaf o13)
def X7 (a0:YBs):Option (((List YI)×Unit)):=(Ob a0).val
def Fl (x12:(List YI)×(List YI)×(List YI)×(List YI)×Int×Int×Int×Int×Int×Int×Int×Int×Int×Unit):Option (((List YI)×(List YI)×(List YI)×(List YI)×Int×Int×Int×Int×Int×Int×Int×Int×Int×Unit)⊕(((List YI)×(List YI)×Int×Int×Int×Int×Int×Int×Int×Int×Unit))):=
 letI u1:=x12.2.2;letI u2:=u1.2.2;letI u3:=u2.2.2;letI u4:=u3.2.2;letI u5:=u4.2.2;Tree.val (α:=((List YI)×(List YI)×(List YI)×(List YI)×Int×Int×Int×Int×Int×Int×Int×Int×Int×Unit)⊕(((List YI)×(List YI)×Int×Int×Int×Int×Int×Int×Int×Int×Unit))) <|
 .br (decide (u5.2.2.1<(64:Int))) (
 .ob (Hs (u4.1,()) ((6:Int),())) fun r13=>
 .ob (Hs (u4.1,()) ((11:Int),())) fun r14=>
 .ob (Hs (u4.1,()) ((25:Int),())) fun r15=>
 .ob (idx u1.1 u5.2.2.1) fun e16=>
 .ob (idx u1.2.1 u5.2.2.1) fun e17=>
 .ob (Hs (u2.1,()) ((2:Int),())) fun r18=>
 .ob (Hs (u2.1,()) ((13:Int),())) fun r19=>
 .ob (Hs (u2.1,()) ((22:Int),())) fun r20=>
 .leaf (.inl (x12.1,x12.2.1,u1.1,u1.2.1,(i64.wrap ((BitVec.ofInt (i64.bits) ((i64.wrap ((i64.wrap ((BitVec.ofInt (i64.bits) ((i64.wrap ((i64.wrap ((i64.wrap ((i64.wrap (u5.2.1+(i64.wrap ((BitVec.ofInt (i64.bits) ((i64.wrap ((BitVec.ofInt (i64.bits) (r13.1) ^^^ BitVec.ofInt (i64.bits) (r14.1)).toNat:Nat))) ^^^ BitVec.ofInt (i64.bits) (r15.1)).toNat:Nat))))+(i64.wrap ((BitVec.ofInt (i64.bits) ((i64.wrap ((BitVec.ofInt (i64.bits) (u4.1) &&& BitVec.ofInt (i64.bits) (u4.2.1)).toNat:Nat))) ^^^ BitVec.ofInt (i64.bits) ((i64.wrap ((BitVec.ofInt (i64.bits) ((i64.wrap ((BitVec.ofInt (i64.bits) (u4.1) ^^^ BitVec.ofInt (i64.bits) ((4294967295:Int))).toNat:Nat))) &&& BitVec.ofInt (i64.bits) (u5.1)).toNat:Nat)))).toNat:Nat))))+e16.1))+e17.1))) &&& BitVec.ofInt (i64.bits) ((4294967295:Int))).toNat:Nat))+(i64.wrap ((BitVec.ofInt (i64.bits) ((i64.wrap ((i64.wrap ((BitVec.ofInt (i64.bits) ((i64.wrap ((BitVec.ofInt (i64.bits) (r18.1) ^^^ BitVec.ofInt (i64.bits) (r19.1)).toNat:Nat))) ^^^ BitVec.ofInt (i64.bits) (r20.1)).toNat:Nat))+(i64.wrap ((BitVec.ofInt (i64.bits) ((i64.wrap ((BitVec.ofInt (i64.bits) ((i64.wrap ((BitVec.ofInt (i64.bits) (u2.1) &&& BitVec.ofInt (i64.bits) (u2.2.1)).toNat:Nat))) ^^^ BitVec.ofInt (i64.bits) ((i64.wrap ((BitVec.ofInt (i64.bits) (u2.1) &&& BitVec.ofInt (i64.bits) (u3.1)).toNat:Nat)))).toNat:Nat))) ^^^ BitVec.ofInt (i64.bits) ((i64.wrap ((BitVec.ofInt (i64.bits) (u2.2.1) &&& BitVec.ofInt (i64.bits) (u3.1)).toNat:Nat)))).toNat:Nat))))) &&& BitVec.ofInt (i64.bits) ((4294967295:Int))).toNat:Nat))))) &&& BitVec.ofInt (i64.bits) ((4294967295:Int))).toNat:Nat)),u2.1,u2.2.1,u3.1,(i64.wrap ((BitVec.ofInt (i64.bits) ((i64.wrap (u3.2.1+(i64.wrap ((BitVec.ofInt (i64.bits) ((i64.wrap ((i64.wrap ((i64.wrap ((i64.wrap (u5.2.1+(i64.wrap ((BitVec.ofInt (i64.bits) ((i64.wrap ((BitVec.ofInt (i64.bits) (r13.1) ^^^ BitVec.ofInt (i64.bits) (r14.1)).toNat:Nat))) ^^^ BitVec.ofInt (i64.bits) (r15.1)).toNat:Nat))))+(i64.wrap ((BitVec.ofInt (i64.bits) ((i64.wrap ((BitVec.ofInt (i64.bits) (u4.1) &&& BitVec.ofInt (i64.bits) (u4.2.1)).toNat:Nat))) ^^^ BitVec.ofInt (i64.bits) ((i64.wrap ((BitVec.ofInt (i64.bits) ((i64.wrap ((BitVec.ofInt (i64.bits) (u4.1) ^^^ BitVec.ofInt (i64.bits) ((4294967295:Int))).toNat:Nat))) &&& BitVec.ofInt (i64.bits) (u5.1)).toNat:Nat)))).toNat:Nat))))+e16.1))+e17.1))) &&& BitVec.ofInt (i64.bits) ((4294967295:Int))).toNat:Nat))))) &&& BitVec.ofInt (i64.bits) ((4294967295:Int))).toNat:Nat)),u4.1,u4.2.1,u5.1,(i64.wrap (u5.2.2.1+(1:Int))),()))) (
 .leaf (.inr (x12.1,x12.2.1,u2.1,u2.2.1,u3.1,u3.2.1,u4.1,u4.2.1,u5.1,u5.2.1,())))
def E7 (x22:(List YI)×(List YI)×(List YI)×Int×Unit):Option (((List YI)×(List YI)×(List YI)×Int×Unit)⊕(((List YI)×Unit))):=
 letI u1:=x22.2.2.2;Tree.val (α:=((List YI)×(List YI)×(List YI)×Int×Unit)⊕(((List YI)×Unit))) <|
 .br (decide (u1.1<(8:Int))) (
 .ob (idx x22.1 u1.1) fun e23=>
 .ob (idx x22.2.2.1 u1.1) fun e24=>
 .ob (idx x22.2.1 u1.1) fun e25=>
 let q26:=(x22.2.1.set (u1.1).toNat ((i64.wrap ((BitVec.ofInt (i64.bits) ((i64.wrap (e23.1+e24.1))) &&& BitVec.ofInt (i64.bits) ((4294967295:Int))).toNat:Nat)),()))
 .leaf (.inl (x22.1,q26,x22.2.2.1,(i64.wrap (u1.1+(1:Int))),()))) (
 .leaf (.inr (x22.2.1,())))
def Oc (a0:(List YI)×Unit) (a1:YBs):Tree (((List YI)×Unit)):=
 .chk (decide (([]:List YI).length+a0.1.length≤4294967296)) <|
 .ob (Acs a0) fun r1=>
 .br (!r1.1) (
 .leaf ((([]:List YI)++a0.1),())) (
 .br ((a1.1.length:Int) != (64:Int)) (
 .leaf ((([]:List YI)++a0.1),())) (
 .ob A21 fun r2=>
 .ob (X7 a1) fun r3=>
 .ob (idx a0.1 (0:Int)) fun e4=>
 .ob (idx a0.1 (1:Int)) fun e5=>
 .ob (idx a0.1 (2:Int)) fun e6=>
 .ob (idx a0.1 (3:Int)) fun e7=>
 .ob (idx a0.1 (4:Int)) fun e8=>
 .ob (idx a0.1 (5:Int)) fun e9=>
 .ob (idx a0.1 (6:Int)) fun e10=>
 .ob (idx a0.1 (7:Int)) fun e11=>
 .ob (Az Fl (a0.1,(([]:List YI)++a0.1),r2.1,r3.1,e4.1,e5.1,e6.1,e7.1,e8.1,e9.1,e10.1,e11.1,(0:Int),())) fun o21=>letI u1:=o21.2.2.2;letI u2:=u1.2.2.2;
 .ob (Az E7 (o21.1,o21.2.1,[(o21.2.2.1,()),(u1.1,()),(u1.2.1,()),(u1.2.2.1,()),(u2.1,()),(u2.2.1,()),(u2.2.2.1,()),(u2.2.2.2.1,())],(0:Int),())) fun o27=>
 .leaf o27))
def Ox (a0:(List YI)×Unit) (a1:YBs):Option (((List YI)×Unit)):=(Oc a0 a1).val
def J9 (x1:Jk):Option (Jk⊕(YBs)):=
 Tree.val (α:=Jk⊕(YBs)) <|
 .br (decide (x1.2.2.1<(8:Int))) (
 .ob (idx x1.1 x1.2.2.1) fun e2=>
 .ob (Fo (x1.2.1,()) e2 ((4:Int),())) fun r3=>
 .leaf (.inl (x1.1,r3.1,(i64.wrap (x1.2.2.1+(1:Int))),()))) (
 .leaf (.inr (x1.2.1,())))
def Aj1 (a0:(List YI)×Unit):Tree (YBs):=
 .ob (Az J9 (a0.1,([]:List YB),(0:Int),())) fun o4=>
 .leaf o4
def Ak6 (a0:(List YI)×Unit):Option (YBs):=(Aj1 a0).val
def Np (x3:(List YB)×(List YI)×Int×Unit):Option (((List YB)×(List YI)×Int×Unit)⊕(((List YI)×Unit))):=
 letI u1:=x3.2.2;Tree.val (α:=((List YB)×(List YI)×Int×Unit)⊕(((List YI)×Unit))) <|
 .br (decide (u1.1<(x3.1.length:Int))) (
 .chk (decide ((0:Int)≤u1.1)) <|
 .chk (decide (u1.1≤(i64.wrap (u1.1+(64:Int))))) <|
 .chk (decide ((i64.wrap (u1.1+(64:Int)))≤(x3.1.length:Int))) <|
 .ob (Ox (x3.2.1,()) (((x3.1.take ((i64.wrap (u1.1+(64:Int)))).toNat).drop (u1.1).toNat),())) fun r4=>
 .leaf (.inl (x3.1,r4.1,(i64.wrap (u1.1+(64:Int))),()))) (
 .leaf (.inr (x3.2.1,())))
def Atp (a0:YBs):Tree (YBs):=
 .br (decide ((a0.1.length:Int)>(1048576:Int))) (
 .leaf (([]:List YB),())) (
 .chk (decide (([]:List YB).length+a0.1.length≤4294967296)) <|
 .ob (At5 ((a0.1.length:Int),())) fun r1=>
 .chk (decide ((([]:List YB)++a0.1).length+r1.1.length≤4294967296)) <|
 .ob Avy fun r2=>
 .ob (Az Np (((([]:List YB)++a0.1)++r1.1),r2.1,(0:Int),())) fun o5=>
 .ob (Ak6 o5) fun r6=>
 .leaf r6)
def Aej (a0:YBs):Option (YBs):=(Atp a0).val
def Lv (x2:YBs):Option (YBs⊕(YBs)):=
 Tree.val (α:=YBs⊕(YBs)) <|
 .br (decide ((x2.1.length:Int)<(64:Int))) (
 .chk (decide (x2.1.length+[((0:Int),())].length≤4294967296)) <|
 .leaf (.inl ((x2.1++[((0:Int),())]),()))) (
 .leaf (.inr x2))
def Xg (a0:YBs):Tree (YBs):=
 .br (decide ((a0.1.length:Int)>(1048576:Int))) (
 .leaf (([]:List YB),())) (
 .chk (decide (([]:List YB).length+a0.1.length≤4294967296)) <|
 .br (decide ((a0.1.length:Int)>(64:Int))) (
 .ob (Aej a0) fun r1=>
 .ob (Az Lv r1) fun o3=>
 .leaf o3) (
 .ob (Az Lv ((([]:List YB)++a0.1),())) fun o4=>
 .leaf o4))
def X8 (a0:YBs):Option (YBs):=(Xg a0).val
def Lw (x2:(List YB)×(List YB)×(List YB)×(List YB)×Int×Unit):Option (((List YB)×(List YB)×(List YB)×(List YB)×Int×Unit)⊕(((List YB)×(List YB)×(List YB)×Unit))):=
 letI u1:=x2.2.2.2;Tree.val (α:=((List YB)×(List YB)×(List YB)×(List YB)×Int×Unit)⊕(((List YB)×(List YB)×(List YB)×Unit))) <|
 .br (decide (u1.2.1<(64:Int))) (
 .ob (idx x2.2.1 u1.2.1) fun e3=>
 .chk (decide (x2.2.2.1.length+[((u8.wrap ((BitVec.ofInt (u8.bits) (e3.1) ^^^ BitVec.ofInt (u8.bits) ((54:Int))).toNat:Nat)),())].length≤4294967296)) <|
 .ob (idx x2.2.1 u1.2.1) fun e4=>
 .chk (decide (x2.2.2.2.1.length+[((u8.wrap ((BitVec.ofInt (u8.bits) (e4.1) ^^^ BitVec.ofInt (u8.bits) ((92:Int))).toNat:Nat)),())].length≤4294967296)) <|
 .leaf (.inl (x2.1,x2.2.1,(x2.2.2.1++[((u8.wrap ((BitVec.ofInt (u8.bits) (e3.1) ^^^ BitVec.ofInt (u8.bits) ((54:Int))).toNat:Nat)),())]),(u1.1++[((u8.wrap ((BitVec.ofInt (u8.bits) (e4.1) ^^^ BitVec.ofInt (u8.bits) ((92:Int))).toNat:Nat)),())]),(i64.wrap (u1.2.1+(1:Int))),()))) (
 .leaf (.inr (x2.1,x2.2.2.1,u1.1,())))
def Ao8 (a0:YBs) (a1:YBs):Tree (YBs):=
 .br (decide ((a0.1.length:Int)>(1048576:Int))) (
 .leaf (([]:List YB),())) (
 .br (decide ((a1.1.length:Int)>(1048512:Int))) (
 .leaf (([]:List YB),())) (
 .ob (X8 a0) fun r1=>
 .ob (Az Lw (a1.1,r1.1,([]:List YB),([]:List YB),(0:Int),())) fun o5=>
 .chk (decide (o5.2.1.length+o5.1.length≤4294967296)) <|
 .ob (Aej ((o5.2.1++o5.1),())) fun r6=>
 .chk (decide (o5.2.2.1.length+r6.1.length≤4294967296)) <|
 .ob (Aej ((o5.2.2.1++r6.1),())) fun r7=>
 .leaf r7))
def Qg (a0:YBs) (a1:YBs):Option (YBs):=(Ao8 a0 a1).val
def Rd (a0:YBs) (a1:YBs):Tree (YBs):=
 .ob (Qg a0 a1) fun r1=>
 .leaf r1
def Ro (a0:YBs) (a1:YBs):Option (YBs):=(Rd a0 a1).val
def Ij (x2:(List YB)×(List YB)×Int×(List YB)×(List YB)×Int×Unit):Option (((List YB)×(List YB)×Int×(List YB)×(List YB)×Int×Unit)⊕((Int×(List YB)×Unit))):=
 letI u1:=x2.2.2;letI u2:=u1.2.2;Tree.val (α:=((List YB)×(List YB)×Int×(List YB)×(List YB)×Int×Unit)⊕((Int×(List YB)×Unit))) <|
 .br (decide ((x2.2.2.2.1.length:Int)<u1.1)) (
 .chk (decide (([]:List YB).length+x2.2.2.2.2.1.length≤4294967296)) <|
 .chk (decide ((([]:List YB)++u2.1).length+x2.2.1.length≤4294967296)) <|
 .chk (decide (((([]:List YB)++u2.1)++x2.2.1).length+[((u8.wrap (u2.2.1)),())].length≤4294967296)) <|
 .ob (Qg (x2.1,()) ((((([]:List YB)++u2.1)++x2.2.1)++[((u8.wrap (u2.2.1)),())]),())) fun r3=>
 .chk (decide (x2.2.2.2.1.length+r3.1.length≤4294967296)) <|
 .leaf (.inl (x2.1,x2.2.1,u1.1,(u1.2.1++r3.1),r3.1,(i64.wrap (u2.2.1+(1:Int))),()))) (
 .leaf (.inr (u1.1,u1.2.1,())))
def Afo (a0:YBs) (a1:YBs) (a2:YI):Tree (YBs×(Bool×Unit)):=
 .ob (Bd a2 ((0:Int),()) ((8160:Int),())) fun r1=>
 .br (!r1.1) (
 .leaf ((([]:List YB),()),(false,()))) (
 .br (decide ((a1.1.length:Int)>(100:Int))) (
 .leaf ((([]:List YB),()),(false,()))) (
 .br (decide ((a0.1.length:Int)>(1048576:Int))) (
 .leaf ((([]:List YB),()),(false,()))) (
 .ob (Az Ij (a0.1,a1.1,a2.1,([]:List YB),([]:List YB),(1:Int),())) fun o4=>
 .chk (decide ((0:Int)≤o4.1)) <|
 .chk (decide (o4.1≤(o4.2.1.length:Int))) <|
 .chk (decide (([]:List YB).length+((o4.2.1.take (o4.1).toNat).drop ((0:Int)).toNat).length≤4294967296)) <|
 .leaf (((([]:List YB)++((o4.2.1.take (o4.1).toNat).drop ((0:Int)).toNat)),()),(true,())))))
def Ag2 (a0:YBs) (a1:YBs) (a2:YI):Option (YBs×(Bool×Unit)):=(Afo a0 a1 a2).val
def Afp (a0:YBs) (a1:ByteArray×Unit):Tree (YBs):=
 .chk (decide (a1.1.size≤4294967296)) <|
 .ob (Ag2 a0 ((Oy a1.1),()) ((32:Int),())) fun r1=>
 .leaf r1.1
def Cm (a0:YBs) (a1:ByteArray×Unit):Option (YBs):=(Afp a0 a1).val
def S5 (a0:YBs):Tree (YBs):=
 .ob (K8 a0) fun r1=>
 .br (!r1.1) (
 .leaf (([]:List YB),())) (
 .ob (Ro ([((114:Int),()),((111:Int),()),((97:Int),()),((109:Int),())],()) a0) fun r2=>
 .ob (Cm r2 ((Ci [102,105,110,105,115,104]),())) fun r3=>
 .leaf r3)
def M4 (a0:YBs):Option (YBs):=(S5 a0).val
def S7 (a0:YI) (a1:YBs) (a2:YBs) (a3:YI) (a4:YBs):Tree (YBs):=
 .ob (Bd a0 ((1:Int),()) ((9:Int),())) fun r1=>
 .br (!r1.1) (
 .leaf (([]:List YB),())) (
 .br ((a1.1.length:Int) != (12:Int)) (
 .leaf (([]:List YB),())) (
 .br ((a2.1.length:Int) != (12:Int)) (
 .leaf (([]:List YB),())) (
 .ob (Bd a3 ((0:Int),()) ((1000000:Int),())) fun r2=>
 .br (!r2.1) (
 .leaf (([]:List YB),())) (
 .br ((a4.1.length:Int) != (16:Int)) (
 .leaf (([]:List YB),())) (
 .chk (decide ([((102:Int),()),((u8.wrap (a0.1)),())].length+a1.1.length≤4294967296)) <|
 .chk (decide (([((102:Int),()),((u8.wrap (a0.1)),())]++a1.1).length+a2.1.length≤4294967296)) <|
 .ob (Fo ((([((102:Int),()),((u8.wrap (a0.1)),())]++a1.1)++a2.1),()) a3 ((4:Int),())) fun r3=>
 .chk (decide (r3.1.length+a4.1.length≤4294967296)) <|
 .leaf ((r3.1++a4.1),()))))))
def J1 (a0:YI) (a1:YBs) (a2:YBs) (a3:YI) (a4:YBs):Option (YBs):=(S7 a0 a1 a2 a3 a4).val
def Atq (a0:YBs) (a1:YBs):Tree (YBs):=
 .ob (Qg a0 a1) fun r1=>
 .br (decide ((r1.1.length:Int)<(16:Int))) (
 .leaf (([]:List YB),())) (
 .chk (decide ((16:Int)≤(r1.1.length:Int))) <|
 .chk (decide (([]:List YB).length+((r1.1.take ((16:Int)).toNat).drop ((0:Int)).toNat).length≤4294967296)) <|
 .leaf ((([]:List YB)++((r1.1.take ((16:Int)).toNat).drop ((0:Int)).toNat)),()))
def Aek (a0:YBs) (a1:YBs):Option (YBs):=(Atq a0 a1).val
def Aj4 (a0:YBs) (a1:YI) (a2:YBs) (a3:YBs) (a4:YI) (a5:YBs):Tree (YBs):=
 .ob (M4 a0) fun r1=>
 .ob (J1 a1 a2 a3 a4 a5) fun r2=>
 .br ((r1.1.length:Int)==(0:Int)) (
 .leaf (([]:List YB),())) (
 .br ((r2.1.length:Int)==(0:Int)) (
 .leaf (([]:List YB),())) (
 .ob (Aek r1 r2) fun r3=>
 .leaf r3))
def Ak7 (a0:YBs) (a1:YI) (a2:YBs) (a3:YBs) (a4:YI) (a5:YBs):Option (YBs):=(Aj4 a0 a1 a2 a3 a4 a5).val
def Xi (a0:YBs) (a1:YI) (a2:Aa):Tree (Aa×(Bool×Unit)):=
 .ob (Id a2) fun r1=>
 .br (!r1.1) (
 .leaf (((0:Int),(0:Int),([]:List YB),([]:List YB),(0:Int),([]:List YB),([]:List YB),(0:Int),(0:Int),([]:List YB),([]:List YB),()),(false,()))) (
 .br (a2.1 != (2:Int)) (
 .leaf (((0:Int),(0:Int),([]:List YB),([]:List YB),(0:Int),([]:List YB),([]:List YB),(0:Int),(0:Int),([]:List YB),([]:List YB),()),(false,()))) (
 .ob (Ak7 a0 a1 (a2.2.2.1,()) (a2.2.2.2.1,()) (a2.2.2.2.2.1,()) (a2.2.2.2.2.2.1,())) fun r2=>
 .br ((r2.1.length:Int)==(0:Int)) (
 .leaf (((0:Int),(0:Int),([]:List YB),([]:List YB),(0:Int),([]:List YB),([]:List YB),(0:Int),(0:Int),([]:List YB),([]:List YB),()),(false,()))) (
 .ob (Ou a2) fun r3=>letI u1:=r3.2.2.2;letI u2:=u1.2.2.2.2;
 .leaf (((3:Int),a1.1,r3.2.2.1,u1.1,u1.2.1,u1.2.2.1,r2.1,u2.1,u2.2.1,u2.2.2.1,u2.2.2.2.1,()),(true,())))))
def X9 (a0:YBs) (a1:YI) (a2:Aa):Option (Aa×(Bool×Unit)):=(Xi a0 a1 a2).val
def Ab4 (a0:YBs) (a1:YBs) (a2:YBs):Tree (YBs):=
 .ob (K8 a0) fun r1=>
 .br (!r1.1) (
 .leaf (([]:List YB),())) (
 .br ((a1.1.length:Int) != (12:Int)) (
 .leaf (([]:List YB),())) (
 .br ((a2.1.length:Int) != (12:Int)) (
 .leaf (([]:List YB),())) (
 .chk (decide (([]:List YB).length+a1.1.length≤4294967296)) <|
 .chk (decide ((([]:List YB)++a1.1).length+a2.1.length≤4294967296)) <|
 .ob (Ro (((([]:List YB)++a1.1)++a2.1),()) a0) fun r2=>
 .leaf r2)))
def Acu (a0:YBs) (a1:YBs) (a2:YBs):Option (YBs):=(Ab4 a0 a1 a2).val
def Xj (a0:YBs):Tree (YBs):=
 .br ((a0.1.length:Int) != (32:Int)) (
 .leaf (([]:List YB),())) (
 .ob (Cm a0 ((Ci [101,112,111,99,104]),())) fun r1=>
 .leaf r1)
def Za (a0:YBs):Option (YBs):=(Xj a0).val
def Ka (x2:Int×(List YB)×Int×Unit):Option ((Int×(List YB)×Int×Unit)⊕(YBs)):=
 Tree.val (α:=(Int×(List YB)×Int×Unit)⊕(YBs)) <|
 .br (decide (x2.2.2.1<x2.1)) (
 .ob (Cm (x2.2.1,()) ((Ci [114,101,107,101,121]),())) fun r3=>
 .leaf (.inl (x2.1,r3.1,(i64.wrap (x2.2.2.1+(1:Int))),()))) (
 .leaf (.inr (x2.2.1,())))
def Aj7 (a0:YBs) (a1:YI):Tree (YBs):=
 .ob (Bd a1 ((0:Int),()) ((64:Int),())) fun r1=>
 .br (!r1.1) (
 .leaf (([]:List YB),())) (
 .chk (decide (([]:List YB).length+a0.1.length≤4294967296)) <|
 .ob (Az Ka (a1.1,(([]:List YB)++a0.1),(0:Int),())) fun o4=>
 .leaf o4)
def Ak8 (a0:YBs) (a1:YI):Option (YBs):=(Aj7 a0 a1).val
def Xk (a0:YBs) (a1:YBs) (a2:YBs) (a3:YI):Tree (YBs):=
 .ob (Acu a0 a1 a2) fun r1=>
 .ob (Za r1) fun r2=>
 .br ((r2.1.length:Int)==(0:Int)) (
 .leaf r2) (
 .ob (Ak8 r2 a3) fun r3=>
 .leaf r3)
def Zb (a0:YBs) (a1:YBs) (a2:YBs) (a3:YI):Option (YBs):=(Xk a0 a1 a2 a3).val
def Ik (x1:Int×Int×(List YI)×Int×(List YI)×Unit):Option ((Int×Int×(List YI)×Int×(List YI)×Unit)⊕((Int×(List YI)×Int×(List YI)×Unit))):=
 letI u1:=x1.2.2;Tree.val (α:=(Int×Int×(List YI)×Int×(List YI)×Unit)⊕((Int×(List YI)×Int×(List YI)×Unit))) <|
 .br (decide (x1.1<(32:Int))) (
 .chk (decide (x1.2.2.2.2.1.length+[((0:Int),())].length≤4294967296)) <|
 .leaf (.inl ((i64.wrap (x1.1+(1:Int))),x1.2.1,u1.1,u1.2.1,(u1.2.2.1++[((0:Int),())]),()))) (
 .leaf (.inr (x1.2.1,u1.1,u1.2.1,u1.2.2.1,())))
def Afr:Tree (Bp):=
 .ob (Az Ik ((0:Int),(0:Int),([]:List YI),(-1:Int),([]:List YI),())) fun o2=>
 .leaf (o2.2.2.1,o2.2.2.2.1,())
def Wl:Option (Bp):=(Afr).val
def R5 (a0:YI) (a1:YBs):Tree (YEp):=
 .ob (Bd a0 ((0:Int),()) ((4294967295:Int),())) fun r1=>
 .br (!r1.1) (
 .leaf ((0:Int),([]:List YB),(0:Int),(0:Int),([]:List YI),())) (
 .br ((a1.1.length:Int) != (32:Int)) (
 .leaf ((0:Int),([]:List YB),(0:Int),(0:Int),([]:List YI),())) (
 .chk (decide (([]:List YB).length+a1.1.length≤4294967296)) <|
 .ob Wl fun r2=>
 .leaf (a0.1,(([]:List YB)++a1.1),(0:Int),r2.1,r2.2.1,())))
def Fe (a0:YI) (a1:YBs):Option (YEp):=(R5 a0 a1).val
def Rf (a0:YI) (a1:YBs) (a2:YBs):Tree (Af):=
 .ob (Bd a0 ((0:Int),()) ((1:Int),())) fun r1=>
 .br (!r1.1) (
 .leaf ((0:Int),([]:List YB),(0:Int),([]:List YB),(0:Int),(0:Int),([]:List YI),(0:Int),([]:List YB),(0:Int),(0:Int),([]:List YI),false,(0:Int),([]:List YB),())) (
 .br ((a1.1.length:Int) != (12:Int)) (
 .leaf ((0:Int),([]:List YB),(0:Int),([]:List YB),(0:Int),(0:Int),([]:List YI),(0:Int),([]:List YB),(0:Int),(0:Int),([]:List YI),false,(0:Int),([]:List YB),())) (
 .br ((a2.1.length:Int) != (32:Int)) (
 .leaf ((0:Int),([]:List YB),(0:Int),([]:List YB),(0:Int),(0:Int),([]:List YI),(0:Int),([]:List YB),(0:Int),(0:Int),([]:List YI),false,(0:Int),([]:List YB),())) (
 .chk (decide (([]:List YB).length+a1.1.length≤4294967296)) <|
 .ob (Fe ((0:Int),()) a2) fun r2=>
 .leaf (a0.1,(([]:List YB)++a1.1),r2.1,r2.2.1,r2.2.2.1,r2.2.2.2.1,r2.2.2.2.2.1,(0:Int),([]:List YB),(0:Int),(0:Int),([]:List YI),false,(0:Int),([]:List YB),()))))
def Kg (a0:YI) (a1:YBs) (a2:YBs):Option (Af):=(Rf a0 a1 a2).val
def Apb (a0:YBs) (a1:YBs):Tree (Ae):=
 .chk (decide (([]:List YB).length+a0.1.length≤4294967296)) <|
 .chk (decide (([]:List YB).length+a1.1.length≤4294967296)) <|
 .leaf ((15:Int),(0:Int),(0:Int),([]:List YB),([]:List YB),(0:Int),(0:Int),(([]:List YB)++a1.1),(([]:List YB)++a0.1),(0:Int),(0:Int),(0:Int),())
def Ag3 (a0:YBs) (a1:YBs):Option (Ae):=(Apb a0 a1).val
def Afs (a0:YI) (a1:YBs) (a2:YI) (a3:YI):Tree (YBs):=
 .ob (Bd a0 ((0:Int),()) ((1:Int),())) fun r1=>
 .br (!r1.1) (
 .leaf (([]:List YB),())) (
 .br ((a1.1.length:Int) != (12:Int)) (
 .leaf (([]:List YB),())) (
 .ob (Bd a2 ((0:Int),()) ((4294967295:Int),())) fun r2=>
 .br (!r2.1) (
 .leaf (([]:List YB),())) (
 .ob (Bd a3 ((0:Int),()) ((281474976710655:Int),())) fun r3=>
 .br (!r3.1) (
 .leaf (([]:List YB),())) (
 .chk (decide ([((u8.wrap (a0.1)),())].length+a1.1.length≤4294967296)) <|
 .ob (Fo (([((u8.wrap (a0.1)),())]++a1.1),()) a2 ((4:Int),())) fun r4=>
 .ob (Fo r4 a3 ((6:Int),())) fun r5=>
 .leaf r5))))
def L3 (a0:YI) (a1:YBs) (a2:YI) (a3:YI):Option (YBs):=(Afs a0 a1 a2 a3).val
def Xl (a0:YI) (a1:Aa):Tree (YBs):=
 letI u1:=a1.2.2.2.2.2.2.2;.ob (Bd a0 ((0:Int),()) ((1:Int),())) fun r1=>
 .br (!r1.1) (
 .leaf (([]:List YB),())) (
 .ob (Id a1) fun r2=>
 .br (!r2.1) (
 .leaf (([]:List YB),())) (
 .ob (Hx (a1.1,())) fun r3=>
 .br (!r3.1) (
 .leaf (([]:List YB),())) (
 .ob (L3 a0 (a1.2.2.2.1,()) (u1.1,()) (u1.2.1,())) fun r4=>
 .chk (decide ([((116:Int),())].length+r4.1.length≤4294967296)) <|
 .chk (decide (([((116:Int),())]++r4.1).length+[((u8.wrap (a1.1)),())].length≤4294967296)) <|
 .chk (decide ((([((116:Int),())]++r4.1)++[((u8.wrap (a1.1)),())]).length+a1.2.2.2.2.2.2.2.2.2.1.length≤4294967296)) <|
 .leaf (((([((116:Int),())]++r4.1)++[((u8.wrap (a1.1)),())])++u1.2.2.1),()))))
def Ha (a0:YI) (a1:Aa):Option (YBs):=(Xl a0 a1).val
def Ab6 (a0:YI):Tree (YI):=
 .br (decide (a0.1<(1024:Int))) (
 .leaf ((0:Int),())) (
 .leaf ((i64.wrap ((i64.wrap (a0.1-(1024:Int)))+(1:Int))),()))
def An9 (a0:YI):Option (YI):=(Ab6 a0).val
def Afu (a0:Bp) (a1:YI):Tree ((Bool×Unit)):=
 .ob (Aau a0) fun r1=>
 .br (!r1.1) (
 .leaf (false,())) (
 .ob (Bd a1 ((0:Int),()) ((281474976710655:Int),())) fun r2=>
 .br (!r2.1) (
 .leaf (false,())) (
 .br (decide (a1.1>a0.1)) (
 .leaf (true,())) (
 .ob (An9 (a0.1,())) fun r3=>
 .br (decide (a1.1≥r3.1)) (
 .ob (R8 a0 a1) fun r4=>
 .leaf ((!r4.1),())) (
 .leaf (false,())))))
def Wm (a0:Bp) (a1:YI):Option ((Bool×Unit)):=(Afu a0 a1).val
def Of (x1:(List YB)×(List YB)×Int×Int×Unit):Option (((List YB)×(List YB)×Int×Int×Unit)⊕(YI)):=
 letI u1:=x1.2.2;Tree.val (α:=((List YB)×(List YB)×Int×Int×Unit)⊕(YI)) <|
 .br (decide (u1.2.1<(x1.1.length:Int))) (
 .ob (idx x1.1 u1.2.1) fun e2=>
 .ob (idx x1.2.1 u1.2.1) fun e3=>
 .leaf (.inl (x1.1,x1.2.1,(i64.wrap ((BitVec.ofInt (i64.bits) (u1.1) ||| BitVec.ofInt (i64.bits) ((i64.wrap ((u8.wrap ((BitVec.ofInt (u8.bits) (e2.1) ^^^ BitVec.ofInt (u8.bits) (e3.1)).toNat:Nat)))))).toNat:Nat)),(i64.wrap (u1.2.1+(1:Int))),()))) (
 .leaf (.inr (u1.1,())))
def Apc (a0:YBs) (a1:YBs):Tree (YI):=
 .br ((a0.1.length:Int) != (a1.1.length:Int)) (
 .leaf ((-1:Int),())) (
 .ob (Az Of (a0.1,a1.1,(0:Int),(0:Int),())) fun o4=>
 .leaf o4)
def Apt (a0:YBs) (a1:YBs):Option (YI):=(Apc a0 a1).val
def Ab7 (a0:YBs) (a1:YBs):Tree ((Bool×Unit)):=
 .br ((a0.1.length:Int)==(16:Int)) (
 .ob (Apt a0 a1) fun r1=>
 .leaf ((r1.1==(0:Int)),())) (
 .leaf (false,()))
def Acv (a0:YBs) (a1:YBs):Option ((Bool×Unit)):=(Ab7 a0 a1).val
def Ab8 (a0:YBs) (a1:YBs) (a2:YI):Tree (YBs):=
 .ob (Bd a2 ((0:Int),()) ((6:Int),())) fun r1=>
 .br (!r1.1) (
 .leaf (([]:List YB),())) (
 .br (decide ((a1.1.length:Int)>(100:Int))) (
 .leaf (([]:List YB),())) (
 .chk (decide ([((115:Int),())].length+a1.1.length≤4294967296)) <|
 .ob (Fo (([((115:Int),())]++a1.1),()) a2 ((4:Int),())) fun r2=>
 .ob (Qg a0 r2) fun r3=>
 .leaf r3))
def Acw (a0:YBs) (a1:YBs) (a2:YI):Option (YBs):=(Ab8 a0 a1 a2).val
def Im (x2:(List YB)×(List YB)×Int×(List YB)×Int×Unit):Option (((List YB)×(List YB)×Int×(List YB)×Int×Unit)⊕((Int×(List YB)×Unit))):=
 letI u1:=x2.2.2;Tree.val (α:=((List YB)×(List YB)×Int×(List YB)×Int×Unit)⊕((Int×(List YB)×Unit))) <|
 .br (decide ((x2.2.2.2.1.length:Int)<u1.1)) (
 .ob (Acw (x2.1,()) (x2.2.1,()) (u1.2.2.1,())) fun r3=>
 .chk (decide (x2.2.2.2.1.length+r3.1.length≤4294967296)) <|
 .leaf (.inl (x2.1,x2.2.1,u1.1,(u1.2.1++r3.1),(i64.wrap (u1.2.2.1+(1:Int))),()))) (
 .leaf (.inr (u1.1,u1.2.1,())))
def Afv (a0:YBs) (a1:YBs) (a2:YI):Tree (YBs):=
 .ob (Bd a2 ((0:Int),()) ((200:Int),())) fun r1=>
 .br (!r1.1) (
 .leaf (([]:List YB),())) (
 .br (decide ((a1.1.length:Int)>(100:Int))) (
 .leaf (([]:List YB),())) (
 .br (decide ((a0.1.length:Int)>(1048576:Int))) (
 .leaf (([]:List YB),())) (
 .ob (Az Im (a0.1,a1.1,a2.1,([]:List YB),(0:Int),())) fun o4=>
 .chk (decide ((0:Int)≤o4.1)) <|
 .chk (decide (o4.1≤(o4.2.1.length:Int))) <|
 .chk (decide (([]:List YB).length+((o4.2.1.take (o4.1).toNat).drop ((0:Int)).toNat).length≤4294967296)) <|
 .leaf ((([]:List YB)++((o4.2.1.take (o4.1).toNat).drop ((0:Int)).toNat)),()))))
def Ag4 (a0:YBs) (a1:YBs) (a2:YI):Option (YBs):=(Afv a0 a1 a2).val
def Nq (x2:(List YB)×(List YB)×(List YB)×Int×Unit):Option (((List YB)×(List YB)×(List YB)×Int×Unit)⊕(YBs)):=
 letI u1:=x2.2.2;Tree.val (α:=((List YB)×(List YB)×(List YB)×Int×Unit)⊕(YBs)) <|
 .br (decide (u1.2.1<(x2.1.length:Int))) (
 .ob (idx x2.1 u1.2.1) fun e3=>
 .ob (idx u1.1 u1.2.1) fun e4=>
 .chk (decide (x2.2.1.length+[((u8.wrap ((BitVec.ofInt (u8.bits) (e3.1) ^^^ BitVec.ofInt (u8.bits) (e4.1)).toNat:Nat)),())].length≤4294967296)) <|
 .leaf (.inl (x2.1,(x2.2.1++[((u8.wrap ((BitVec.ofInt (u8.bits) (e3.1) ^^^ BitVec.ofInt (u8.bits) (e4.1)).toNat:Nat)),())]),u1.1,(i64.wrap (u1.2.1+(1:Int))),()))) (
 .leaf (.inr (x2.2.1,())))
def Ats (a0:YBs) (a1:YBs) (a2:YBs):Tree (YBs):=
 .br (decide ((a2.1.length:Int)>(200:Int))) (
 .leaf (([]:List YB),())) (
 .br (decide ((a1.1.length:Int)>(100:Int))) (
 .leaf (([]:List YB),())) (
 .br (decide ((a0.1.length:Int)>(1048576:Int))) (
 .leaf (([]:List YB),())) (
 .ob (Ag4 a0 a1 ((a2.1.length:Int),())) fun r1=>
 .ob (Az Nq (a2.1,([]:List YB),r1.1,(0:Int),())) fun o5=>
 .leaf o5)))
def Ams (a0:YBs) (a1:YBs) (a2:YBs):Option (YBs):=(Ats a0 a1 a2).val
def Afw (a0:YBs) (a1:YI) (a2:Aa):Tree (YBs×(Bool×Unit)):=
 letI u1:=a2.2.2.2.2.2.2.2;.ob (Ha a1 a2) fun r1=>
 .br ((a0.1.length:Int) != (32:Int)) (
 .leaf ((([]:List YB),()),(false,()))) (
 .br ((r1.1.length:Int)==(0:Int)) (
 .leaf ((([]:List YB),()),(false,()))) (
 .ob (Aek a0 r1) fun r2=>
 .ob (Acv (u1.2.2.2.1,()) r2) fun r3=>
 .br (!r3.1) (
 .leaf ((([]:List YB),()),(false,()))) (
 .ob (L3 a1 (a2.2.2.2.1,()) (u1.1,()) (u1.2.1,())) fun r4=>
 .ob (Ams a0 r4 (u1.2.2.1,())) fun r5=>
 .leaf (r5,(true,())))))
def Ag5 (a0:YBs) (a1:YI) (a2:Aa):Option (YBs×(Bool×Unit)):=(Afw a0 a1 a2).val
def Ip (x3:Int×Int×Int×Int×(List YI)×Int×(List YI)×Int×(List YI)×Unit):Option ((Int×Int×Int×Int×(List YI)×Int×(List YI)×Int×(List YI)×Unit)⊕((Int×Int×(List YI)×Int×(List YI)×Int×(List YI)×Unit))):=
 letI u1:=x3.2.2;letI u2:=u1.2.2;letI u3:=u2.2.2;Tree.val (α:=(Int×Int×Int×Int×(List YI)×Int×(List YI)×Int×(List YI)×Unit)⊕((Int×Int×(List YI)×Int×(List YI)×Int×(List YI)×Unit))) <|
 .br (decide (u1.1≤x3.1)) (
 .br (decide (x3.2.1<(1024:Int))) (
 .chk (decide ((0:Int)≤u1.1)) <|
 .chk (decide ((0:Int)≤(u1.1%(1024:Int)))) <|
 .chk (decide ((0:Int)≤(u1.1%(1024:Int)))) <|
 .ob (idx u3.2.2.1 ((u1.1%(1024:Int))/(32:Int))) fun e4=>
 .chk (decide ((0:Int)≤(u1.1%(1024:Int)))) <|
 .chk (decide ((0:Int)≤((u1.1%(1024:Int))%(32:Int)))) <|
 .ob (idx u3.2.2.1 ((u1.1%(1024:Int))/(32:Int))) fun e5=>
 let q6:=(x3.2.2.2.2.2.2.2.2.1.set (((u1.1%(1024:Int))/(32:Int))).toNat ((i64.wrap ((BitVec.ofInt (i64.bits) (e4.1) &&& ~~~ BitVec.ofInt (i64.bits) ((i64.wrap ((1:Int)*2^(min (((u1.1%(1024:Int))%(32:Int))).toNat i64.bits))))).toNat:Nat)),()))
 .leaf (.inl (x3.1,(i64.wrap (x3.2.1+(1:Int))),(i64.wrap (u1.1+(1:Int))),u1.2.1,u2.1,u2.2.1,u3.1,u3.2.1,q6,()))) (
 .leaf (.inr (x3.1,u1.2.1,u2.1,u2.2.1,u3.1,u3.2.1,u3.2.2.1,())))) (
 .leaf (.inr (x3.1,u1.2.1,u2.1,u2.2.1,u3.1,u3.2.1,u3.2.2.1,())))
def Afy (a0:Bp) (a1:YI):Tree (Bp×(Bool×Unit)):=
 .ob (Ag1 a0) fun r1=>
 .ob (Wm a0 a1) fun r2=>
 .br (!r2.1) (
 .leaf (r1,(false,()))) (
 .ob (Az Ip (a1.1,(0:Int),(i64.wrap (a0.1+(1:Int))),a0.1,a0.2.1,(0:Int),([]:List YI),r1.1,r1.2.1,())) fun o7=>letI u1:=o7.2.2.2.2.2;
 .chk (decide ((0:Int)≤o7.1)) <|
 .chk (decide ((0:Int)≤(o7.1%(1024:Int)))) <|
 .chk (decide ((0:Int)≤(o7.1%(1024:Int)))) <|
 .ob (idx u1.2.1 ((o7.1%(1024:Int))/(32:Int))) fun e8=>
 .chk (decide ((0:Int)≤(o7.1%(1024:Int)))) <|
 .chk (decide ((0:Int)≤((o7.1%(1024:Int))%(32:Int)))) <|
 .ob (idx u1.2.1 ((o7.1%(1024:Int))/(32:Int))) fun e9=>
 let q10:=(o7.2.2.2.2.2.2.1.set (((o7.1%(1024:Int))/(32:Int))).toNat ((i64.wrap ((BitVec.ofInt (i64.bits) (e8.1) ||| BitVec.ofInt (i64.bits) ((i64.wrap ((1:Int)*2^(min (((o7.1%(1024:Int))%(32:Int))).toNat i64.bits))))).toNat:Nat)),()))
 .br (decide (o7.1>o7.2.1)) (
 .leaf ((o7.1,q10,()),(true,()))) (
 .leaf ((u1.1,q10,()),(true,()))))
def Oz (a0:Bp) (a1:YI):Option (Bp×(Bool×Unit)):=(Afy a0 a1).val
def Afz (a0:YEp) (a1:YI) (a2:Aa):Tree (YEp×YBs×YI):=
 letI u1:=a0.2.2.2;letI u2:=a2.2.2.2.2.2.2.2;.ob (L0 a0) fun r1=>
 .ob (Nf a0) fun r2=>
 .br (!r2.1) (
 .leaf (r1,(([]:List YB),()),((1:Int),()))) (
 .ob (Ha a1 a2) fun r3=>
 .br ((r3.1.length:Int)==(0:Int)) (
 .leaf (r1,(([]:List YB),()),((1:Int),()))) (
 .br (u2.1 != a0.1) (
 .leaf (r1,(([]:List YB),()),((1:Int),()))) (
 .ob (Wm (u1.1,u1.2.1,()) (u2.2.1,())) fun r4=>
 .br (!r4.1) (
 .leaf (r1,(([]:List YB),()),((3:Int),()))) (
 .ob (Ag5 (a0.2.1,()) a1 a2) fun r5=>
 .br (!r5.2.1) (
 .leaf (r1,(([]:List YB),()),((2:Int),()))) (
 .ob (Oz (u1.1,u1.2.1,()) (u2.2.1,())) fun r6=>
 .leaf ((r1.1,r1.2.1,r1.2.2.1,r6.1.1,r6.1.2.1,()),r5.1,((0:Int),())))))))
def Hy (a0:YEp) (a1:YI) (a2:Aa):Option (YEp×YBs×YI):=(Afz a0 a1 a2).val
def Og (a0:Af) (a1:YI) (a2:Aa):Tree (Af×YBs×YI):=
 letI u1:=a0.2.2;letI u2:=u1.2.2;letI u3:=u2.2.2.2;letI u4:=u3.2.2;letI u5:=u4.2.2;letI u6:=u5.2.2;letI u7:=a2.2.2.2.2.2.2.2;.ob (Mk a0) fun r1=>letI u8:=r1.2.2;letI u9:=u8.2.2;letI u10:=u9.2.2;letI u11:=u10.2.2;letI u12:=u11.2.2;letI u13:=u12.2.2;letI u14:=u13.2.2;
 .ob (Jl a0) fun r2=>
 .br (!r2.1) (
 .leaf (r1,(([]:List YB),()),((1:Int),()))) (
 .ob (Bd a1 ((0:Int),()) ((1000000:Int),())) fun r3=>
 .br (!r3.1) (
 .leaf (r1,(([]:List YB),()),((1:Int),()))) (
 .ob (Id a2) fun r4=>
 .br (!r4.1) (
 .leaf (r1,(([]:List YB),()),((1:Int),()))) (
 .ob (Hx (a2.1,())) fun r5=>
 .br (!r5.1) (
 .leaf (r1,(([]:List YB),()),((1:Int),()))) (
 .ob (Ow (a2.2.2.2.1,()) (a0.2.1,())) fun r6=>
 .br (!r6.1) (
 .leaf (r1,(([]:List YB),()),((8:Int),()))) (
 .br (u7.1==u1.1) (
 .ob (Hy (u1.1,u1.2.1,u2.1,u2.2.1,u2.2.2.1,()) ((i64.wrap ((1:Int)-a0.1)),()) a2) fun r7=>letI u15:=r7.1.2.2;
 .br (r7.2.2.1 != (0:Int)) (
 .leaf (r1,(([]:List YB),()),r7.2.2)) (
 .br u5.2.1 (
 .br (u6.1==(-1:Int)) (
 .leaf ((r1.1,r1.2.1,r7.1.1,r7.1.2.1,u15.1,u15.2.1,u15.2.2.1,u10.2.1,u11.1,u11.2.1,u12.1,u12.2.1,u13.1,(i64.wrap (a1.1+(5:Int))),u14.1,()),r7.2.1,((0:Int),()))) (
 .leaf ((r1.1,r1.2.1,r7.1.1,r7.1.2.1,u15.1,u15.2.1,u15.2.2.1,u10.2.1,u11.1,u11.2.1,u12.1,u12.2.1,u13.1,u13.2.1,u14.1,()),r7.2.1,((0:Int),())))) (
 .leaf ((r1.1,r1.2.1,r7.1.1,r7.1.2.1,u15.1,u15.2.1,u15.2.2.1,u10.2.1,u11.1,u11.2.1,u12.1,u12.2.1,u13.1,u13.2.1,u14.1,()),r7.2.1,((0:Int),()))))) (
 .br u5.2.1 (
 .br (u7.1==u3.1) (
 .br (u6.1 != (-1:Int)) (
 .br (decide (a1.1>u6.1)) (
 .leaf (r1,(([]:List YB),()),((9:Int),()))) (
 .ob (Hy (u3.1,u3.2.1,u4.1,u4.2.1,u5.1,()) ((i64.wrap ((1:Int)-a0.1)),()) a2) fun r8=>
 .br (r8.2.2.1 != (0:Int)) (
 .leaf (r1,(([]:List YB),()),r8.2.2)) (
 .leaf ((r1.1,r1.2.1,u8.1,u8.2.1,u9.1,u9.2.1,u10.1,r8.1.1,r8.1.2.1,r8.1.2.2.1,r8.1.2.2.2.1,r8.1.2.2.2.2.1,u13.1,u13.2.1,u14.1,()),r8.2.1,((0:Int),()))))) (
 .ob (Hy (u3.1,u3.2.1,u4.1,u4.2.1,u5.1,()) ((i64.wrap ((1:Int)-a0.1)),()) a2) fun r9=>
 .br (r9.2.2.1 != (0:Int)) (
 .leaf (r1,(([]:List YB),()),r9.2.2)) (
 .leaf ((r1.1,r1.2.1,u8.1,u8.2.1,u9.1,u9.2.1,u10.1,r9.1.1,r9.1.2.1,r9.1.2.2.1,r9.1.2.2.2.1,r9.1.2.2.2.2.1,u13.1,u13.2.1,u14.1,()),r9.2.1,((0:Int),()))))) (
 .br (decide ((a0.2.2.2.2.2.2.2.2.2.2.2.2.2.2.1.length:Int)>(0:Int))) (
 .br (u7.1==(i64.wrap (u1.1+(1:Int)))) (
 .ob (Fe ((i64.wrap (u1.1+(1:Int))),()) (u6.2.1,())) fun r10=>
 .ob (Hy r10 ((i64.wrap ((1:Int)-a0.1)),()) a2) fun r11=>
 .br (r11.2.2.1 != (0:Int)) (
 .leaf (r1,(([]:List YB),()),r11.2.2)) (
 .leaf ((r1.1,r1.2.1,r11.1.1,r11.1.2.1,r11.1.2.2.1,r11.1.2.2.2.1,r11.1.2.2.2.2.1,u8.1,u8.2.1,u9.1,u9.2.1,u10.1,true,(i64.wrap (a1.1+(5:Int))),([]:List YB),()),r11.2.1,((0:Int),())))) (
 .leaf (r1,(([]:List YB),()),((8:Int),())))) (
 .leaf (r1,(([]:List YB),()),((8:Int),()))))) (
 .br (decide ((a0.2.2.2.2.2.2.2.2.2.2.2.2.2.2.1.length:Int)>(0:Int))) (
 .br (u7.1==(i64.wrap (u1.1+(1:Int)))) (
 .ob (Fe ((i64.wrap (u1.1+(1:Int))),()) (u6.2.1,())) fun r12=>
 .ob (Hy r12 ((i64.wrap ((1:Int)-a0.1)),()) a2) fun r13=>
 .br (r13.2.2.1 != (0:Int)) (
 .leaf (r1,(([]:List YB),()),r13.2.2)) (
 .leaf ((r1.1,r1.2.1,r13.1.1,r13.1.2.1,r13.1.2.2.1,r13.1.2.2.2.1,r13.1.2.2.2.2.1,u8.1,u8.2.1,u9.1,u9.2.1,u10.1,true,(i64.wrap (a1.1+(5:Int))),([]:List YB),()),r13.2.1,((0:Int),())))) (
 .leaf (r1,(([]:List YB),()),((8:Int),())))) (
 .leaf (r1,(([]:List YB),()),((8:Int),()))))))))))
def Hb (a0:Af) (a1:YI) (a2:Aa):Option (Af×YBs×YI):=(Og a0 a1 a2).val
def Af0 (a0:Af) (a1:YI):Tree (YBs×(Bool×Unit)):=
 letI u1:=a0.2.2;letI u2:=u1.2.2.2.2.2;letI u3:=u2.2.2.2.2.2;.ob (Jl a0) fun r1=>
 .br (!r1.1) (
 .leaf ((([]:List YB),()),(false,()))) (
 .br u3.1 (
 .br (a1.1==u2.1) (
 .chk (decide (([]:List YB).length+a0.2.2.2.2.2.2.2.2.1.length≤4294967296)) <|
 .leaf (((([]:List YB)++u2.2.1),()),(true,()))) (
 .br (a1.1==u1.1) (
 .chk (decide (([]:List YB).length+a0.2.2.2.1.length≤4294967296)) <|
 .leaf (((([]:List YB)++u1.2.1),()),(true,()))) (
 .br (decide ((a0.2.2.2.2.2.2.2.2.2.2.2.2.2.2.1.length:Int)>(0:Int))) (
 .br (a1.1==(i64.wrap (u1.1+(1:Int)))) (
 .chk (decide (([]:List YB).length+a0.2.2.2.2.2.2.2.2.2.2.2.2.2.2.1.length≤4294967296)) <|
 .leaf (((([]:List YB)++u3.2.2.1),()),(true,()))) (
 .leaf ((([]:List YB),()),(false,())))) (
 .leaf ((([]:List YB),()),(false,())))))) (
 .br (a1.1==u1.1) (
 .chk (decide (([]:List YB).length+a0.2.2.2.1.length≤4294967296)) <|
 .leaf (((([]:List YB)++u1.2.1),()),(true,()))) (
 .br (decide ((a0.2.2.2.2.2.2.2.2.2.2.2.2.2.2.1.length:Int)>(0:Int))) (
 .br (a1.1==(i64.wrap (u1.1+(1:Int)))) (
 .chk (decide (([]:List YB).length+a0.2.2.2.2.2.2.2.2.2.2.2.2.2.2.1.length≤4294967296)) <|
 .leaf (((([]:List YB)++u3.2.2.1),()),(true,()))) (
 .leaf ((([]:List YB),()),(false,())))) (
 .leaf ((([]:List YB),()),(false,()))))))
def Wn (a0:Af) (a1:YI):Option (YBs×(Bool×Unit)):=(Af0 a0 a1).val
def Apd (a0:YBs) (a1:YBs) (a2:YBs):Tree (Ae):=
 .chk (decide (([]:List YB).length+a0.1.length≤4294967296)) <|
 .chk (decide (([]:List YB).length+a1.1.length≤4294967296)) <|
 .chk (decide (([]:List YB).length+a2.1.length≤4294967296)) <|
 .leaf ((16:Int),(0:Int),(0:Int),([]:List YB),(([]:List YB)++a1.1),(0:Int),(0:Int),(([]:List YB)++a2.1),(([]:List YB)++a0.1),(0:Int),(0:Int),(0:Int),())
def Apu (a0:YBs) (a1:YBs) (a2:YBs):Option (Ae):=(Apd a0 a1 a2).val
def Jh (x5:(List YB)×Int×Int×Int×Int×(List YB)×(List YB)×Int×(List YB)×(List YB)×Int×Int×(List YB)×(List YB)×Int×Int×(List YB)×(List YB)×Int×(List YB)×(List YB)×Int×Int×(List YB)×(List YB)×Unit):Option (((List YB)×Int×Int×Int×Int×(List YB)×(List YB)×Int×(List YB)×(List YB)×Int×Int×(List YB)×(List YB)×Int×Int×(List YB)×(List YB)×Int×(List YB)×(List YB)×Int×Int×(List YB)×(List YB)×Unit)⊕(((List YB)×Int×Int×Int×(List YB)×(List YB)×Int×(List YB)×(List YB)×Int×Int×(List YB)×(List YB)×Int×Int×(List YB)×(List YB)×Int×(List YB)×(List YB)×Int×Int×(List YB)×(List YB)×Unit))):=
 letI u1:=x5.2.2;letI u2:=u1.2.2;letI u3:=u2.2.2;letI u4:=u3.2.2;letI u5:=u4.2.2;letI u6:=u5.2.2;letI u7:=u6.2.2;letI u8:=u7.2.2;letI u9:=u8.2.2;letI u10:=u9.2.2;letI u11:=u10.2.2;Tree.val (α:=((List YB)×Int×Int×Int×Int×(List YB)×(List YB)×Int×(List YB)×(List YB)×Int×Int×(List YB)×(List YB)×Int×Int×(List YB)×(List YB)×Int×(List YB)×(List YB)×Int×Int×(List YB)×(List YB)×Unit)⊕(((List YB)×Int×Int×Int×(List YB)×(List YB)×Int×(List YB)×(List YB)×Int×Int×(List YB)×(List YB)×Int×Int×(List YB)×(List YB)×Int×(List YB)×(List YB)×Int×Int×(List YB)×(List YB)×Unit))) <|
 .br (decide (u1.1<(16:Int))) (
 .chk (decide (x5.2.2.2.2.2.2.2.2.2.2.2.2.2.2.2.2.2.2.2.2.2.2.2.2.1.length+[((0:Int),())].length≤4294967296)) <|
 .leaf (.inl (x5.1,x5.2.1,(i64.wrap (u1.1+(1:Int))),u1.2.1,u2.1,u2.2.1,u3.1,u3.2.1,u4.1,u4.2.1,u5.1,u5.2.1,u6.1,u6.2.1,u7.1,u7.2.1,u8.1,u8.2.1,u9.1,u9.2.1,u10.1,u10.2.1,u11.1,u11.2.1,(u11.2.2.1++[((0:Int),())]),()))) (
 .leaf (.inr (x5.1,x5.2.1,u1.2.1,u2.1,u2.2.1,u3.1,u3.2.1,u4.1,u4.2.1,u5.1,u5.2.1,u6.1,u6.2.1,u7.1,u7.2.1,u8.1,u8.2.1,u9.1,u9.2.1,u10.1,u10.2.1,u11.1,u11.2.1,u11.2.2.1,())))
def Af1 (a0:YBs) (a1:YI) (a2:YBs) (a3:YI) (a4:YI) (a5:YI) (a6:YBs):Tree (Aa×(Bool×Unit)):=
 .ob (L3 a1 a2 a3 a4) fun r1=>
 .br ((a0.1.length:Int) != (32:Int)) (
 .leaf (((0:Int),(0:Int),([]:List YB),([]:List YB),(0:Int),([]:List YB),([]:List YB),(0:Int),(0:Int),([]:List YB),([]:List YB),()),(false,()))) (
 .br ((r1.1.length:Int)==(0:Int)) (
 .leaf (((0:Int),(0:Int),([]:List YB),([]:List YB),(0:Int),([]:List YB),([]:List YB),(0:Int),(0:Int),([]:List YB),([]:List YB),()),(false,()))) (
 .ob (Hx a5) fun r2=>
 .br (!r2.1) (
 .leaf (((0:Int),(0:Int),([]:List YB),([]:List YB),(0:Int),([]:List YB),([]:List YB),(0:Int),(0:Int),([]:List YB),([]:List YB),()),(false,()))) (
 .ob (Ov a5 ((a6.1.length:Int),())) fun r3=>
 .br (!r3.1) (
 .leaf (((0:Int),(0:Int),([]:List YB),([]:List YB),(0:Int),([]:List YB),([]:List YB),(0:Int),(0:Int),([]:List YB),([]:List YB),()),(false,()))) (
 .chk (decide (([]:List YB).length+a2.1.length≤4294967296)) <|
 .ob (Ams a0 r1 a6) fun r4=>
 .ob (Az Jh (a0.1,a1.1,(0:Int),(0:Int),(0:Int),([]:List YB),([]:List YB),(0:Int),([]:List YB),([]:List YB),(0:Int),(0:Int),([]:List YB),([]:List YB),a5.1,(0:Int),([]:List YB),(([]:List YB)++a2.1),(0:Int),([]:List YB),([]:List YB),a3.1,a4.1,r4.1,([]:List YB),())) fun o6=>letI u1:=o6.2.2.2.2.2.2.2.2.2.2.2.2.2;letI u2:=u1.2.2;letI u3:=u2.2.2;letI u4:=u3.2.2;letI u5:=u4.2.2;
 .ob (Ha (o6.2.1,()) (u1.1,u1.2.1,u2.1,u2.2.1,u3.1,u3.2.1,u4.1,u4.2.1,u5.1,u5.2.1,u5.2.2.1,())) fun r7=>
 .ob (Aek (o6.1,()) r7) fun r8=>
 .leaf ((u1.1,u1.2.1,u2.1,u2.2.1,u3.1,u3.2.1,u4.1,u4.2.1,u5.1,u5.2.1,r8.1,()),(true,()))))))
def La (a0:YBs) (a1:YI) (a2:YBs) (a3:YI) (a4:YI) (a5:YI) (a6:YBs):Option (Aa×(Bool×Unit)):=(Af1 a0 a1 a2 a3 a4 a5 a6).val
def Af3 (a0:YEp) (a1:YI) (a2:YBs) (a3:YI) (a4:YBs):Tree (YEp×Aa×YI):=
 letI u1:=a0.2.2;.ob (L0 a0) fun r1=>letI u2:=r1.2.2.2;
 .ob (Nf a0) fun r2=>
 .br (!r2.1) (
 .leaf (r1,((0:Int),(0:Int),([]:List YB),([]:List YB),(0:Int),([]:List YB),([]:List YB),(0:Int),(0:Int),([]:List YB),([]:List YB),()),((1:Int),()))) (
 .ob (L3 a1 a2 (a0.1,()) ((0:Int),())) fun r3=>
 .br ((r3.1.length:Int)==(0:Int)) (
 .leaf (r1,((0:Int),(0:Int),([]:List YB),([]:List YB),(0:Int),([]:List YB),([]:List YB),(0:Int),(0:Int),([]:List YB),([]:List YB),()),((1:Int),()))) (
 .ob (Hx a3) fun r4=>
 .br (!r4.1) (
 .leaf (r1,((0:Int),(0:Int),([]:List YB),([]:List YB),(0:Int),([]:List YB),([]:List YB),(0:Int),(0:Int),([]:List YB),([]:List YB),()),((1:Int),()))) (
 .ob (Ov a3 ((a4.1.length:Int),())) fun r5=>
 .br (!r5.1) (
 .leaf (r1,((0:Int),(0:Int),([]:List YB),([]:List YB),(0:Int),([]:List YB),([]:List YB),(0:Int),(0:Int),([]:List YB),([]:List YB),()),((1:Int),()))) (
 .br (a3.1==(4:Int)) (
 .br (decide (u1.1≥(281474976709656:Int))) (
 .leaf (r1,((0:Int),(0:Int),([]:List YB),([]:List YB),(0:Int),([]:List YB),([]:List YB),(0:Int),(0:Int),([]:List YB),([]:List YB),()),((4:Int),()))) (
 .br (u1.1==(281474976710656:Int)) (
 .leaf (r1,((0:Int),(0:Int),([]:List YB),([]:List YB),(0:Int),([]:List YB),([]:List YB),(0:Int),(0:Int),([]:List YB),([]:List YB),()),((5:Int),()))) (
 .ob (La (a0.2.1,()) a1 a2 (a0.1,()) (u1.1,()) a3 a4) fun r6=>
 .leaf ((r1.1,r1.2.1,(i64.wrap (u1.1+(1:Int))),u2.1,u2.2.1,()),r6.1,((0:Int),()))))) (
 .br (u1.1==(281474976710656:Int)) (
 .leaf (r1,((0:Int),(0:Int),([]:List YB),([]:List YB),(0:Int),([]:List YB),([]:List YB),(0:Int),(0:Int),([]:List YB),([]:List YB),()),((5:Int),()))) (
 .ob (La (a0.2.1,()) a1 a2 (a0.1,()) (u1.1,()) a3 a4) fun r7=>
 .leaf ((r1.1,r1.2.1,(i64.wrap (u1.1+(1:Int))),u2.1,u2.2.1,()),r7.1,((0:Int),()))))))))
def Ag6 (a0:YEp) (a1:YI) (a2:YBs) (a3:YI) (a4:YBs):Option (YEp×Aa×YI):=(Af3 a0 a1 a2 a3 a4).val
def Xm (a0:Af) (a1:YI) (a2:YBs):Tree (Af×Aa×YI):=
 letI u1:=a0.2.2.2;.ob (Mk a0) fun r1=>letI u2:=r1.2.2.2.2.2.2.2;letI u3:=u2.2.2.2;
 .ob (Jl a0) fun r2=>
 .br (!r2.1) (
 .leaf (r1,((0:Int),(0:Int),([]:List YB),([]:List YB),(0:Int),([]:List YB),([]:List YB),(0:Int),(0:Int),([]:List YB),([]:List YB),()),((1:Int),()))) (
 .ob (Ag6 (a0.2.2.1,u1.1,u1.2.1,u1.2.2.1,u1.2.2.2.1,()) (a0.1,()) (a0.2.1,()) a1 a2) fun r3=>
 .br (r3.2.2.1==(0:Int)) (
 .leaf ((r1.1,r1.2.1,r3.1.1,r3.1.2.1,r3.1.2.2.1,r3.1.2.2.2.1,r3.1.2.2.2.2.1,u2.1,u2.2.1,u2.2.2.1,u3.1,u3.2.1,u3.2.2.1,u3.2.2.2.1,u3.2.2.2.2.1,()),r3.2.1,r3.2.2)) (
 .leaf (r1,r3.2.1,r3.2.2)))
def Ej (a0:Af) (a1:YI) (a2:YBs):Option (Af×Aa×YI):=(Xm a0 a1 a2).val
def Ab9 (a0:Af) (a1:Aa):Tree (Ae):=
 .ob (Ha (a0.1,()) a1) fun r1=>
 .ob (Ag3 (a0.2.2.2.1,()) r1) fun r2=>
 .leaf r2
def E4 (a0:Af) (a1:Aa):Option (Ae):=(Ab9 a0 a1).val
def Zc (r18:Ae) (a0:Ab) (a2:Aa) (r15:Af×YBs×YI) (a1:YI) (r20:Ae) (r19:Af×Aa×YI) (r1:Ab):Tree (Ab×((List Aa)×Unit)×((List Ae)×Unit)):=
 letI u1:=a0.2.2.2.2.2;letI u2:=u1.2.2.2.2.2.2.2.2.2.2.2.2.2.2.2;letI u3:=a2.2.2.2;letI u4:=u3.2.2.2.2;letI u5:=r19.1.2.2.2;letI u6:=u5.2.2.2;letI u7:=u6.2.2.2.2;.chk (decide ((((((([]:List Ae)++[r18])++[((3:Int),a0.1,(0:Int),(([]:List YB)++u1.1),(([]:List YB)++u3.1),(0:Int),(0:Int),([]:List YB),(([]:List YB)++u2.1),(0:Int),(0:Int),(0:Int),())])++[((10:Int),(0:Int),(0:Int),([]:List YB),(([]:List YB)++u3.1),r15.1.2.2.1,(0:Int),([]:List YB),(([]:List YB)++r15.1.2.2.2.1),(0:Int),(0:Int),(0:Int),())])++[((6:Int),(0:Int),(1:Int),([]:List YB),(([]:List YB)++u3.1),u4.1,u4.2.1,(([]:List YB)++r15.2.1.1),([]:List YB),(0:Int),(0:Int),a1.1,())])++[r20]).length+[((8:Int),(0:Int),(0:Int),([]:List YB),(([]:List YB)++u3.1),r19.2.1.2.2.2.2.2.2.2.1,(0:Int),(([]:List YB)++r15.2.1.1),([]:List YB),(0:Int),(0:Int),(0:Int),())].length≤4294967296)) <|
 .leaf ((r1.1,r1.2.1,r1.2.2.1,r1.2.2.2.1,(3:Int),r1.2.2.2.2.2.1,(0:Int),(0:Int),([]:List YB),([]:List YB),(0:Int),([]:List YB),([]:List YB),(0:Int),(0:Int),([]:List YB),([]:List YB),r19.1.1,r19.1.2.1,r19.1.2.2.1,u5.1,u5.2.1,u5.2.2.1,u6.1,u6.2.1,u6.2.2.1,u6.2.2.2.1,u7.1,u7.2.1,u7.2.2.1,u7.2.2.2.1,u7.2.2.2.2.1,false,(0:Int),(0:Int),(0:Int),false,(0:Int),(0:Int),(0:Int),a1.1,()),((([]:List Aa)++[r19.2.1]),()),(((((((([]:List Ae)++[r18])++[((3:Int),a0.1,(0:Int),(([]:List YB)++u1.1),(([]:List YB)++u3.1),(0:Int),(0:Int),([]:List YB),(([]:List YB)++u2.1),(0:Int),(0:Int),(0:Int),())])++[((10:Int),(0:Int),(0:Int),([]:List YB),(([]:List YB)++u3.1),r15.1.2.2.1,(0:Int),([]:List YB),(([]:List YB)++r15.1.2.2.2.1),(0:Int),(0:Int),(0:Int),())])++[((6:Int),(0:Int),(1:Int),([]:List YB),(([]:List YB)++u3.1),u4.1,u4.2.1,(([]:List YB)++r15.2.1.1),([]:List YB),(0:Int),(0:Int),a1.1,())])++[r20])++[((8:Int),(0:Int),(0:Int),([]:List YB),(([]:List YB)++u3.1),r19.2.1.2.2.2.2.2.2.2.1,(0:Int),(([]:List YB)++r15.2.1.1),([]:List YB),(0:Int),(0:Int),(0:Int),())]),()))
def Zd (r15:Af×YBs×YI) (r18:Ae) (a0:Ab) (a2:Aa) (a1:YI) (r20:Ae) (r19:Af×Aa×YI) (r1:Ab):Tree (Ab×((List Aa)×Unit)×((List Ae)×Unit)):=
 .chk (decide (([]:List YB).length+r15.2.1.1.length≤4294967296)) <|
 Zc r18 a0 a2 r15 a1 r20 r19 r1
def Ze (a2:Aa) (r15:Af×YBs×YI) (r18:Ae) (a0:Ab) (a1:YI) (r20:Ae) (r19:Af×Aa×YI) (r1:Ab):Tree (Ab×((List Aa)×Unit)×((List Ae)×Unit)):=
 .chk (decide (([]:List YB).length+a2.2.2.2.1.length≤4294967296)) <|
 Zd r15 r18 a0 a2 a1 r20 r19 r1
def Zf (r18:Ae) (a0:Ab) (a2:Aa) (r15:Af×YBs×YI) (a1:YI) (r20:Ae) (r19:Af×Aa×YI) (r1:Ab):Tree (Ab×((List Aa)×Unit)×((List Ae)×Unit)):=
 letI u1:=a2.2.2.2;.chk (decide (((((([]:List Ae)++[r18])++[((3:Int),a0.1,(0:Int),(([]:List YB)++a0.2.2.2.2.2.1),(([]:List YB)++u1.1),(0:Int),(0:Int),([]:List YB),(([]:List YB)++a0.2.2.2.2.2.2.2.2.2.2.2.2.2.2.2.2.2.2.2.2.1),(0:Int),(0:Int),(0:Int),())])++[((10:Int),(0:Int),(0:Int),([]:List YB),(([]:List YB)++u1.1),r15.1.2.2.1,(0:Int),([]:List YB),(([]:List YB)++r15.1.2.2.2.1),(0:Int),(0:Int),(0:Int),())])++[((6:Int),(0:Int),(1:Int),([]:List YB),(([]:List YB)++u1.1),u1.2.2.2.2.1,u1.2.2.2.2.2.1,(([]:List YB)++r15.2.1.1),([]:List YB),(0:Int),(0:Int),a1.1,())]).length+[r20].length≤4294967296)) <|
 Ze a2 r15 r18 a0 a1 r20 r19 r1
def Zg (r19:Af×Aa×YI) (r18:Ae) (a0:Ab) (a2:Aa) (r15:Af×YBs×YI) (a1:YI) (r1:Ab):Tree (Ab×((List Aa)×Unit)×((List Ae)×Unit)):=
 .ob (E4 r19.1 r19.2.1) fun r20=>
 Zf r18 a0 a2 r15 a1 r20 r19 r1
def Zh (r19:Af×Aa×YI) (r18:Ae) (a0:Ab) (a2:Aa) (r15:Af×YBs×YI) (a1:YI) (r1:Ab):Tree (Ab×((List Aa)×Unit)×((List Ae)×Unit)):=
 .chk (decide (([]:List Aa).length+[r19.2.1].length≤4294967296)) <|
 Zg r19 r18 a0 a2 r15 a1 r1
def Zi (r19:Af×Aa×YI) (r18:Ae) (a0:Ab) (a2:Aa) (r15:Af×YBs×YI) (a1:YI) (r1:Ab):Tree (Ab×((List Aa)×Unit)×((List Ae)×Unit)):=
 letI u1:=a2.2.2.2;letI u2:=r15.1.2.2;letI u3:=u2.2.2.2;letI u4:=u3.2.2.2;letI u5:=u4.2.2.2;.br (r19.2.2.1==(0:Int)) (
 Zh r19 r18 a0 a2 r15 a1 r1) (
 .leaf ((r1.1,r1.2.1,r1.2.2.1,r1.2.2.2.1,(3:Int),r1.2.2.2.2.2.1,(0:Int),(0:Int),([]:List YB),([]:List YB),(0:Int),([]:List YB),([]:List YB),(0:Int),(0:Int),([]:List YB),([]:List YB),r15.1.1,r15.1.2.1,u2.1,u2.2.1,u2.2.2.1,u3.1,u3.2.1,u3.2.2.1,u4.1,u4.2.1,u4.2.2.1,u5.1,u5.2.1,u5.2.2.1,u5.2.2.2.1,false,(0:Int),(0:Int),(0:Int),false,(0:Int),(0:Int),(0:Int),a1.1,()),(([]:List Aa),()),(((((([]:List Ae)++[r18])++[((3:Int),a0.1,(0:Int),(([]:List YB)++a0.2.2.2.2.2.1),(([]:List YB)++u1.1),(0:Int),(0:Int),([]:List YB),(([]:List YB)++a0.2.2.2.2.2.2.2.2.2.2.2.2.2.2.2.2.2.2.2.2.1),(0:Int),(0:Int),(0:Int),())])++[((10:Int),(0:Int),(0:Int),([]:List YB),(([]:List YB)++u1.1),u2.1,(0:Int),([]:List YB),(([]:List YB)++u2.2.1),(0:Int),(0:Int),(0:Int),())])++[((6:Int),(0:Int),(1:Int),([]:List YB),(([]:List YB)++u1.1),u1.2.2.2.2.1,u1.2.2.2.2.2.1,(([]:List YB)++r15.2.1.1),([]:List YB),(0:Int),(0:Int),a1.1,())]),())))
def Zj (r15:Af×YBs×YI) (r18:Ae) (a0:Ab) (a2:Aa) (a1:YI) (r1:Ab):Tree (Ab×((List Aa)×Unit)×((List Ae)×Unit)):=
 .ob (Ej r15.1 ((6:Int),()) r15.2.1) fun r19=>
 Zi r19 r18 a0 a2 r15 a1 r1
def Zk (a2:Aa) (r15:Af×YBs×YI) (r18:Ae) (a0:Ab) (a1:YI) (r1:Ab):Tree (Ab×((List Aa)×Unit)×((List Ae)×Unit)):=
 letI u1:=a2.2.2.2;letI u2:=r15.1.2.2;letI u3:=u2.2.2.2;letI u4:=u3.2.2.2;letI u5:=u4.2.2.2;.br (a2.1==(5:Int)) (
 Zj r15 r18 a0 a2 a1 r1) (
 .leaf ((r1.1,r1.2.1,r1.2.2.1,r1.2.2.2.1,(3:Int),r1.2.2.2.2.2.1,(0:Int),(0:Int),([]:List YB),([]:List YB),(0:Int),([]:List YB),([]:List YB),(0:Int),(0:Int),([]:List YB),([]:List YB),r15.1.1,r15.1.2.1,u2.1,u2.2.1,u2.2.2.1,u3.1,u3.2.1,u3.2.2.1,u4.1,u4.2.1,u4.2.2.1,u5.1,u5.2.1,u5.2.2.1,u5.2.2.2.1,false,(0:Int),(0:Int),(0:Int),false,(0:Int),(0:Int),(0:Int),a1.1,()),(([]:List Aa),()),(((((([]:List Ae)++[r18])++[((3:Int),a0.1,(0:Int),(([]:List YB)++a0.2.2.2.2.2.1),(([]:List YB)++u1.1),(0:Int),(0:Int),([]:List YB),(([]:List YB)++a0.2.2.2.2.2.2.2.2.2.2.2.2.2.2.2.2.2.2.2.2.1),(0:Int),(0:Int),(0:Int),())])++[((10:Int),(0:Int),(0:Int),([]:List YB),(([]:List YB)++u1.1),u2.1,(0:Int),([]:List YB),(([]:List YB)++u2.2.1),(0:Int),(0:Int),(0:Int),())])++[((6:Int),(0:Int),(1:Int),([]:List YB),(([]:List YB)++u1.1),u1.2.2.2.2.1,u1.2.2.2.2.2.1,(([]:List YB)++r15.2.1.1),([]:List YB),(0:Int),(0:Int),a1.1,())]),())))
def Ts (r18:Ae) (a0:Ab) (a2:Aa) (r15:Af×YBs×YI) (a1:YI) (r1:Ab):Tree (Ab×((List Aa)×Unit)×((List Ae)×Unit)):=
 letI u1:=a2.2.2.2;.chk (decide ((((([]:List Ae)++[r18])++[((3:Int),a0.1,(0:Int),(([]:List YB)++a0.2.2.2.2.2.1),(([]:List YB)++u1.1),(0:Int),(0:Int),([]:List YB),(([]:List YB)++a0.2.2.2.2.2.2.2.2.2.2.2.2.2.2.2.2.2.2.2.2.1),(0:Int),(0:Int),(0:Int),())])++[((10:Int),(0:Int),(0:Int),([]:List YB),(([]:List YB)++u1.1),r15.1.2.2.1,(0:Int),([]:List YB),(([]:List YB)++r15.1.2.2.2.1),(0:Int),(0:Int),(0:Int),())]).length+[((6:Int),(0:Int),(1:Int),([]:List YB),(([]:List YB)++u1.1),u1.2.2.2.2.1,u1.2.2.2.2.2.1,(([]:List YB)++r15.2.1.1),([]:List YB),(0:Int),(0:Int),a1.1,())].length≤4294967296)) <|
 Zk a2 r15 r18 a0 a1 r1
def Tt (r15:Af×YBs×YI) (r18:Ae) (a0:Ab) (a2:Aa) (a1:YI) (r1:Ab):Tree (Ab×((List Aa)×Unit)×((List Ae)×Unit)):=
 .chk (decide (([]:List YB).length+r15.2.1.1.length≤4294967296)) <|
 Ts r18 a0 a2 r15 a1 r1
def Tu (a2:Aa) (r15:Af×YBs×YI) (r18:Ae) (a0:Ab) (a1:YI) (r1:Ab):Tree (Ab×((List Aa)×Unit)×((List Ae)×Unit)):=
 .chk (decide (([]:List YB).length+a2.2.2.2.1.length≤4294967296)) <|
 Tt r15 r18 a0 a2 a1 r1
def Tv (r18:Ae) (a0:Ab) (a2:Aa) (r15:Af×YBs×YI) (r22:Ae) (r21:Af×Aa×YI) (r1:Ab) (a1:YI):Tree (Ab×((List Aa)×Unit)×((List Ae)×Unit)):=
 letI u1:=a0.2.2.2.2.2;letI u2:=u1.2.2.2.2.2.2.2.2.2.2.2.2.2.2.2;letI u3:=a2.2.2.2;letI u4:=r21.1.2.2.2;letI u5:=u4.2.2.2;letI u6:=u5.2.2.2.2;.chk (decide (((((([]:List Ae)++[r18])++[((3:Int),a0.1,(0:Int),(([]:List YB)++u1.1),(([]:List YB)++u3.1),(0:Int),(0:Int),([]:List YB),(([]:List YB)++u2.1),(0:Int),(0:Int),(0:Int),())])++[((10:Int),(0:Int),(0:Int),([]:List YB),(([]:List YB)++u3.1),r15.1.2.2.1,(0:Int),([]:List YB),(([]:List YB)++r15.1.2.2.2.1),(0:Int),(0:Int),(0:Int),())])++[r22]).length+[((8:Int),(0:Int),(0:Int),([]:List YB),(([]:List YB)++u3.1),r21.2.1.2.2.2.2.2.2.2.1,(0:Int),(([]:List YB)++r15.2.1.1),([]:List YB),(0:Int),(0:Int),(0:Int),())].length≤4294967296)) <|
 .leaf ((r1.1,r1.2.1,r1.2.2.1,r1.2.2.2.1,(3:Int),r1.2.2.2.2.2.1,(0:Int),(0:Int),([]:List YB),([]:List YB),(0:Int),([]:List YB),([]:List YB),(0:Int),(0:Int),([]:List YB),([]:List YB),r21.1.1,r21.1.2.1,r21.1.2.2.1,u4.1,u4.2.1,u4.2.2.1,u5.1,u5.2.1,u5.2.2.1,u5.2.2.2.1,u6.1,u6.2.1,u6.2.2.1,u6.2.2.2.1,u6.2.2.2.2.1,false,(0:Int),(0:Int),(0:Int),false,(0:Int),(0:Int),(0:Int),a1.1,()),((([]:List Aa)++[r21.2.1]),()),((((((([]:List Ae)++[r18])++[((3:Int),a0.1,(0:Int),(([]:List YB)++u1.1),(([]:List YB)++u3.1),(0:Int),(0:Int),([]:List YB),(([]:List YB)++u2.1),(0:Int),(0:Int),(0:Int),())])++[((10:Int),(0:Int),(0:Int),([]:List YB),(([]:List YB)++u3.1),r15.1.2.2.1,(0:Int),([]:List YB),(([]:List YB)++r15.1.2.2.2.1),(0:Int),(0:Int),(0:Int),())])++[r22])++[((8:Int),(0:Int),(0:Int),([]:List YB),(([]:List YB)++u3.1),r21.2.1.2.2.2.2.2.2.2.1,(0:Int),(([]:List YB)++r15.2.1.1),([]:List YB),(0:Int),(0:Int),(0:Int),())]),()))
def Tw (r15:Af×YBs×YI) (r18:Ae) (a0:Ab) (a2:Aa) (r22:Ae) (r21:Af×Aa×YI) (r1:Ab) (a1:YI):Tree (Ab×((List Aa)×Unit)×((List Ae)×Unit)):=
 .chk (decide (([]:List YB).length+r15.2.1.1.length≤4294967296)) <|
 Tv r18 a0 a2 r15 r22 r21 r1 a1
def Tx (a2:Aa) (r15:Af×YBs×YI) (r18:Ae) (a0:Ab) (r22:Ae) (r21:Af×Aa×YI) (r1:Ab) (a1:YI):Tree (Ab×((List Aa)×Unit)×((List Ae)×Unit)):=
 .chk (decide (([]:List YB).length+a2.2.2.2.1.length≤4294967296)) <|
 Tw r15 r18 a0 a2 r22 r21 r1 a1
def Tz (r18:Ae) (a0:Ab) (a2:Aa) (r15:Af×YBs×YI) (r22:Ae) (r21:Af×Aa×YI) (r1:Ab) (a1:YI):Tree (Ab×((List Aa)×Unit)×((List Ae)×Unit)):=
 .chk (decide ((((([]:List Ae)++[r18])++[((3:Int),a0.1,(0:Int),(([]:List YB)++a0.2.2.2.2.2.1),(([]:List YB)++a2.2.2.2.1),(0:Int),(0:Int),([]:List YB),(([]:List YB)++a0.2.2.2.2.2.2.2.2.2.2.2.2.2.2.2.2.2.2.2.2.1),(0:Int),(0:Int),(0:Int),())])++[((10:Int),(0:Int),(0:Int),([]:List YB),(([]:List YB)++a2.2.2.2.1),r15.1.2.2.1,(0:Int),([]:List YB),(([]:List YB)++r15.1.2.2.2.1),(0:Int),(0:Int),(0:Int),())]).length+[r22].length≤4294967296)) <|
 Tx a2 r15 r18 a0 r22 r21 r1 a1
def T0 (r21:Af×Aa×YI) (r18:Ae) (a0:Ab) (a2:Aa) (r15:Af×YBs×YI) (r1:Ab) (a1:YI):Tree (Ab×((List Aa)×Unit)×((List Ae)×Unit)):=
 .ob (E4 r21.1 r21.2.1) fun r22=>
 Tz r18 a0 a2 r15 r22 r21 r1 a1
def T1 (r21:Af×Aa×YI) (r18:Ae) (a0:Ab) (a2:Aa) (r15:Af×YBs×YI) (r1:Ab) (a1:YI):Tree (Ab×((List Aa)×Unit)×((List Ae)×Unit)):=
 .chk (decide (([]:List Aa).length+[r21.2.1].length≤4294967296)) <|
 T0 r21 r18 a0 a2 r15 r1 a1
def T2 (r21:Af×Aa×YI) (r18:Ae) (a0:Ab) (a2:Aa) (r15:Af×YBs×YI) (r1:Ab) (a1:YI):Tree (Ab×((List Aa)×Unit)×((List Ae)×Unit)):=
 letI u1:=r15.1.2.2;letI u2:=u1.2.2.2;letI u3:=u2.2.2.2;letI u4:=u3.2.2.2;.br (r21.2.2.1==(0:Int)) (
 T1 r21 r18 a0 a2 r15 r1 a1) (
 .leaf ((r1.1,r1.2.1,r1.2.2.1,r1.2.2.2.1,(3:Int),r1.2.2.2.2.2.1,(0:Int),(0:Int),([]:List YB),([]:List YB),(0:Int),([]:List YB),([]:List YB),(0:Int),(0:Int),([]:List YB),([]:List YB),r15.1.1,r15.1.2.1,u1.1,u1.2.1,u1.2.2.1,u2.1,u2.2.1,u2.2.2.1,u3.1,u3.2.1,u3.2.2.1,u4.1,u4.2.1,u4.2.2.1,u4.2.2.2.1,false,(0:Int),(0:Int),(0:Int),false,(0:Int),(0:Int),(0:Int),a1.1,()),(([]:List Aa),()),((((([]:List Ae)++[r18])++[((3:Int),a0.1,(0:Int),(([]:List YB)++a0.2.2.2.2.2.1),(([]:List YB)++a2.2.2.2.1),(0:Int),(0:Int),([]:List YB),(([]:List YB)++a0.2.2.2.2.2.2.2.2.2.2.2.2.2.2.2.2.2.2.2.2.1),(0:Int),(0:Int),(0:Int),())])++[((10:Int),(0:Int),(0:Int),([]:List YB),(([]:List YB)++a2.2.2.2.1),u1.1,(0:Int),([]:List YB),(([]:List YB)++u1.2.1),(0:Int),(0:Int),(0:Int),())]),())))
def T3 (r15:Af×YBs×YI) (r18:Ae) (a0:Ab) (a2:Aa) (r1:Ab) (a1:YI):Tree (Ab×((List Aa)×Unit)×((List Ae)×Unit)):=
 .ob (Ej r15.1 ((6:Int),()) r15.2.1) fun r21=>
 T2 r21 r18 a0 a2 r15 r1 a1
def T4 (a2:Aa) (r15:Af×YBs×YI) (r18:Ae) (a0:Ab) (r1:Ab) (a1:YI):Tree (Ab×((List Aa)×Unit)×((List Ae)×Unit)):=
 letI u1:=r15.1.2.2;letI u2:=u1.2.2.2;letI u3:=u2.2.2.2;letI u4:=u3.2.2.2;.br (a2.1==(5:Int)) (
 T3 r15 r18 a0 a2 r1 a1) (
 .leaf ((r1.1,r1.2.1,r1.2.2.1,r1.2.2.2.1,(3:Int),r1.2.2.2.2.2.1,(0:Int),(0:Int),([]:List YB),([]:List YB),(0:Int),([]:List YB),([]:List YB),(0:Int),(0:Int),([]:List YB),([]:List YB),r15.1.1,r15.1.2.1,u1.1,u1.2.1,u1.2.2.1,u2.1,u2.2.1,u2.2.2.1,u3.1,u3.2.1,u3.2.2.1,u4.1,u4.2.1,u4.2.2.1,u4.2.2.2.1,false,(0:Int),(0:Int),(0:Int),false,(0:Int),(0:Int),(0:Int),a1.1,()),(([]:List Aa),()),((((([]:List Ae)++[r18])++[((3:Int),a0.1,(0:Int),(([]:List YB)++a0.2.2.2.2.2.1),(([]:List YB)++a2.2.2.2.1),(0:Int),(0:Int),([]:List YB),(([]:List YB)++a0.2.2.2.2.2.2.2.2.2.2.2.2.2.2.2.2.2.2.2.2.1),(0:Int),(0:Int),(0:Int),())])++[((10:Int),(0:Int),(0:Int),([]:List YB),(([]:List YB)++a2.2.2.2.1),u1.1,(0:Int),([]:List YB),(([]:List YB)++u1.2.1),(0:Int),(0:Int),(0:Int),())]),())))
def T5 (a2:Aa) (r15:Af×YBs×YI) (r18:Ae) (a0:Ab) (a1:YI) (r1:Ab):Tree (Ab×((List Aa)×Unit)×((List Ae)×Unit)):=
 .br (a2.1==(4:Int)) (
 Tu a2 r15 r18 a0 a1 r1) (
 T4 a2 r15 r18 a0 r1 a1)
def T6 (r18:Ae) (a0:Ab) (a2:Aa) (r15:Af×YBs×YI) (a1:YI) (r1:Ab):Tree (Ab×((List Aa)×Unit)×((List Ae)×Unit)):=
 .chk (decide (((([]:List Ae)++[r18])++[((3:Int),a0.1,(0:Int),(([]:List YB)++a0.2.2.2.2.2.1),(([]:List YB)++a2.2.2.2.1),(0:Int),(0:Int),([]:List YB),(([]:List YB)++a0.2.2.2.2.2.2.2.2.2.2.2.2.2.2.2.2.2.2.2.2.1),(0:Int),(0:Int),(0:Int),())]).length+[((10:Int),(0:Int),(0:Int),([]:List YB),(([]:List YB)++a2.2.2.2.1),r15.1.2.2.1,(0:Int),([]:List YB),(([]:List YB)++r15.1.2.2.2.1),(0:Int),(0:Int),(0:Int),())].length≤4294967296)) <|
 T5 a2 r15 r18 a0 a1 r1
def T7 (r15:Af×YBs×YI) (r18:Ae) (a0:Ab) (a2:Aa) (a1:YI) (r1:Ab):Tree (Ab×((List Aa)×Unit)×((List Ae)×Unit)):=
 .chk (decide (([]:List YB).length+r15.1.2.2.2.1.length≤4294967296)) <|
 T6 r18 a0 a2 r15 a1 r1
def T8 (a2:Aa) (r15:Af×YBs×YI) (r18:Ae) (a0:Ab) (a1:YI) (r1:Ab):Tree (Ab×((List Aa)×Unit)×((List Ae)×Unit)):=
 .chk (decide (([]:List YB).length+a2.2.2.2.1.length≤4294967296)) <|
 T7 r15 r18 a0 a2 a1 r1
def T9 (r18:Ae) (a0:Ab) (a2:Aa) (r15:Af×YBs×YI) (a1:YI) (r24:Ae) (r23:Af×Aa×YI) (r1:Ab):Tree (Ab×((List Aa)×Unit)×((List Ae)×Unit)):=
 letI u1:=a0.2.2.2.2.2;letI u2:=u1.2.2.2.2.2.2.2.2.2.2.2.2.2.2.2;letI u3:=a2.2.2.2;letI u4:=u3.2.2.2.2;letI u5:=r23.1.2.2.2;letI u6:=u5.2.2.2;letI u7:=u6.2.2.2.2;letI u8:=r1.2.2;letI u9:=u8.2.2.2.2.2.2.2.2.2.2.2.2.2.2.2.2.2.2.2.2.2.2.2.2.2.2.2.2.2.2.2.2.2.2;.chk (decide (((((([]:List Ae)++[r18])++[((3:Int),a0.1,(0:Int),(([]:List YB)++u1.1),(([]:List YB)++u3.1),(0:Int),(0:Int),([]:List YB),(([]:List YB)++u2.1),(0:Int),(0:Int),(0:Int),())])++[((6:Int),(0:Int),(1:Int),([]:List YB),(([]:List YB)++u3.1),u4.1,u4.2.1,(([]:List YB)++r15.2.1.1),([]:List YB),(0:Int),(0:Int),a1.1,())])++[r24]).length+[((8:Int),(0:Int),(0:Int),([]:List YB),(([]:List YB)++u3.1),r23.2.1.2.2.2.2.2.2.2.1,(0:Int),(([]:List YB)++r15.2.1.1),([]:List YB),(0:Int),(0:Int),(0:Int),())].length≤4294967296)) <|
 .leaf ((r1.1,r1.2.1,u8.1,u8.2.1,(3:Int),u8.2.2.2.1,(0:Int),(0:Int),([]:List YB),([]:List YB),(0:Int),([]:List YB),([]:List YB),(0:Int),(0:Int),([]:List YB),([]:List YB),r23.1.1,r23.1.2.1,r23.1.2.2.1,u5.1,u5.2.1,u5.2.2.1,u6.1,u6.2.1,u6.2.2.1,u6.2.2.2.1,u7.1,u7.2.1,u7.2.2.1,u7.2.2.2.1,u7.2.2.2.2.1,false,(0:Int),(0:Int),(0:Int),u9.1,u9.2.1,u9.2.2.1,u9.2.2.2.1,a1.1,()),((([]:List Aa)++[r23.2.1]),()),((((((([]:List Ae)++[r18])++[((3:Int),a0.1,(0:Int),(([]:List YB)++u1.1),(([]:List YB)++u3.1),(0:Int),(0:Int),([]:List YB),(([]:List YB)++u2.1),(0:Int),(0:Int),(0:Int),())])++[((6:Int),(0:Int),(1:Int),([]:List YB),(([]:List YB)++u3.1),u4.1,u4.2.1,(([]:List YB)++r15.2.1.1),([]:List YB),(0:Int),(0:Int),a1.1,())])++[r24])++[((8:Int),(0:Int),(0:Int),([]:List YB),(([]:List YB)++u3.1),r23.2.1.2.2.2.2.2.2.2.1,(0:Int),(([]:List YB)++r15.2.1.1),([]:List YB),(0:Int),(0:Int),(0:Int),())]),()))
def Ua (r15:Af×YBs×YI) (r18:Ae) (a0:Ab) (a2:Aa) (a1:YI) (r24:Ae) (r23:Af×Aa×YI) (r1:Ab):Tree (Ab×((List Aa)×Unit)×((List Ae)×Unit)):=
 .chk (decide (([]:List YB).length+r15.2.1.1.length≤4294967296)) <|
 T9 r18 a0 a2 r15 a1 r24 r23 r1
def Ub (a2:Aa) (r15:Af×YBs×YI) (r18:Ae) (a0:Ab) (a1:YI) (r24:Ae) (r23:Af×Aa×YI) (r1:Ab):Tree (Ab×((List Aa)×Unit)×((List Ae)×Unit)):=
 .chk (decide (([]:List YB).length+a2.2.2.2.1.length≤4294967296)) <|
 Ua r15 r18 a0 a2 a1 r24 r23 r1
def Uc (r18:Ae) (a0:Ab) (a2:Aa) (r15:Af×YBs×YI) (a1:YI) (r24:Ae) (r23:Af×Aa×YI) (r1:Ab):Tree (Ab×((List Aa)×Unit)×((List Ae)×Unit)):=
 letI u1:=a2.2.2.2;.chk (decide ((((([]:List Ae)++[r18])++[((3:Int),a0.1,(0:Int),(([]:List YB)++a0.2.2.2.2.2.1),(([]:List YB)++u1.1),(0:Int),(0:Int),([]:List YB),(([]:List YB)++a0.2.2.2.2.2.2.2.2.2.2.2.2.2.2.2.2.2.2.2.2.1),(0:Int),(0:Int),(0:Int),())])++[((6:Int),(0:Int),(1:Int),([]:List YB),(([]:List YB)++u1.1),u1.2.2.2.2.1,u1.2.2.2.2.2.1,(([]:List YB)++r15.2.1.1),([]:List YB),(0:Int),(0:Int),a1.1,())]).length+[r24].length≤4294967296)) <|
 Ub a2 r15 r18 a0 a1 r24 r23 r1
def Ud (r23:Af×Aa×YI) (r18:Ae) (a0:Ab) (a2:Aa) (r15:Af×YBs×YI) (a1:YI) (r1:Ab):Tree (Ab×((List Aa)×Unit)×((List Ae)×Unit)):=
 .ob (E4 r23.1 r23.2.1) fun r24=>
 Uc r18 a0 a2 r15 a1 r24 r23 r1
def Ue (r23:Af×Aa×YI) (r18:Ae) (a0:Ab) (a2:Aa) (r15:Af×YBs×YI) (a1:YI) (r1:Ab):Tree (Ab×((List Aa)×Unit)×((List Ae)×Unit)):=
 .chk (decide (([]:List Aa).length+[r23.2.1].length≤4294967296)) <|
 Ud r23 r18 a0 a2 r15 a1 r1
def Uf (r23:Af×Aa×YI) (r18:Ae) (a0:Ab) (a2:Aa) (r15:Af×YBs×YI) (a1:YI) (r1:Ab):Tree (Ab×((List Aa)×Unit)×((List Ae)×Unit)):=
 letI u1:=a2.2.2.2;letI u2:=r15.1.2.2.2;letI u3:=u2.2.2.2;letI u4:=u3.2.2.2.2;letI u5:=r1.2.2;letI u6:=u5.2.2.2.2.2.2.2.2.2.2.2.2.2.2.2.2.2.2.2.2.2.2.2.2.2.2.2.2.2.2.2.2.2.2;.br (r23.2.2.1==(0:Int)) (
 Ue r23 r18 a0 a2 r15 a1 r1) (
 .leaf ((r1.1,r1.2.1,u5.1,u5.2.1,(3:Int),u5.2.2.2.1,(0:Int),(0:Int),([]:List YB),([]:List YB),(0:Int),([]:List YB),([]:List YB),(0:Int),(0:Int),([]:List YB),([]:List YB),r15.1.1,r15.1.2.1,r15.1.2.2.1,u2.1,u2.2.1,u2.2.2.1,u3.1,u3.2.1,u3.2.2.1,u3.2.2.2.1,u4.1,u4.2.1,u4.2.2.1,u4.2.2.2.1,u4.2.2.2.2.1,false,(0:Int),(0:Int),(0:Int),u6.1,u6.2.1,u6.2.2.1,u6.2.2.2.1,a1.1,()),(([]:List Aa),()),((((([]:List Ae)++[r18])++[((3:Int),a0.1,(0:Int),(([]:List YB)++a0.2.2.2.2.2.1),(([]:List YB)++u1.1),(0:Int),(0:Int),([]:List YB),(([]:List YB)++a0.2.2.2.2.2.2.2.2.2.2.2.2.2.2.2.2.2.2.2.2.1),(0:Int),(0:Int),(0:Int),())])++[((6:Int),(0:Int),(1:Int),([]:List YB),(([]:List YB)++u1.1),u1.2.2.2.2.1,u1.2.2.2.2.2.1,(([]:List YB)++r15.2.1.1),([]:List YB),(0:Int),(0:Int),a1.1,())]),())))
def Ug (r15:Af×YBs×YI) (r18:Ae) (a0:Ab) (a2:Aa) (a1:YI) (r1:Ab):Tree (Ab×((List Aa)×Unit)×((List Ae)×Unit)):=
 .ob (Ej r15.1 ((6:Int),()) r15.2.1) fun r23=>
 Uf r23 r18 a0 a2 r15 a1 r1
def Uh (a2:Aa) (r15:Af×YBs×YI) (r18:Ae) (a0:Ab) (a1:YI) (r1:Ab):Tree (Ab×((List Aa)×Unit)×((List Ae)×Unit)):=
 letI u1:=a2.2.2.2;letI u2:=r15.1.2.2.2;letI u3:=u2.2.2.2;letI u4:=u3.2.2.2.2;letI u5:=r1.2.2;letI u6:=u5.2.2.2.2.2.2.2.2.2.2.2.2.2.2.2.2.2.2.2.2.2.2.2.2.2.2.2.2.2.2.2.2.2.2;.br (a2.1==(5:Int)) (
 Ug r15 r18 a0 a2 a1 r1) (
 .leaf ((r1.1,r1.2.1,u5.1,u5.2.1,(3:Int),u5.2.2.2.1,(0:Int),(0:Int),([]:List YB),([]:List YB),(0:Int),([]:List YB),([]:List YB),(0:Int),(0:Int),([]:List YB),([]:List YB),r15.1.1,r15.1.2.1,r15.1.2.2.1,u2.1,u2.2.1,u2.2.2.1,u3.1,u3.2.1,u3.2.2.1,u3.2.2.2.1,u4.1,u4.2.1,u4.2.2.1,u4.2.2.2.1,u4.2.2.2.2.1,false,(0:Int),(0:Int),(0:Int),u6.1,u6.2.1,u6.2.2.1,u6.2.2.2.1,a1.1,()),(([]:List Aa),()),((((([]:List Ae)++[r18])++[((3:Int),a0.1,(0:Int),(([]:List YB)++a0.2.2.2.2.2.1),(([]:List YB)++u1.1),(0:Int),(0:Int),([]:List YB),(([]:List YB)++a0.2.2.2.2.2.2.2.2.2.2.2.2.2.2.2.2.2.2.2.2.1),(0:Int),(0:Int),(0:Int),())])++[((6:Int),(0:Int),(1:Int),([]:List YB),(([]:List YB)++u1.1),u1.2.2.2.2.1,u1.2.2.2.2.2.1,(([]:List YB)++r15.2.1.1),([]:List YB),(0:Int),(0:Int),a1.1,())]),())))
def Ui (r18:Ae) (a0:Ab) (a2:Aa) (r15:Af×YBs×YI) (a1:YI) (r1:Ab):Tree (Ab×((List Aa)×Unit)×((List Ae)×Unit)):=
 letI u1:=a2.2.2.2;.chk (decide (((([]:List Ae)++[r18])++[((3:Int),a0.1,(0:Int),(([]:List YB)++a0.2.2.2.2.2.1),(([]:List YB)++u1.1),(0:Int),(0:Int),([]:List YB),(([]:List YB)++a0.2.2.2.2.2.2.2.2.2.2.2.2.2.2.2.2.2.2.2.2.1),(0:Int),(0:Int),(0:Int),())]).length+[((6:Int),(0:Int),(1:Int),([]:List YB),(([]:List YB)++u1.1),u1.2.2.2.2.1,u1.2.2.2.2.2.1,(([]:List YB)++r15.2.1.1),([]:List YB),(0:Int),(0:Int),a1.1,())].length≤4294967296)) <|
 Uh a2 r15 r18 a0 a1 r1
def Uj (r15:Af×YBs×YI) (r18:Ae) (a0:Ab) (a2:Aa) (a1:YI) (r1:Ab):Tree (Ab×((List Aa)×Unit)×((List Ae)×Unit)):=
 .chk (decide (([]:List YB).length+r15.2.1.1.length≤4294967296)) <|
 Ui r18 a0 a2 r15 a1 r1
def Uk (a2:Aa) (r15:Af×YBs×YI) (r18:Ae) (a0:Ab) (a1:YI) (r1:Ab):Tree (Ab×((List Aa)×Unit)×((List Ae)×Unit)):=
 .chk (decide (([]:List YB).length+a2.2.2.2.1.length≤4294967296)) <|
 Uj r15 r18 a0 a2 a1 r1
def Ul (r18:Ae) (a0:Ab) (a2:Aa) (r26:Ae) (r25:Af×Aa×YI) (r15:Af×YBs×YI) (r1:Ab) (a1:YI):Tree (Ab×((List Aa)×Unit)×((List Ae)×Unit)):=
 letI u1:=a0.2.2.2.2.2;letI u2:=u1.2.2.2.2.2.2.2.2.2.2.2.2.2.2.2;letI u3:=a2.2.2.2;letI u4:=r25.1.2.2.2;letI u5:=u4.2.2.2;letI u6:=u5.2.2.2.2;letI u7:=r1.2.2;letI u8:=u7.2.2.2.2.2.2.2.2.2.2.2.2.2.2.2.2.2.2.2.2.2.2.2.2.2.2.2.2.2.2.2.2.2.2;.chk (decide ((((([]:List Ae)++[r18])++[((3:Int),a0.1,(0:Int),(([]:List YB)++u1.1),(([]:List YB)++u3.1),(0:Int),(0:Int),([]:List YB),(([]:List YB)++u2.1),(0:Int),(0:Int),(0:Int),())])++[r26]).length+[((8:Int),(0:Int),(0:Int),([]:List YB),(([]:List YB)++u3.1),r25.2.1.2.2.2.2.2.2.2.1,(0:Int),(([]:List YB)++r15.2.1.1),([]:List YB),(0:Int),(0:Int),(0:Int),())].length≤4294967296)) <|
 .leaf ((r1.1,r1.2.1,u7.1,u7.2.1,(3:Int),u7.2.2.2.1,(0:Int),(0:Int),([]:List YB),([]:List YB),(0:Int),([]:List YB),([]:List YB),(0:Int),(0:Int),([]:List YB),([]:List YB),r25.1.1,r25.1.2.1,r25.1.2.2.1,u4.1,u4.2.1,u4.2.2.1,u5.1,u5.2.1,u5.2.2.1,u5.2.2.2.1,u6.1,u6.2.1,u6.2.2.1,u6.2.2.2.1,u6.2.2.2.2.1,false,(0:Int),(0:Int),(0:Int),u8.1,u8.2.1,u8.2.2.1,u8.2.2.2.1,a1.1,()),((([]:List Aa)++[r25.2.1]),()),(((((([]:List Ae)++[r18])++[((3:Int),a0.1,(0:Int),(([]:List YB)++u1.1),(([]:List YB)++u3.1),(0:Int),(0:Int),([]:List YB),(([]:List YB)++u2.1),(0:Int),(0:Int),(0:Int),())])++[r26])++[((8:Int),(0:Int),(0:Int),([]:List YB),(([]:List YB)++u3.1),r25.2.1.2.2.2.2.2.2.2.1,(0:Int),(([]:List YB)++r15.2.1.1),([]:List YB),(0:Int),(0:Int),(0:Int),())]),()))
def Um (r15:Af×YBs×YI) (r18:Ae) (a0:Ab) (a2:Aa) (r26:Ae) (r25:Af×Aa×YI) (r1:Ab) (a1:YI):Tree (Ab×((List Aa)×Unit)×((List Ae)×Unit)):=
 .chk (decide (([]:List YB).length+r15.2.1.1.length≤4294967296)) <|
 Ul r18 a0 a2 r26 r25 r15 r1 a1
def Un (a2:Aa) (r15:Af×YBs×YI) (r18:Ae) (a0:Ab) (r26:Ae) (r25:Af×Aa×YI) (r1:Ab) (a1:YI):Tree (Ab×((List Aa)×Unit)×((List Ae)×Unit)):=
 .chk (decide (([]:List YB).length+a2.2.2.2.1.length≤4294967296)) <|
 Um r15 r18 a0 a2 r26 r25 r1 a1
def Uo (r18:Ae) (a0:Ab) (a2:Aa) (r26:Ae) (r15:Af×YBs×YI) (r25:Af×Aa×YI) (r1:Ab) (a1:YI):Tree (Ab×((List Aa)×Unit)×((List Ae)×Unit)):=
 .chk (decide (((([]:List Ae)++[r18])++[((3:Int),a0.1,(0:Int),(([]:List YB)++a0.2.2.2.2.2.1),(([]:List YB)++a2.2.2.2.1),(0:Int),(0:Int),([]:List YB),(([]:List YB)++a0.2.2.2.2.2.2.2.2.2.2.2.2.2.2.2.2.2.2.2.2.1),(0:Int),(0:Int),(0:Int),())]).length+[r26].length≤4294967296)) <|
 Un a2 r15 r18 a0 r26 r25 r1 a1
def Up (r25:Af×Aa×YI) (r18:Ae) (a0:Ab) (a2:Aa) (r15:Af×YBs×YI) (r1:Ab) (a1:YI):Tree (Ab×((List Aa)×Unit)×((List Ae)×Unit)):=
 .ob (E4 r25.1 r25.2.1) fun r26=>
 Uo r18 a0 a2 r26 r15 r25 r1 a1
def Uq (r25:Af×Aa×YI) (r18:Ae) (a0:Ab) (a2:Aa) (r15:Af×YBs×YI) (r1:Ab) (a1:YI):Tree (Ab×((List Aa)×Unit)×((List Ae)×Unit)):=
 .chk (decide (([]:List Aa).length+[r25.2.1].length≤4294967296)) <|
 Up r25 r18 a0 a2 r15 r1 a1
def Ur (r25:Af×Aa×YI) (r18:Ae) (a0:Ab) (a2:Aa) (r15:Af×YBs×YI) (r1:Ab) (a1:YI):Tree (Ab×((List Aa)×Unit)×((List Ae)×Unit)):=
 letI u1:=r15.1.2.2.2;letI u2:=u1.2.2.2;letI u3:=u2.2.2.2.2;letI u4:=r1.2.2;letI u5:=u4.2.2.2.2.2.2.2.2.2.2.2.2.2.2.2.2.2.2.2.2.2.2.2.2.2.2.2.2.2.2.2.2.2.2;.br (r25.2.2.1==(0:Int)) (
 Uq r25 r18 a0 a2 r15 r1 a1) (
 .leaf ((r1.1,r1.2.1,u4.1,u4.2.1,(3:Int),u4.2.2.2.1,(0:Int),(0:Int),([]:List YB),([]:List YB),(0:Int),([]:List YB),([]:List YB),(0:Int),(0:Int),([]:List YB),([]:List YB),r15.1.1,r15.1.2.1,r15.1.2.2.1,u1.1,u1.2.1,u1.2.2.1,u2.1,u2.2.1,u2.2.2.1,u2.2.2.2.1,u3.1,u3.2.1,u3.2.2.1,u3.2.2.2.1,u3.2.2.2.2.1,false,(0:Int),(0:Int),(0:Int),u5.1,u5.2.1,u5.2.2.1,u5.2.2.2.1,a1.1,()),(([]:List Aa),()),(((([]:List Ae)++[r18])++[((3:Int),a0.1,(0:Int),(([]:List YB)++a0.2.2.2.2.2.1),(([]:List YB)++a2.2.2.2.1),(0:Int),(0:Int),([]:List YB),(([]:List YB)++a0.2.2.2.2.2.2.2.2.2.2.2.2.2.2.2.2.2.2.2.2.1),(0:Int),(0:Int),(0:Int),())]),())))
def Us (r15:Af×YBs×YI) (r18:Ae) (a0:Ab) (a2:Aa) (r1:Ab) (a1:YI):Tree (Ab×((List Aa)×Unit)×((List Ae)×Unit)):=
 .ob (Ej r15.1 ((6:Int),()) r15.2.1) fun r25=>
 Ur r25 r18 a0 a2 r15 r1 a1
def Ut (a2:Aa) (r15:Af×YBs×YI) (r18:Ae) (a0:Ab) (r1:Ab) (a1:YI):Tree (Ab×((List Aa)×Unit)×((List Ae)×Unit)):=
 letI u1:=r15.1.2.2.2;letI u2:=u1.2.2.2;letI u3:=u2.2.2.2.2;letI u4:=r1.2.2;letI u5:=u4.2.2.2.2.2.2.2.2.2.2.2.2.2.2.2.2.2.2.2.2.2.2.2.2.2.2.2.2.2.2.2.2.2.2;.br (a2.1==(5:Int)) (
 Us r15 r18 a0 a2 r1 a1) (
 .leaf ((r1.1,r1.2.1,u4.1,u4.2.1,(3:Int),u4.2.2.2.1,(0:Int),(0:Int),([]:List YB),([]:List YB),(0:Int),([]:List YB),([]:List YB),(0:Int),(0:Int),([]:List YB),([]:List YB),r15.1.1,r15.1.2.1,r15.1.2.2.1,u1.1,u1.2.1,u1.2.2.1,u2.1,u2.2.1,u2.2.2.1,u2.2.2.2.1,u3.1,u3.2.1,u3.2.2.1,u3.2.2.2.1,u3.2.2.2.2.1,false,(0:Int),(0:Int),(0:Int),u5.1,u5.2.1,u5.2.2.1,u5.2.2.2.1,a1.1,()),(([]:List Aa),()),(((([]:List Ae)++[r18])++[((3:Int),a0.1,(0:Int),(([]:List YB)++a0.2.2.2.2.2.1),(([]:List YB)++a2.2.2.2.1),(0:Int),(0:Int),([]:List YB),(([]:List YB)++a0.2.2.2.2.2.2.2.2.2.2.2.2.2.2.2.2.2.2.2.2.1),(0:Int),(0:Int),(0:Int),())]),())))
def Uu (a2:Aa) (r15:Af×YBs×YI) (r18:Ae) (a0:Ab) (a1:YI) (r1:Ab):Tree (Ab×((List Aa)×Unit)×((List Ae)×Unit)):=
 .br (a2.1==(4:Int)) (
 Uk a2 r15 r18 a0 a1 r1) (
 Ut a2 r15 r18 a0 r1 a1)
def Uv (r15:Af×YBs×YI) (a0:Ab) (a2:Aa) (r18:Ae) (a1:YI) (r1:Ab):Tree (Ab×((List Aa)×Unit)×((List Ae)×Unit)):=
 .br (r15.1.2.2.1 != a0.2.2.2.2.2.2.2.2.2.2.2.2.2.2.2.2.2.2.2.1) (
 T8 a2 r15 r18 a0 a1 r1) (
 Uu a2 r15 r18 a0 a1 r1)
def Uw (r18:Ae) (a0:Ab) (a2:Aa) (r15:Af×YBs×YI) (a1:YI) (r1:Ab):Tree (Ab×((List Aa)×Unit)×((List Ae)×Unit)):=
 .chk (decide ((([]:List Ae)++[r18]).length+[((3:Int),a0.1,(0:Int),(([]:List YB)++a0.2.2.2.2.2.1),(([]:List YB)++a2.2.2.2.1),(0:Int),(0:Int),([]:List YB),(([]:List YB)++a0.2.2.2.2.2.2.2.2.2.2.2.2.2.2.2.2.2.2.2.2.1),(0:Int),(0:Int),(0:Int),())].length≤4294967296)) <|
 Uv r15 a0 a2 r18 a1 r1
def Ux (a0:Ab) (r18:Ae) (a2:Aa) (r15:Af×YBs×YI) (a1:YI) (r1:Ab):Tree (Ab×((List Aa)×Unit)×((List Ae)×Unit)):=
 .chk (decide (([]:List YB).length+a0.2.2.2.2.2.2.2.2.2.2.2.2.2.2.2.2.2.2.2.2.1.length≤4294967296)) <|
 Uw r18 a0 a2 r15 a1 r1
def Uy (a2:Aa) (a0:Ab) (r18:Ae) (r15:Af×YBs×YI) (a1:YI) (r1:Ab):Tree (Ab×((List Aa)×Unit)×((List Ae)×Unit)):=
 .chk (decide (([]:List YB).length+a2.2.2.2.1.length≤4294967296)) <|
 Ux a0 r18 a2 r15 a1 r1
def Uz (a0:Ab) (a2:Aa) (r18:Ae) (r15:Af×YBs×YI) (a1:YI) (r1:Ab):Tree (Ab×((List Aa)×Unit)×((List Ae)×Unit)):=
 .chk (decide (([]:List YB).length+a0.2.2.2.2.2.1.length≤4294967296)) <|
 Uy a2 a0 r18 r15 a1 r1
def U0 (r18:Ae) (a2:Aa) (r15:Af×YBs×YI) (a1:YI) (r28:Ae) (r27:Af×Aa×YI) (r1:Ab):Tree (Ab×((List Aa)×Unit)×((List Ae)×Unit)):=
 letI u1:=a2.2.2.2;letI u2:=u1.2.2.2.2;letI u3:=r27.1.2.2.2;letI u4:=u3.2.2.2;letI u5:=u4.2.2.2.2;letI u6:=r1.2.2.2;letI u7:=u6.2.2.2;letI u8:=u7.2.2.2;letI u9:=u8.2.2.2.2;letI u10:=u9.2.2.2.2.2.2.2.2.2.2.2.2.2.2.2.2.2.2.2;.chk (decide (((((([]:List Ae)++[r18])++[((10:Int),(0:Int),(0:Int),([]:List YB),(([]:List YB)++u1.1),r15.1.2.2.1,(0:Int),([]:List YB),(([]:List YB)++r15.1.2.2.2.1),(0:Int),(0:Int),(0:Int),())])++[((6:Int),(0:Int),(1:Int),([]:List YB),(([]:List YB)++u1.1),u2.1,u2.2.1,(([]:List YB)++r15.2.1.1),([]:List YB),(0:Int),(0:Int),a1.1,())])++[r28]).length+[((8:Int),(0:Int),(0:Int),([]:List YB),(([]:List YB)++u1.1),r27.2.1.2.2.2.2.2.2.2.1,(0:Int),(([]:List YB)++r15.2.1.1),([]:List YB),(0:Int),(0:Int),(0:Int),())].length≤4294967296)) <|
 .leaf ((r1.1,r1.2.1,r1.2.2.1,u6.1,u6.2.1,u6.2.2.1,u7.1,u7.2.1,u7.2.2.1,u8.1,u8.2.1,u8.2.2.1,u8.2.2.2.1,u9.1,u9.2.1,u9.2.2.1,u9.2.2.2.1,r27.1.1,r27.1.2.1,r27.1.2.2.1,u3.1,u3.2.1,u3.2.2.1,u4.1,u4.2.1,u4.2.2.1,u4.2.2.2.1,u5.1,u5.2.1,u5.2.2.1,u5.2.2.2.1,u5.2.2.2.2.1,u10.1,u10.2.1,u10.2.2.1,u10.2.2.2.1,false,(0:Int),(0:Int),(0:Int),a1.1,()),((([]:List Aa)++[r27.2.1]),()),((((((([]:List Ae)++[r18])++[((10:Int),(0:Int),(0:Int),([]:List YB),(([]:List YB)++u1.1),r15.1.2.2.1,(0:Int),([]:List YB),(([]:List YB)++r15.1.2.2.2.1),(0:Int),(0:Int),(0:Int),())])++[((6:Int),(0:Int),(1:Int),([]:List YB),(([]:List YB)++u1.1),u2.1,u2.2.1,(([]:List YB)++r15.2.1.1),([]:List YB),(0:Int),(0:Int),a1.1,())])++[r28])++[((8:Int),(0:Int),(0:Int),([]:List YB),(([]:List YB)++u1.1),r27.2.1.2.2.2.2.2.2.2.1,(0:Int),(([]:List YB)++r15.2.1.1),([]:List YB),(0:Int),(0:Int),(0:Int),())]),()))
def U1 (r15:Af×YBs×YI) (r18:Ae) (a2:Aa) (a1:YI) (r28:Ae) (r27:Af×Aa×YI) (r1:Ab):Tree (Ab×((List Aa)×Unit)×((List Ae)×Unit)):=
 .chk (decide (([]:List YB).length+r15.2.1.1.length≤4294967296)) <|
 U0 r18 a2 r15 a1 r28 r27 r1
def U2 (a2:Aa) (r15:Af×YBs×YI) (r18:Ae) (a1:YI) (r28:Ae) (r27:Af×Aa×YI) (r1:Ab):Tree (Ab×((List Aa)×Unit)×((List Ae)×Unit)):=
 .chk (decide (([]:List YB).length+a2.2.2.2.1.length≤4294967296)) <|
 U1 r15 r18 a2 a1 r28 r27 r1
def U3 (r18:Ae) (a2:Aa) (r15:Af×YBs×YI) (a1:YI) (r28:Ae) (r27:Af×Aa×YI) (r1:Ab):Tree (Ab×((List Aa)×Unit)×((List Ae)×Unit)):=
 letI u1:=a2.2.2.2;.chk (decide ((((([]:List Ae)++[r18])++[((10:Int),(0:Int),(0:Int),([]:List YB),(([]:List YB)++u1.1),r15.1.2.2.1,(0:Int),([]:List YB),(([]:List YB)++r15.1.2.2.2.1),(0:Int),(0:Int),(0:Int),())])++[((6:Int),(0:Int),(1:Int),([]:List YB),(([]:List YB)++u1.1),u1.2.2.2.2.1,u1.2.2.2.2.2.1,(([]:List YB)++r15.2.1.1),([]:List YB),(0:Int),(0:Int),a1.1,())]).length+[r28].length≤4294967296)) <|
 U2 a2 r15 r18 a1 r28 r27 r1
def U4 (r27:Af×Aa×YI) (r18:Ae) (a2:Aa) (r15:Af×YBs×YI) (a1:YI) (r1:Ab):Tree (Ab×((List Aa)×Unit)×((List Ae)×Unit)):=
 .ob (E4 r27.1 r27.2.1) fun r28=>
 U3 r18 a2 r15 a1 r28 r27 r1
def U5 (r27:Af×Aa×YI) (r18:Ae) (a2:Aa) (r15:Af×YBs×YI) (a1:YI) (r1:Ab):Tree (Ab×((List Aa)×Unit)×((List Ae)×Unit)):=
 .chk (decide (([]:List Aa).length+[r27.2.1].length≤4294967296)) <|
 U4 r27 r18 a2 r15 a1 r1
def U6 (r27:Af×Aa×YI) (r18:Ae) (a2:Aa) (r15:Af×YBs×YI) (a1:YI) (r1:Ab):Tree (Ab×((List Aa)×Unit)×((List Ae)×Unit)):=
 letI u1:=a2.2.2.2;letI u2:=r15.1.2.2;letI u3:=u2.2.2.2;letI u4:=u3.2.2.2;letI u5:=u4.2.2.2;letI u6:=r1.2.2.2;letI u7:=u6.2.2.2;letI u8:=u7.2.2.2;letI u9:=u8.2.2.2.2;letI u10:=u9.2.2.2.2.2.2.2.2.2.2.2.2.2.2.2.2.2.2.2;.br (r27.2.2.1==(0:Int)) (
 U5 r27 r18 a2 r15 a1 r1) (
 .leaf ((r1.1,r1.2.1,r1.2.2.1,u6.1,u6.2.1,u6.2.2.1,u7.1,u7.2.1,u7.2.2.1,u8.1,u8.2.1,u8.2.2.1,u8.2.2.2.1,u9.1,u9.2.1,u9.2.2.1,u9.2.2.2.1,r15.1.1,r15.1.2.1,u2.1,u2.2.1,u2.2.2.1,u3.1,u3.2.1,u3.2.2.1,u4.1,u4.2.1,u4.2.2.1,u5.1,u5.2.1,u5.2.2.1,u5.2.2.2.1,u10.1,u10.2.1,u10.2.2.1,u10.2.2.2.1,false,(0:Int),(0:Int),(0:Int),a1.1,()),(([]:List Aa),()),((((([]:List Ae)++[r18])++[((10:Int),(0:Int),(0:Int),([]:List YB),(([]:List YB)++u1.1),u2.1,(0:Int),([]:List YB),(([]:List YB)++u2.2.1),(0:Int),(0:Int),(0:Int),())])++[((6:Int),(0:Int),(1:Int),([]:List YB),(([]:List YB)++u1.1),u1.2.2.2.2.1,u1.2.2.2.2.2.1,(([]:List YB)++r15.2.1.1),([]:List YB),(0:Int),(0:Int),a1.1,())]),())))
def U7 (r15:Af×YBs×YI) (r18:Ae) (a2:Aa) (a1:YI) (r1:Ab):Tree (Ab×((List Aa)×Unit)×((List Ae)×Unit)):=
 .ob (Ej r15.1 ((6:Int),()) r15.2.1) fun r27=>
 U6 r27 r18 a2 r15 a1 r1
def U8 (a2:Aa) (r15:Af×YBs×YI) (r18:Ae) (a1:YI) (r1:Ab):Tree (Ab×((List Aa)×Unit)×((List Ae)×Unit)):=
 letI u1:=a2.2.2.2;letI u2:=r15.1.2.2;letI u3:=u2.2.2.2;letI u4:=u3.2.2.2;letI u5:=u4.2.2.2;letI u6:=r1.2.2.2;letI u7:=u6.2.2.2;letI u8:=u7.2.2.2;letI u9:=u8.2.2.2.2;letI u10:=u9.2.2.2.2.2.2.2.2.2.2.2.2.2.2.2.2.2.2.2;.br (a2.1==(5:Int)) (
 U7 r15 r18 a2 a1 r1) (
 .leaf ((r1.1,r1.2.1,r1.2.2.1,u6.1,u6.2.1,u6.2.2.1,u7.1,u7.2.1,u7.2.2.1,u8.1,u8.2.1,u8.2.2.1,u8.2.2.2.1,u9.1,u9.2.1,u9.2.2.1,u9.2.2.2.1,r15.1.1,r15.1.2.1,u2.1,u2.2.1,u2.2.2.1,u3.1,u3.2.1,u3.2.2.1,u4.1,u4.2.1,u4.2.2.1,u5.1,u5.2.1,u5.2.2.1,u5.2.2.2.1,u10.1,u10.2.1,u10.2.2.1,u10.2.2.2.1,false,(0:Int),(0:Int),(0:Int),a1.1,()),(([]:List Aa),()),((((([]:List Ae)++[r18])++[((10:Int),(0:Int),(0:Int),([]:List YB),(([]:List YB)++u1.1),u2.1,(0:Int),([]:List YB),(([]:List YB)++u2.2.1),(0:Int),(0:Int),(0:Int),())])++[((6:Int),(0:Int),(1:Int),([]:List YB),(([]:List YB)++u1.1),u1.2.2.2.2.1,u1.2.2.2.2.2.1,(([]:List YB)++r15.2.1.1),([]:List YB),(0:Int),(0:Int),a1.1,())]),())))
def U9 (r18:Ae) (a2:Aa) (r15:Af×YBs×YI) (a1:YI) (r1:Ab):Tree (Ab×((List Aa)×Unit)×((List Ae)×Unit)):=
 letI u1:=a2.2.2.2;.chk (decide (((([]:List Ae)++[r18])++[((10:Int),(0:Int),(0:Int),([]:List YB),(([]:List YB)++u1.1),r15.1.2.2.1,(0:Int),([]:List YB),(([]:List YB)++r15.1.2.2.2.1),(0:Int),(0:Int),(0:Int),())]).length+[((6:Int),(0:Int),(1:Int),([]:List YB),(([]:List YB)++u1.1),u1.2.2.2.2.1,u1.2.2.2.2.2.1,(([]:List YB)++r15.2.1.1),([]:List YB),(0:Int),(0:Int),a1.1,())].length≤4294967296)) <|
 U8 a2 r15 r18 a1 r1
def Va (r15:Af×YBs×YI) (r18:Ae) (a2:Aa) (a1:YI) (r1:Ab):Tree (Ab×((List Aa)×Unit)×((List Ae)×Unit)):=
 .chk (decide (([]:List YB).length+r15.2.1.1.length≤4294967296)) <|
 U9 r18 a2 r15 a1 r1
def Vb (a2:Aa) (r15:Af×YBs×YI) (r18:Ae) (a1:YI) (r1:Ab):Tree (Ab×((List Aa)×Unit)×((List Ae)×Unit)):=
 .chk (decide (([]:List YB).length+a2.2.2.2.1.length≤4294967296)) <|
 Va r15 r18 a2 a1 r1
def Vc (r18:Ae) (a2:Aa) (r15:Af×YBs×YI) (r30:Ae) (r29:Af×Aa×YI) (r1:Ab) (a1:YI):Tree (Ab×((List Aa)×Unit)×((List Ae)×Unit)):=
 letI u1:=a2.2.2.2;letI u2:=r29.1.2.2.2;letI u3:=u2.2.2.2;letI u4:=u3.2.2.2.2;letI u5:=r1.2.2.2;letI u6:=u5.2.2.2;letI u7:=u6.2.2.2;letI u8:=u7.2.2.2.2;letI u9:=u8.2.2.2.2.2.2.2.2.2.2.2.2.2.2.2.2.2.2.2;.chk (decide ((((([]:List Ae)++[r18])++[((10:Int),(0:Int),(0:Int),([]:List YB),(([]:List YB)++u1.1),r15.1.2.2.1,(0:Int),([]:List YB),(([]:List YB)++r15.1.2.2.2.1),(0:Int),(0:Int),(0:Int),())])++[r30]).length+[((8:Int),(0:Int),(0:Int),([]:List YB),(([]:List YB)++u1.1),r29.2.1.2.2.2.2.2.2.2.1,(0:Int),(([]:List YB)++r15.2.1.1),([]:List YB),(0:Int),(0:Int),(0:Int),())].length≤4294967296)) <|
 .leaf ((r1.1,r1.2.1,r1.2.2.1,u5.1,u5.2.1,u5.2.2.1,u6.1,u6.2.1,u6.2.2.1,u7.1,u7.2.1,u7.2.2.1,u7.2.2.2.1,u8.1,u8.2.1,u8.2.2.1,u8.2.2.2.1,r29.1.1,r29.1.2.1,r29.1.2.2.1,u2.1,u2.2.1,u2.2.2.1,u3.1,u3.2.1,u3.2.2.1,u3.2.2.2.1,u4.1,u4.2.1,u4.2.2.1,u4.2.2.2.1,u4.2.2.2.2.1,u9.1,u9.2.1,u9.2.2.1,u9.2.2.2.1,false,(0:Int),(0:Int),(0:Int),a1.1,()),((([]:List Aa)++[r29.2.1]),()),(((((([]:List Ae)++[r18])++[((10:Int),(0:Int),(0:Int),([]:List YB),(([]:List YB)++u1.1),r15.1.2.2.1,(0:Int),([]:List YB),(([]:List YB)++r15.1.2.2.2.1),(0:Int),(0:Int),(0:Int),())])++[r30])++[((8:Int),(0:Int),(0:Int),([]:List YB),(([]:List YB)++u1.1),r29.2.1.2.2.2.2.2.2.2.1,(0:Int),(([]:List YB)++r15.2.1.1),([]:List YB),(0:Int),(0:Int),(0:Int),())]),()))
def Vd (r15:Af×YBs×YI) (r18:Ae) (a2:Aa) (r30:Ae) (r29:Af×Aa×YI) (r1:Ab) (a1:YI):Tree (Ab×((List Aa)×Unit)×((List Ae)×Unit)):=
 .chk (decide (([]:List YB).length+r15.2.1.1.length≤4294967296)) <|
 Vc r18 a2 r15 r30 r29 r1 a1
def Ve (a2:Aa) (r15:Af×YBs×YI) (r18:Ae) (r30:Ae) (r29:Af×Aa×YI) (r1:Ab) (a1:YI):Tree (Ab×((List Aa)×Unit)×((List Ae)×Unit)):=
 .chk (decide (([]:List YB).length+a2.2.2.2.1.length≤4294967296)) <|
 Vd r15 r18 a2 r30 r29 r1 a1
def Vf (r18:Ae) (a2:Aa) (r15:Af×YBs×YI) (r30:Ae) (r29:Af×Aa×YI) (r1:Ab) (a1:YI):Tree (Ab×((List Aa)×Unit)×((List Ae)×Unit)):=
 .chk (decide (((([]:List Ae)++[r18])++[((10:Int),(0:Int),(0:Int),([]:List YB),(([]:List YB)++a2.2.2.2.1),r15.1.2.2.1,(0:Int),([]:List YB),(([]:List YB)++r15.1.2.2.2.1),(0:Int),(0:Int),(0:Int),())]).length+[r30].length≤4294967296)) <|
 Ve a2 r15 r18 r30 r29 r1 a1
def Vg (r29:Af×Aa×YI) (r18:Ae) (a2:Aa) (r15:Af×YBs×YI) (r1:Ab) (a1:YI):Tree (Ab×((List Aa)×Unit)×((List Ae)×Unit)):=
 .ob (E4 r29.1 r29.2.1) fun r30=>
 Vf r18 a2 r15 r30 r29 r1 a1
def Vh (r29:Af×Aa×YI) (r18:Ae) (a2:Aa) (r15:Af×YBs×YI) (r1:Ab) (a1:YI):Tree (Ab×((List Aa)×Unit)×((List Ae)×Unit)):=
 .chk (decide (([]:List Aa).length+[r29.2.1].length≤4294967296)) <|
 Vg r29 r18 a2 r15 r1 a1
def Vi (r29:Af×Aa×YI) (r18:Ae) (a2:Aa) (r15:Af×YBs×YI) (r1:Ab) (a1:YI):Tree (Ab×((List Aa)×Unit)×((List Ae)×Unit)):=
 letI u1:=r15.1.2.2;letI u2:=u1.2.2.2;letI u3:=u2.2.2.2;letI u4:=u3.2.2.2;letI u5:=r1.2.2.2;letI u6:=u5.2.2.2;letI u7:=u6.2.2.2;letI u8:=u7.2.2.2.2;letI u9:=u8.2.2.2.2.2.2.2.2.2.2.2.2.2.2.2.2.2.2.2;.br (r29.2.2.1==(0:Int)) (
 Vh r29 r18 a2 r15 r1 a1) (
 .leaf ((r1.1,r1.2.1,r1.2.2.1,u5.1,u5.2.1,u5.2.2.1,u6.1,u6.2.1,u6.2.2.1,u7.1,u7.2.1,u7.2.2.1,u7.2.2.2.1,u8.1,u8.2.1,u8.2.2.1,u8.2.2.2.1,r15.1.1,r15.1.2.1,u1.1,u1.2.1,u1.2.2.1,u2.1,u2.2.1,u2.2.2.1,u3.1,u3.2.1,u3.2.2.1,u4.1,u4.2.1,u4.2.2.1,u4.2.2.2.1,u9.1,u9.2.1,u9.2.2.1,u9.2.2.2.1,false,(0:Int),(0:Int),(0:Int),a1.1,()),(([]:List Aa),()),(((([]:List Ae)++[r18])++[((10:Int),(0:Int),(0:Int),([]:List YB),(([]:List YB)++a2.2.2.2.1),u1.1,(0:Int),([]:List YB),(([]:List YB)++u1.2.1),(0:Int),(0:Int),(0:Int),())]),())))
def Vj (r15:Af×YBs×YI) (r18:Ae) (a2:Aa) (r1:Ab) (a1:YI):Tree (Ab×((List Aa)×Unit)×((List Ae)×Unit)):=
 .ob (Ej r15.1 ((6:Int),()) r15.2.1) fun r29=>
 Vi r29 r18 a2 r15 r1 a1
def Vk (a2:Aa) (r15:Af×YBs×YI) (r18:Ae) (r1:Ab) (a1:YI):Tree (Ab×((List Aa)×Unit)×((List Ae)×Unit)):=
 letI u1:=r15.1.2.2;letI u2:=u1.2.2.2;letI u3:=u2.2.2.2;letI u4:=u3.2.2.2;letI u5:=r1.2.2.2;letI u6:=u5.2.2.2;letI u7:=u6.2.2.2;letI u8:=u7.2.2.2.2;letI u9:=u8.2.2.2.2.2.2.2.2.2.2.2.2.2.2.2.2.2.2.2;.br (a2.1==(5:Int)) (
 Vj r15 r18 a2 r1 a1) (
 .leaf ((r1.1,r1.2.1,r1.2.2.1,u5.1,u5.2.1,u5.2.2.1,u6.1,u6.2.1,u6.2.2.1,u7.1,u7.2.1,u7.2.2.1,u7.2.2.2.1,u8.1,u8.2.1,u8.2.2.1,u8.2.2.2.1,r15.1.1,r15.1.2.1,u1.1,u1.2.1,u1.2.2.1,u2.1,u2.2.1,u2.2.2.1,u3.1,u3.2.1,u3.2.2.1,u4.1,u4.2.1,u4.2.2.1,u4.2.2.2.1,u9.1,u9.2.1,u9.2.2.1,u9.2.2.2.1,false,(0:Int),(0:Int),(0:Int),a1.1,()),(([]:List Aa),()),(((([]:List Ae)++[r18])++[((10:Int),(0:Int),(0:Int),([]:List YB),(([]:List YB)++a2.2.2.2.1),u1.1,(0:Int),([]:List YB),(([]:List YB)++u1.2.1),(0:Int),(0:Int),(0:Int),())]),())))
def Vl (a2:Aa) (r15:Af×YBs×YI) (r18:Ae) (a1:YI) (r1:Ab):Tree (Ab×((List Aa)×Unit)×((List Ae)×Unit)):=
 .br (a2.1==(4:Int)) (
 Vb a2 r15 r18 a1 r1) (
 Vk a2 r15 r18 r1 a1)
def Vm (r18:Ae) (a2:Aa) (r15:Af×YBs×YI) (a1:YI) (r1:Ab):Tree (Ab×((List Aa)×Unit)×((List Ae)×Unit)):=
 .chk (decide ((([]:List Ae)++[r18]).length+[((10:Int),(0:Int),(0:Int),([]:List YB),(([]:List YB)++a2.2.2.2.1),r15.1.2.2.1,(0:Int),([]:List YB),(([]:List YB)++r15.1.2.2.2.1),(0:Int),(0:Int),(0:Int),())].length≤4294967296)) <|
 Vl a2 r15 r18 a1 r1
def Vn (r15:Af×YBs×YI) (r18:Ae) (a2:Aa) (a1:YI) (r1:Ab):Tree (Ab×((List Aa)×Unit)×((List Ae)×Unit)):=
 .chk (decide (([]:List YB).length+r15.1.2.2.2.1.length≤4294967296)) <|
 Vm r18 a2 r15 a1 r1
def Vo (a2:Aa) (r15:Af×YBs×YI) (r18:Ae) (a1:YI) (r1:Ab):Tree (Ab×((List Aa)×Unit)×((List Ae)×Unit)):=
 .chk (decide (([]:List YB).length+a2.2.2.2.1.length≤4294967296)) <|
 Vn r15 r18 a2 a1 r1
def Vp (r18:Ae) (a2:Aa) (r15:Af×YBs×YI) (a1:YI) (r32:Ae) (r31:Af×Aa×YI) (r1:Ab):Tree (Ab×((List Aa)×Unit)×((List Ae)×Unit)):=
 letI u1:=a2.2.2.2;letI u2:=u1.2.2.2.2;letI u3:=r31.1.2.2.2;letI u4:=u3.2.2.2;letI u5:=u4.2.2.2.2;letI u6:=r1.2.2.2;letI u7:=u6.2.2.2;letI u8:=u7.2.2.2;letI u9:=u8.2.2.2.2;letI u10:=u9.2.2.2.2.2.2.2.2.2.2.2.2.2.2.2.2.2.2.2;letI u11:=u10.2.2.2;.chk (decide ((((([]:List Ae)++[r18])++[((6:Int),(0:Int),(1:Int),([]:List YB),(([]:List YB)++u1.1),u2.1,u2.2.1,(([]:List YB)++r15.2.1.1),([]:List YB),(0:Int),(0:Int),a1.1,())])++[r32]).length+[((8:Int),(0:Int),(0:Int),([]:List YB),(([]:List YB)++u1.1),r31.2.1.2.2.2.2.2.2.2.1,(0:Int),(([]:List YB)++r15.2.1.1),([]:List YB),(0:Int),(0:Int),(0:Int),())].length≤4294967296)) <|
 .leaf ((r1.1,r1.2.1,r1.2.2.1,u6.1,u6.2.1,u6.2.2.1,u7.1,u7.2.1,u7.2.2.1,u8.1,u8.2.1,u8.2.2.1,u8.2.2.2.1,u9.1,u9.2.1,u9.2.2.1,u9.2.2.2.1,r31.1.1,r31.1.2.1,r31.1.2.2.1,u3.1,u3.2.1,u3.2.2.1,u4.1,u4.2.1,u4.2.2.1,u4.2.2.2.1,u5.1,u5.2.1,u5.2.2.1,u5.2.2.2.1,u5.2.2.2.2.1,u10.1,u10.2.1,u10.2.2.1,u11.1,u11.2.1,u11.2.2.1,u11.2.2.2.1,u11.2.2.2.2.1,a1.1,()),((([]:List Aa)++[r31.2.1]),()),(((((([]:List Ae)++[r18])++[((6:Int),(0:Int),(1:Int),([]:List YB),(([]:List YB)++u1.1),u2.1,u2.2.1,(([]:List YB)++r15.2.1.1),([]:List YB),(0:Int),(0:Int),a1.1,())])++[r32])++[((8:Int),(0:Int),(0:Int),([]:List YB),(([]:List YB)++u1.1),r31.2.1.2.2.2.2.2.2.2.1,(0:Int),(([]:List YB)++r15.2.1.1),([]:List YB),(0:Int),(0:Int),(0:Int),())]),()))
def Vq (r15:Af×YBs×YI) (r18:Ae) (a2:Aa) (a1:YI) (r32:Ae) (r31:Af×Aa×YI) (r1:Ab):Tree (Ab×((List Aa)×Unit)×((List Ae)×Unit)):=
 .chk (decide (([]:List YB).length+r15.2.1.1.length≤4294967296)) <|
 Vp r18 a2 r15 a1 r32 r31 r1
def Vr (a2:Aa) (r15:Af×YBs×YI) (r18:Ae) (a1:YI) (r32:Ae) (r31:Af×Aa×YI) (r1:Ab):Tree (Ab×((List Aa)×Unit)×((List Ae)×Unit)):=
 .chk (decide (([]:List YB).length+a2.2.2.2.1.length≤4294967296)) <|
 Vq r15 r18 a2 a1 r32 r31 r1
def Vs (r18:Ae) (a2:Aa) (r15:Af×YBs×YI) (a1:YI) (r32:Ae) (r31:Af×Aa×YI) (r1:Ab):Tree (Ab×((List Aa)×Unit)×((List Ae)×Unit)):=
 letI u1:=a2.2.2.2.2.2.2.2;.chk (decide (((([]:List Ae)++[r18])++[((6:Int),(0:Int),(1:Int),([]:List YB),(([]:List YB)++a2.2.2.2.1),u1.1,u1.2.1,(([]:List YB)++r15.2.1.1),([]:List YB),(0:Int),(0:Int),a1.1,())]).length+[r32].length≤4294967296)) <|
 Vr a2 r15 r18 a1 r32 r31 r1
def Vt (r31:Af×Aa×YI) (r18:Ae) (a2:Aa) (r15:Af×YBs×YI) (a1:YI) (r1:Ab):Tree (Ab×((List Aa)×Unit)×((List Ae)×Unit)):=
 .ob (E4 r31.1 r31.2.1) fun r32=>
 Vs r18 a2 r15 a1 r32 r31 r1
def Vu (r31:Af×Aa×YI) (r18:Ae) (a2:Aa) (r15:Af×YBs×YI) (a1:YI) (r1:Ab):Tree (Ab×((List Aa)×Unit)×((List Ae)×Unit)):=
 .chk (decide (([]:List Aa).length+[r31.2.1].length≤4294967296)) <|
 Vt r31 r18 a2 r15 a1 r1
def Vv (r31:Af×Aa×YI) (r18:Ae) (a2:Aa) (r15:Af×YBs×YI) (a1:YI) (r1:Ab):Tree (Ab×((List Aa)×Unit)×((List Ae)×Unit)):=
 letI u1:=a2.2.2.2.2.2.2.2;letI u2:=r15.1.2.2.2;letI u3:=u2.2.2.2;letI u4:=u3.2.2.2.2;letI u5:=r1.2.2.2;letI u6:=u5.2.2.2;letI u7:=u6.2.2.2;letI u8:=u7.2.2.2.2;letI u9:=u8.2.2.2.2.2.2.2.2.2.2.2.2.2.2.2.2.2.2.2;letI u10:=u9.2.2.2;.br (r31.2.2.1==(0:Int)) (
 Vu r31 r18 a2 r15 a1 r1) (
 .leaf ((r1.1,r1.2.1,r1.2.2.1,u5.1,u5.2.1,u5.2.2.1,u6.1,u6.2.1,u6.2.2.1,u7.1,u7.2.1,u7.2.2.1,u7.2.2.2.1,u8.1,u8.2.1,u8.2.2.1,u8.2.2.2.1,r15.1.1,r15.1.2.1,r15.1.2.2.1,u2.1,u2.2.1,u2.2.2.1,u3.1,u3.2.1,u3.2.2.1,u3.2.2.2.1,u4.1,u4.2.1,u4.2.2.1,u4.2.2.2.1,u4.2.2.2.2.1,u9.1,u9.2.1,u9.2.2.1,u10.1,u10.2.1,u10.2.2.1,u10.2.2.2.1,u10.2.2.2.2.1,a1.1,()),(([]:List Aa),()),(((([]:List Ae)++[r18])++[((6:Int),(0:Int),(1:Int),([]:List YB),(([]:List YB)++a2.2.2.2.1),u1.1,u1.2.1,(([]:List YB)++r15.2.1.1),([]:List YB),(0:Int),(0:Int),a1.1,())]),())))
def Vw (r15:Af×YBs×YI) (r18:Ae) (a2:Aa) (a1:YI) (r1:Ab):Tree (Ab×((List Aa)×Unit)×((List Ae)×Unit)):=
 .ob (Ej r15.1 ((6:Int),()) r15.2.1) fun r31=>
 Vv r31 r18 a2 r15 a1 r1
def Vx (a2:Aa) (r15:Af×YBs×YI) (r18:Ae) (a1:YI) (r1:Ab):Tree (Ab×((List Aa)×Unit)×((List Ae)×Unit)):=
 letI u1:=a2.2.2.2.2.2.2.2;letI u2:=r15.1.2.2.2;letI u3:=u2.2.2.2;letI u4:=u3.2.2.2.2;letI u5:=r1.2.2.2;letI u6:=u5.2.2.2;letI u7:=u6.2.2.2;letI u8:=u7.2.2.2.2;letI u9:=u8.2.2.2.2.2.2.2.2.2.2.2.2.2.2.2.2.2.2.2;letI u10:=u9.2.2.2;.br (a2.1==(5:Int)) (
 Vw r15 r18 a2 a1 r1) (
 .leaf ((r1.1,r1.2.1,r1.2.2.1,u5.1,u5.2.1,u5.2.2.1,u6.1,u6.2.1,u6.2.2.1,u7.1,u7.2.1,u7.2.2.1,u7.2.2.2.1,u8.1,u8.2.1,u8.2.2.1,u8.2.2.2.1,r15.1.1,r15.1.2.1,r15.1.2.2.1,u2.1,u2.2.1,u2.2.2.1,u3.1,u3.2.1,u3.2.2.1,u3.2.2.2.1,u4.1,u4.2.1,u4.2.2.1,u4.2.2.2.1,u4.2.2.2.2.1,u9.1,u9.2.1,u9.2.2.1,u10.1,u10.2.1,u10.2.2.1,u10.2.2.2.1,u10.2.2.2.2.1,a1.1,()),(([]:List Aa),()),(((([]:List Ae)++[r18])++[((6:Int),(0:Int),(1:Int),([]:List YB),(([]:List YB)++a2.2.2.2.1),u1.1,u1.2.1,(([]:List YB)++r15.2.1.1),([]:List YB),(0:Int),(0:Int),a1.1,())]),())))
def Vy (r18:Ae) (a2:Aa) (r15:Af×YBs×YI) (a1:YI) (r1:Ab):Tree (Ab×((List Aa)×Unit)×((List Ae)×Unit)):=
 letI u1:=a2.2.2.2.2.2.2.2;.chk (decide ((([]:List Ae)++[r18]).length+[((6:Int),(0:Int),(1:Int),([]:List YB),(([]:List YB)++a2.2.2.2.1),u1.1,u1.2.1,(([]:List YB)++r15.2.1.1),([]:List YB),(0:Int),(0:Int),a1.1,())].length≤4294967296)) <|
 Vx a2 r15 r18 a1 r1
def Vz (r15:Af×YBs×YI) (r18:Ae) (a2:Aa) (a1:YI) (r1:Ab):Tree (Ab×((List Aa)×Unit)×((List Ae)×Unit)):=
 .chk (decide (([]:List YB).length+r15.2.1.1.length≤4294967296)) <|
 Vy r18 a2 r15 a1 r1
def V0 (a2:Aa) (r15:Af×YBs×YI) (r18:Ae) (a1:YI) (r1:Ab):Tree (Ab×((List Aa)×Unit)×((List Ae)×Unit)):=
 .chk (decide (([]:List YB).length+a2.2.2.2.1.length≤4294967296)) <|
 Vz r15 r18 a2 a1 r1
def V2 (r18:Ae) (r34:Ae) (a2:Aa) (r33:Af×Aa×YI) (r15:Af×YBs×YI) (r1:Ab) (a1:YI):Tree (Ab×((List Aa)×Unit)×((List Ae)×Unit)):=
 letI u1:=r33.1.2.2.2;letI u2:=u1.2.2.2;letI u3:=u2.2.2.2.2;letI u4:=r1.2.2.2;letI u5:=u4.2.2.2;letI u6:=u5.2.2.2;letI u7:=u6.2.2.2.2;letI u8:=u7.2.2.2.2.2.2.2.2.2.2.2.2.2.2.2.2.2.2.2;letI u9:=u8.2.2.2;.chk (decide (((([]:List Ae)++[r18])++[r34]).length+[((8:Int),(0:Int),(0:Int),([]:List YB),(([]:List YB)++a2.2.2.2.1),r33.2.1.2.2.2.2.2.2.2.1,(0:Int),(([]:List YB)++r15.2.1.1),([]:List YB),(0:Int),(0:Int),(0:Int),())].length≤4294967296)) <|
 .leaf ((r1.1,r1.2.1,r1.2.2.1,u4.1,u4.2.1,u4.2.2.1,u5.1,u5.2.1,u5.2.2.1,u6.1,u6.2.1,u6.2.2.1,u6.2.2.2.1,u7.1,u7.2.1,u7.2.2.1,u7.2.2.2.1,r33.1.1,r33.1.2.1,r33.1.2.2.1,u1.1,u1.2.1,u1.2.2.1,u2.1,u2.2.1,u2.2.2.1,u2.2.2.2.1,u3.1,u3.2.1,u3.2.2.1,u3.2.2.2.1,u3.2.2.2.2.1,u8.1,u8.2.1,u8.2.2.1,u9.1,u9.2.1,u9.2.2.1,u9.2.2.2.1,u9.2.2.2.2.1,a1.1,()),((([]:List Aa)++[r33.2.1]),()),((((([]:List Ae)++[r18])++[r34])++[((8:Int),(0:Int),(0:Int),([]:List YB),(([]:List YB)++a2.2.2.2.1),r33.2.1.2.2.2.2.2.2.2.1,(0:Int),(([]:List YB)++r15.2.1.1),([]:List YB),(0:Int),(0:Int),(0:Int),())]),()))
def V3 (r15:Af×YBs×YI) (r18:Ae) (r34:Ae) (a2:Aa) (r33:Af×Aa×YI) (r1:Ab) (a1:YI):Tree (Ab×((List Aa)×Unit)×((List Ae)×Unit)):=
 .chk (decide (([]:List YB).length+r15.2.1.1.length≤4294967296)) <|
 V2 r18 r34 a2 r33 r15 r1 a1
def V4 (a2:Aa) (r15:Af×YBs×YI) (r18:Ae) (r34:Ae) (r33:Af×Aa×YI) (r1:Ab) (a1:YI):Tree (Ab×((List Aa)×Unit)×((List Ae)×Unit)):=
 .chk (decide (([]:List YB).length+a2.2.2.2.1.length≤4294967296)) <|
 V3 r15 r18 r34 a2 r33 r1 a1
def V5 (r18:Ae) (r34:Ae) (a2:Aa) (r15:Af×YBs×YI) (r33:Af×Aa×YI) (r1:Ab) (a1:YI):Tree (Ab×((List Aa)×Unit)×((List Ae)×Unit)):=
 .chk (decide ((([]:List Ae)++[r18]).length+[r34].length≤4294967296)) <|
 V4 a2 r15 r18 r34 r33 r1 a1
def V6 (r33:Af×Aa×YI) (r18:Ae) (a2:Aa) (r15:Af×YBs×YI) (r1:Ab) (a1:YI):Tree (Ab×((List Aa)×Unit)×((List Ae)×Unit)):=
 .ob (E4 r33.1 r33.2.1) fun r34=>
 V5 r18 r34 a2 r15 r33 r1 a1
def V7 (r33:Af×Aa×YI) (r18:Ae) (a2:Aa) (r15:Af×YBs×YI) (r1:Ab) (a1:YI):Tree (Ab×((List Aa)×Unit)×((List Ae)×Unit)):=
 .chk (decide (([]:List Aa).length+[r33.2.1].length≤4294967296)) <|
 V6 r33 r18 a2 r15 r1 a1
def V8 (r33:Af×Aa×YI) (r18:Ae) (a2:Aa) (r15:Af×YBs×YI) (r1:Ab) (a1:YI):Tree (Ab×((List Aa)×Unit)×((List Ae)×Unit)):=
 letI u1:=r15.1.2.2.2;letI u2:=u1.2.2.2;letI u3:=u2.2.2.2.2;letI u4:=r1.2.2.2;letI u5:=u4.2.2.2;letI u6:=u5.2.2.2;letI u7:=u6.2.2.2.2;letI u8:=u7.2.2.2.2.2.2.2.2.2.2.2.2.2.2.2.2.2.2.2;letI u9:=u8.2.2.2;.br (r33.2.2.1==(0:Int)) (
 V7 r33 r18 a2 r15 r1 a1) (
 .leaf ((r1.1,r1.2.1,r1.2.2.1,u4.1,u4.2.1,u4.2.2.1,u5.1,u5.2.1,u5.2.2.1,u6.1,u6.2.1,u6.2.2.1,u6.2.2.2.1,u7.1,u7.2.1,u7.2.2.1,u7.2.2.2.1,r15.1.1,r15.1.2.1,r15.1.2.2.1,u1.1,u1.2.1,u1.2.2.1,u2.1,u2.2.1,u2.2.2.1,u2.2.2.2.1,u3.1,u3.2.1,u3.2.2.1,u3.2.2.2.1,u3.2.2.2.2.1,u8.1,u8.2.1,u8.2.2.1,u9.1,u9.2.1,u9.2.2.1,u9.2.2.2.1,u9.2.2.2.2.1,a1.1,()),(([]:List Aa),()),((([]:List Ae)++[r18]),())))
def V9 (r15:Af×YBs×YI) (r18:Ae) (a2:Aa) (r1:Ab) (a1:YI):Tree (Ab×((List Aa)×Unit)×((List Ae)×Unit)):=
 .ob (Ej r15.1 ((6:Int),()) r15.2.1) fun r33=>
 V8 r33 r18 a2 r15 r1 a1
def Wa (a2:Aa) (r15:Af×YBs×YI) (r18:Ae) (r1:Ab) (a1:YI):Tree (Ab×((List Aa)×Unit)×((List Ae)×Unit)):=
 letI u1:=r15.1.2.2.2;letI u2:=u1.2.2.2;letI u3:=u2.2.2.2.2;letI u4:=r1.2.2.2;letI u5:=u4.2.2.2;letI u6:=u5.2.2.2;letI u7:=u6.2.2.2.2;letI u8:=u7.2.2.2.2.2.2.2.2.2.2.2.2.2.2.2.2.2.2.2;letI u9:=u8.2.2.2;.br (a2.1==(5:Int)) (
 V9 r15 r18 a2 r1 a1) (
 .leaf ((r1.1,r1.2.1,r1.2.2.1,u4.1,u4.2.1,u4.2.2.1,u5.1,u5.2.1,u5.2.2.1,u6.1,u6.2.1,u6.2.2.1,u6.2.2.2.1,u7.1,u7.2.1,u7.2.2.1,u7.2.2.2.1,r15.1.1,r15.1.2.1,r15.1.2.2.1,u1.1,u1.2.1,u1.2.2.1,u2.1,u2.2.1,u2.2.2.1,u2.2.2.2.1,u3.1,u3.2.1,u3.2.2.1,u3.2.2.2.1,u3.2.2.2.2.1,u8.1,u8.2.1,u8.2.2.1,u9.1,u9.2.1,u9.2.2.1,u9.2.2.2.1,u9.2.2.2.2.1,a1.1,()),(([]:List Aa),()),((([]:List Ae)++[r18]),())))
def Wb (a2:Aa) (r15:Af×YBs×YI) (r18:Ae) (a1:YI) (r1:Ab):Tree (Ab×((List Aa)×Unit)×((List Ae)×Unit)):=
 .br (a2.1==(4:Int)) (
 V0 a2 r15 r18 a1 r1) (
 Wa a2 r15 r18 r1 a1)
def R9 (r15:Af×YBs×YI) (a0:Ab) (a2:Aa) (r18:Ae) (a1:YI) (r1:Ab):Tree (Ab×((List Aa)×Unit)×((List Ae)×Unit)):=
 .br (r15.1.2.2.1 != a0.2.2.2.2.2.2.2.2.2.2.2.2.2.2.2.2.2.2.2.1) (
 Vo a2 r15 r18 a1 r1) (
 Wb a2 r15 r18 a1 r1)
def Sa (a0:Ab) (a2:Aa) (r18:Ae) (r15:Af×YBs×YI) (a1:YI) (r1:Ab):Tree (Ab×((List Aa)×Unit)×((List Ae)×Unit)):=
 .br (a0.2.2.2.2.1==(2:Int)) (
 Uz a0 a2 r18 r15 a1 r1) (
 R9 r15 a0 a2 r18 a1 r1)
def Sb (r18:Ae) (a0:Ab) (a2:Aa) (r15:Af×YBs×YI) (a1:YI) (r1:Ab):Tree (Ab×((List Aa)×Unit)×((List Ae)×Unit)):=
 .chk (decide (([]:List Ae).length+[r18].length≤4294967296)) <|
 Sa a0 a2 r18 r15 a1 r1
def Sc (r16:YBs×(Bool×Unit)) (a2:Aa) (r17:YBs) (a0:Ab) (r15:Af×YBs×YI) (a1:YI) (r1:Ab):Tree (Ab×((List Aa)×Unit)×((List Ae)×Unit)):=
 .ob (Apu r16.1 (a2.2.2.2.1,()) r17) fun r18=>
 Sb r18 a0 a2 r15 a1 r1
def Sd (a2:Aa) (r16:YBs×(Bool×Unit)) (a0:Ab) (r15:Af×YBs×YI) (a1:YI) (r1:Ab):Tree (Ab×((List Aa)×Unit)×((List Ae)×Unit)):=
 .ob (Ha ((1:Int),()) a2) fun r17=>
 Sc r16 a2 r17 a0 r15 a1 r1
def Se (a0:Ab) (a2:Aa) (r15:Af×YBs×YI) (a1:YI) (r1:Ab):Tree (Ab×((List Aa)×Unit)×((List Ae)×Unit)):=
 letI u1:=a0.2.2.2.2.2.2.2.2.2.2.2.2.2.2.2.2.2;letI u2:=u1.2.2.2;letI u3:=u2.2.2.2;letI u4:=u3.2.2.2.2;.ob (Wn (u1.1,u1.2.1,u1.2.2.1,u2.1,u2.2.1,u2.2.2.1,u3.1,u3.2.1,u3.2.2.1,u3.2.2.2.1,u4.1,u4.2.1,u4.2.2.1,u4.2.2.2.1,u4.2.2.2.2.1,()) (a2.2.2.2.2.2.2.2.1,())) fun r16=>
 Sd a2 r16 a0 r15 a1 r1
def Sf (r15:Af×YBs×YI) (r1:Ab) (a0:Ab) (a2:Aa) (a1:YI):Tree (Ab×((List Aa)×Unit)×((List Ae)×Unit)):=
 .br (r15.2.2.1 != (0:Int)) (
 .leaf (r1,(([]:List Aa),()),(([]:List Ae),()))) (
 Se a0 a2 r15 a1 r1)
def Hz (a0:Ab) (a1:YI) (a2:Aa) (r1:Ab):Tree (Ab×((List Aa)×Unit)×((List Ae)×Unit)):=
 letI u1:=a0.2.2.2.2.2.2.2.2.2.2.2.2.2.2.2.2.2;letI u2:=u1.2.2.2;letI u3:=u2.2.2.2;letI u4:=u3.2.2.2.2;.ob (Hb (u1.1,u1.2.1,u1.2.2.1,u2.1,u2.2.1,u2.2.2.1,u3.1,u3.2.1,u3.2.2.1,u3.2.2.2.1,u4.1,u4.2.1,u4.2.2.1,u4.2.2.2.1,u4.2.2.2.2.1,()) a1 a2) fun r15=>
 Sf r15 r1 a0 a2 a1
def Si (a0:Ab) (r1:Ab) (a1:YI) (a2:Aa):Tree (Ab×((List Aa)×Unit)×((List Ae)×Unit)):=
 .br (decide (a0.2.2.2.2.1<(2:Int))) (
 .leaf (r1,(([]:List Aa),()),(([]:List Ae),()))) (
 Hz a0 a1 a2 r1)
def Sj (r14:(Bool×Unit)) (r1:Ab) (a0:Ab) (a1:YI) (a2:Aa):Tree (Ab×((List Aa)×Unit)×((List Ae)×Unit)):=
 .br (!r14.1) (
 .leaf (r1,(([]:List Aa),()),(([]:List Ae),()))) (
 Si a0 r1 a1 a2)
def H0 (a2:Aa) (r1:Ab) (a0:Ab) (a1:YI):Tree (Ab×((List Aa)×Unit)×((List Ae)×Unit)):=
 .ob (Hx (a2.1,())) fun r14=>
 Sj r14 r1 a0 a1 a2
def P0 (a0:Ab) (a1:YI) (a2:Aa):Tree (Ab×((List Aa)×Unit)×((List Ae)×Unit)):=
 letI u1:=a0.2.2.2.2;letI u2:=a2.2.2.2;.ob (Rn a0) fun r1=>letI u3:=r1.2.2;letI u4:=u3.2.2.2.2.2.2.2.2.2.2.2.2.2.2.2.2.2.2.2.2.2.2.2.2.2.2.2.2.2.2.2.2.2.2;
 .ob (K9 a0) fun r2=>
 .br (!r2.1) (
 .leaf (r1,(([]:List Aa),()),(([]:List Ae),()))) (
 .ob (Bd a1 ((0:Int),()) ((1000000:Int),())) fun r3=>
 .br (!r3.1) (
 .leaf (r1,(([]:List Aa),()),(([]:List Ae),()))) (
 .ob (Id a2) fun r4=>
 .br (!r4.1) (
 .leaf (r1,(([]:List Aa),()),(([]:List Ae),()))) (
 .br (a2.1==(2:Int)) (
 .br (u1.1==(1:Int)) (
 .ob (Ow (a2.2.2.1,()) (u1.2.1,())) fun r5=>
 .br r5.1 (
 .ob (X9 (a0.2.1,()) (a0.1,()) a2) fun r6=>letI u5:=r6.1.2.2;letI u6:=u5.2.2;letI u7:=u6.2.2.2;
 .ob (Zb (a0.2.1,()) (u1.2.1,()) (u2.1,()) ((0:Int),())) fun r7=>
 .ob (Kg ((0:Int),()) (u2.1,()) r7) fun r8=>letI u8:=r8.2.2.2;letI u9:=u8.2.2.2;letI u10:=u9.2.2.2.2;
 .ob (Cj a1) fun r9=>
 .chk (decide (([]:List YB).length+a0.2.2.2.2.2.1.length≤4294967296)) <|
 .chk (decide (([]:List YB).length+a2.2.2.2.1.length≤4294967296)) <|
 .chk (decide (([]:List Ae).length+[((2:Int),a0.1,(0:Int),(([]:List YB)++u1.2.1),(([]:List YB)++u2.1),(0:Int),(0:Int),([]:List YB),([]:List YB),(0:Int),(0:Int),a1.1,())].length≤4294967296)) <|
 .ob (M4 (a0.2.1,())) fun r10=>
 .ob (J1 (r6.1.2.1,()) (u5.1,()) (u5.2.1,()) (u6.1,()) (u6.2.1,())) fun r11=>
 .ob (Ag3 r10 r11) fun r12=>
 .chk (decide ((([]:List Ae)++[((2:Int),a0.1,(0:Int),(([]:List YB)++u1.2.1),(([]:List YB)++u2.1),(0:Int),(0:Int),([]:List YB),([]:List YB),(0:Int),(0:Int),a1.1,())]).length+[r12].length≤4294967296)) <|
 .ob (Ou r6.1) fun r13=>
 .chk (decide (([]:List Aa).length+[r13].length≤4294967296)) <|
 .leaf ((r1.1,r1.2.1,u3.1,u3.2.1,(2:Int),u3.2.2.2.1,r6.1.1,r6.1.2.1,u5.1,u5.2.1,u6.1,u6.2.1,u6.2.2.1,u7.1,u7.2.1,u7.2.2.1,u7.2.2.2.1,r8.1,r8.2.1,r8.2.2.1,u8.1,u8.2.1,u8.2.2.1,u9.1,u9.2.1,u9.2.2.1,u9.2.2.2.1,u10.1,u10.2.1,u10.2.2.1,u10.2.2.2.1,u10.2.2.2.2.1,r9.1,r9.2.1,r9.2.2.1,r9.2.2.2.1,u4.1,u4.2.1,u4.2.2.1,u4.2.2.2.1,u4.2.2.2.2.1,()),((([]:List Aa)++[r13]),()),(((([]:List Ae)++[((2:Int),a0.1,(0:Int),(([]:List YB)++u1.2.1),(([]:List YB)++u2.1),(0:Int),(0:Int),([]:List YB),([]:List YB),(0:Int),(0:Int),a1.1,())])++[r12]),()))) (
 H0 a2 r1 a0 a1)) (
 H0 a2 r1 a0 a1)) (
 H0 a2 r1 a0 a1))))
def Ix (a0:Ab) (a1:YI) (a2:Aa):Option (Ab×((List Aa)×Unit)×((List Ae)×Unit)):=(P0 a0 a1 a2).val
def S8 (a0:YI):Tree (YBs):=
 .ob (Bd a0 ((0:Int),()) ((4294967295:Int),())) fun r1=>
 .br (!r1.1) (
 .leaf (([]:List YB),())) (
 .ob (Fo (([]:List YB),()) a0 ((4:Int),())) fun r2=>
 .leaf r2)
def J2 (a0:YI):Option (YBs):=(S8 a0).val
def Af4 (a0:Aw) (a1:YI):Tree ((Bool×Unit)×Aw):=
 .ob (Bi a0 a1) fun r1=>
 .leaf (((r1.1.1==(0:Int)),()),(a0.1,r1.2.2.1,r1.2.2.2.1,()))
def Cn (a0:Aw) (a1:YI):Option ((Bool×Unit)×Aw):=(Af4 a0 a1).val
def Oh (x3:(List YI)×Int×Int×(List YB)×Int×Int×Unit):Option (((List YI)×Int×Int×(List YB)×Int×Int×Unit)⊕(((List YI)×(List YB)×Int×Int×Unit))):=
 letI u1:=x3.2.2.2;Tree.val (α:=((List YI)×Int×Int×(List YB)×Int×Int×Unit)⊕(((List YI)×(List YB)×Int×Int×Unit))) <|
 .br (decide (x3.2.2.1>(0:Int))) (
 .ob (Cn (u1.1,u1.2.1,u1.2.2.1,()) ((6:Int),())) fun r4=>
 .br r4.1.1 (
 .ob (A6 (u1.1,r4.2.2.1,r4.2.2.2.1,()) ([((1:Int),()),((32:Int),()),((900:Int),()),((1023:Int),()),((1024:Int),()),((1025:Int),()),((3000:Int),())],())) fun r5=>
 .ob (Bi (u1.1,r5.2.2.1,r5.2.2.2.1,()) ((40:Int),())) fun r6=>
 .ob (A6 (u1.1,r6.2.2.1,r6.2.2.2.1,()) ([((0:Int),()),((0:Int),()),((20:Int),()),((1000:Int),())],())) fun r7=>
 .chk (decide (x3.1.length+[((i64.wrap ((i64.wrap ((i64.wrap (x3.2.1+r5.1.1))+r6.1.1))-r7.1.1)),())].length≤4294967296)) <|
 .leaf (.inl ((x3.1++[((i64.wrap ((i64.wrap ((i64.wrap (x3.2.1+r5.1.1))+r6.1.1))-r7.1.1)),())]),(i64.wrap (x3.2.1+r5.1.1)),(i64.wrap (x3.2.2.1-(1:Int))),u1.1,r7.2.2.1,r7.2.2.2.1,()))) (
 .ob (Bi (u1.1,r4.2.2.1,r4.2.2.2.1,()) ((40:Int),())) fun r8=>
 .ob (A6 (u1.1,r8.2.2.1,r8.2.2.2.1,()) ([((0:Int),()),((0:Int),()),((20:Int),()),((1000:Int),())],())) fun r9=>
 .chk (decide (x3.1.length+[((i64.wrap ((i64.wrap (x3.2.1+r8.1.1))-r9.1.1)),())].length≤4294967296)) <|
 .leaf (.inl ((x3.1++[((i64.wrap ((i64.wrap (x3.2.1+r8.1.1))-r9.1.1)),())]),x3.2.1,(i64.wrap (x3.2.2.1-(1:Int))),u1.1,r9.2.2.1,r9.2.2.2.1,())))) (
 .leaf (.inr (x3.1,u1.1,u1.2.1,u1.2.2.1,())))
def Af5 (a0:Aw) (a1:YI):Tree (((List YI)×Unit)×Aw):=
 .ob (A6 a0 ([((0:Int),()),((0:Int),()),((0:Int),()),((1000:Int),()),((5000:Int),()),((281474976710000:Int),())],())) fun r1=>
 .ob (Bi (a0.1,r1.2.2.1,r1.2.2.2.1,()) ((i64.wrap (a1.1+(1:Int))),())) fun r2=>
 .ob (Az Oh (([]:List YI),r1.1.1,r2.1.1,a0.1,r2.2.2.1,r2.2.2.2.1,())) fun o10=>
 .ob (Cn (o10.2.1,o10.2.2.1,o10.2.2.2.1,()) ((5:Int),())) fun r11=>
 .br r11.1.1 (
 .ob (A6 (o10.2.1,r11.2.2.1,r11.2.2.2.1,()) ([((-1:Int),()),((281474976710655:Int),()),((281474976710656:Int),())],())) fun r12=>
 .chk (decide (o10.1.length+[r12.1].length≤4294967296)) <|
 .leaf (((o10.1++[r12.1]),()),(o10.2.1,r12.2.2.1,r12.2.2.2.1,()))) (
 .leaf ((o10.1,()),(o10.2.1,r11.2.2.1,r11.2.2.2.1,())))
def Ag7 (a0:Aw) (a1:YI):Option (((List YI)×Unit)×Aw):=(Af5 a0 a1).val
def Rh (x2:(List YI)×Int×Int×(List YI)×Int×(List YI)×Unit):Option (((List YI)×Int×Int×(List YI)×Int×(List YI)×Unit)⊕((Int×(List YI)×Int×(List YI)×Unit))):=
 letI u1:=x2.2.2.2;Tree.val (α:=((List YI)×Int×Int×(List YI)×Int×(List YI)×Unit)⊕((Int×(List YI)×Int×(List YI)×Unit))) <|
 .br (decide (x2.2.1<(x2.1.length:Int))) (
 .ob (idx x2.1 x2.2.1) fun e3=>
 .ob (Oz (u1.2.1,u1.2.2.1,()) e3) fun r4=>
 .leaf (.inl (x2.1,(i64.wrap (x2.2.1+(1:Int))),x2.2.2.1,u1.1,r4.1.1,r4.1.2.1,()))) (
 .leaf (.inr (x2.2.2.1,u1.1,u1.2.1,u1.2.2.1,())))
def Akc (a0:(List YI)×Unit):Tree (Bp):=
 .ob Wl fun r1=>
 .ob (Az Rh (a0.1,(0:Int),(0:Int),([]:List YI),r1.1,r1.2.1,())) fun o5=>
 .leaf (o5.2.2.1,o5.2.2.2.1,())
def Ak9 (a0:(List YI)×Unit):Option (Bp):=(Akc a0).val
def Af6 (a0:Aw):Tree (Bp×Aw):=
 .ob (Ag7 a0 ((12:Int),())) fun r1=>
 .ob (Ak9 r1.1) fun r2=>
 .leaf (r2,(a0.1,r1.2.2.1,r1.2.2.2.1,()))
def O0 (a0:Aw):Option (Bp×Aw):=(Af6 a0).val
def Acc (a0:Aw) (a1:YI):Tree (Af×Aw):=
 .ob (A9 a0 ((12:Int),())) fun r1=>
 .ob (A9 (a0.1,r1.2.2.1,r1.2.2.2.1,()) ((32:Int),())) fun r2=>
 .ob (Kg a1 r1.1 r2.1) fun r3=>letI u1:=r3.2.2.2;letI u2:=u1.2.2;letI u3:=u2.2.2;letI u4:=u3.2.2;letI u5:=u4.2.2;letI u6:=u5.2.2.2;
 .ob (A6 (a0.1,r2.2.2.1,r2.2.2.2.1,()) ([((0:Int),()),((0:Int),()),((3:Int),()),((281474976709656:Int),()),((281474976710656:Int),())],())) fun r4=>
 .ob (Cn (a0.1,r4.2.2.1,r4.2.2.2.1,()) ((3:Int),())) fun r5=>
 .br r5.1.1 (
 .ob (O0 (a0.1,r5.2.2.1,r5.2.2.2.1,())) fun r6=>
 .ob (Cn (a0.1,r6.2.2.1,r6.2.2.2.1,()) ((2:Int),())) fun r7=>letI u7:=r7.2.2;
 .br r7.1.1 (
 .ob (A6 (a0.1,u7.1,u7.2.1,()) ([((1:Int),()),((1:Int),()),((2:Int),()),((4294967295:Int),())],())) fun r8=>
 .ob (Cm (u1.1,()) ((Ci [114,101,107,101,121]),())) fun r9=>
 .ob (Fe r8.1 r9) fun r10=>letI u8:=r10.2.2;letI u9:=u8.2.2;
 .ob (A6 (a0.1,r8.2.2.1,r8.2.2.2.1,()) ([((-1:Int),()),((0:Int),()),((5:Int),()),((7:Int),()),((1000005:Int),())],())) fun r11=>letI u10:=r11.2.2;
 .br (a1.1==(0:Int)) (
 .br (decide (r11.1.1<(0:Int))) (
 .br (a1.1==(0:Int)) (
 .br (decide (r10.1<(4294967295:Int))) (
 .ob (Cn (a0.1,u10.1,u10.2.1,()) ((2:Int),())) fun r12=>
 .br r12.1.1 (
 .ob (Cm (r10.2.1,()) ((Ci [114,101,107,101,121]),())) fun r13=>
 .leaf ((r3.1,r3.2.1,r10.1,r10.2.1,u8.1,u8.2.1,u9.1,(i64.wrap (r10.1-(1:Int))),u1.1,r4.1.1,r6.1.1,r6.1.2.1,true,(5:Int),r13.1,()),(a0.1,r12.2.2.1,r12.2.2.2.1,()))) (
 .leaf ((r3.1,r3.2.1,r10.1,r10.2.1,u8.1,u8.2.1,u9.1,(i64.wrap (r10.1-(1:Int))),u1.1,r4.1.1,r6.1.1,r6.1.2.1,true,(5:Int),u6.1,()),(a0.1,r12.2.2.1,r12.2.2.2.1,())))) (
 .leaf ((r3.1,r3.2.1,r10.1,r10.2.1,u8.1,u8.2.1,u9.1,(i64.wrap (r10.1-(1:Int))),u1.1,r4.1.1,r6.1.1,r6.1.2.1,true,(5:Int),u6.1,()),(a0.1,u10.1,u10.2.1,())))) (
 .leaf ((r3.1,r3.2.1,r10.1,r10.2.1,u8.1,u8.2.1,u9.1,(i64.wrap (r10.1-(1:Int))),u1.1,r4.1.1,r6.1.1,r6.1.2.1,true,(5:Int),u6.1,()),(a0.1,u10.1,u10.2.1,())))) (
 .br (a1.1==(0:Int)) (
 .br (decide (r10.1<(4294967295:Int))) (
 .ob (Cn (a0.1,u10.1,u10.2.1,()) ((2:Int),())) fun r14=>
 .br r14.1.1 (
 .ob (Cm (r10.2.1,()) ((Ci [114,101,107,101,121]),())) fun r15=>
 .leaf ((r3.1,r3.2.1,r10.1,r10.2.1,u8.1,u8.2.1,u9.1,(i64.wrap (r10.1-(1:Int))),u1.1,r4.1.1,r6.1.1,r6.1.2.1,true,r11.1.1,r15.1,()),(a0.1,r14.2.2.1,r14.2.2.2.1,()))) (
 .leaf ((r3.1,r3.2.1,r10.1,r10.2.1,u8.1,u8.2.1,u9.1,(i64.wrap (r10.1-(1:Int))),u1.1,r4.1.1,r6.1.1,r6.1.2.1,true,r11.1.1,u6.1,()),(a0.1,r14.2.2.1,r14.2.2.2.1,())))) (
 .leaf ((r3.1,r3.2.1,r10.1,r10.2.1,u8.1,u8.2.1,u9.1,(i64.wrap (r10.1-(1:Int))),u1.1,r4.1.1,r6.1.1,r6.1.2.1,true,r11.1.1,u6.1,()),(a0.1,u10.1,u10.2.1,())))) (
 .leaf ((r3.1,r3.2.1,r10.1,r10.2.1,u8.1,u8.2.1,u9.1,(i64.wrap (r10.1-(1:Int))),u1.1,r4.1.1,r6.1.1,r6.1.2.1,true,r11.1.1,u6.1,()),(a0.1,u10.1,u10.2.1,()))))) (
 .br (a1.1==(0:Int)) (
 .br (decide (r10.1<(4294967295:Int))) (
 .ob (Cn (a0.1,u10.1,u10.2.1,()) ((2:Int),())) fun r16=>
 .br r16.1.1 (
 .ob (Cm (r10.2.1,()) ((Ci [114,101,107,101,121]),())) fun r17=>
 .leaf ((r3.1,r3.2.1,r10.1,r10.2.1,u8.1,u8.2.1,u9.1,(i64.wrap (r10.1-(1:Int))),u1.1,r4.1.1,r6.1.1,r6.1.2.1,true,r11.1.1,r17.1,()),(a0.1,r16.2.2.1,r16.2.2.2.1,()))) (
 .leaf ((r3.1,r3.2.1,r10.1,r10.2.1,u8.1,u8.2.1,u9.1,(i64.wrap (r10.1-(1:Int))),u1.1,r4.1.1,r6.1.1,r6.1.2.1,true,r11.1.1,u6.1,()),(a0.1,r16.2.2.1,r16.2.2.2.1,())))) (
 .leaf ((r3.1,r3.2.1,r10.1,r10.2.1,u8.1,u8.2.1,u9.1,(i64.wrap (r10.1-(1:Int))),u1.1,r4.1.1,r6.1.1,r6.1.2.1,true,r11.1.1,u6.1,()),(a0.1,u10.1,u10.2.1,())))) (
 .leaf ((r3.1,r3.2.1,r10.1,r10.2.1,u8.1,u8.2.1,u9.1,(i64.wrap (r10.1-(1:Int))),u1.1,r4.1.1,r6.1.1,r6.1.2.1,true,r11.1.1,u6.1,()),(a0.1,u10.1,u10.2.1,()))))) (
 .br (a1.1==(0:Int)) (
 .br (decide (r3.2.2.1<(4294967295:Int))) (
 .ob (Cn (a0.1,u7.1,u7.2.1,()) ((2:Int),())) fun r18=>
 .br r18.1.1 (
 .ob (Cm (u1.1,()) ((Ci [114,101,107,101,121]),())) fun r19=>
 .leaf ((r3.1,r3.2.1,r3.2.2.1,u1.1,r4.1.1,r6.1.1,r6.1.2.1,u3.1,u3.2.1,u4.1,u4.2.1,u5.1,u5.2.1,u5.2.2.1,r19.1,()),(a0.1,r18.2.2.1,r18.2.2.2.1,()))) (
 .leaf ((r3.1,r3.2.1,r3.2.2.1,u1.1,r4.1.1,r6.1.1,r6.1.2.1,u3.1,u3.2.1,u4.1,u4.2.1,u5.1,u5.2.1,u5.2.2.1,u6.1,()),(a0.1,r18.2.2.1,r18.2.2.2.1,())))) (
 .leaf ((r3.1,r3.2.1,r3.2.2.1,u1.1,r4.1.1,r6.1.1,r6.1.2.1,u3.1,u3.2.1,u4.1,u4.2.1,u5.1,u5.2.1,u5.2.2.1,u6.1,()),(a0.1,u7.1,u7.2.1,())))) (
 .leaf ((r3.1,r3.2.1,r3.2.2.1,u1.1,r4.1.1,r6.1.1,r6.1.2.1,u3.1,u3.2.1,u4.1,u4.2.1,u5.1,u5.2.1,u5.2.2.1,u6.1,()),(a0.1,u7.1,u7.2.1,()))))) (
 .ob (Cn (a0.1,r5.2.2.1,r5.2.2.2.1,()) ((2:Int),())) fun r20=>letI u11:=r20.2.2;
 .br r20.1.1 (
 .ob (A6 (a0.1,u11.1,u11.2.1,()) ([((1:Int),()),((1:Int),()),((2:Int),()),((4294967295:Int),())],())) fun r21=>
 .ob (Cm (u1.1,()) ((Ci [114,101,107,101,121]),())) fun r22=>
 .ob (Fe r21.1 r22) fun r23=>letI u12:=r23.2.2;letI u13:=u12.2.2;
 .ob (A6 (a0.1,r21.2.2.1,r21.2.2.2.1,()) ([((-1:Int),()),((0:Int),()),((5:Int),()),((7:Int),()),((1000005:Int),())],())) fun r24=>letI u14:=r24.2.2;
 .br (a1.1==(0:Int)) (
 .br (decide (r24.1.1<(0:Int))) (
 .br (a1.1==(0:Int)) (
 .br (decide (r23.1<(4294967295:Int))) (
 .ob (Cn (a0.1,u14.1,u14.2.1,()) ((2:Int),())) fun r25=>
 .br r25.1.1 (
 .ob (Cm (r23.2.1,()) ((Ci [114,101,107,101,121]),())) fun r26=>
 .leaf ((r3.1,r3.2.1,r23.1,r23.2.1,u12.1,u12.2.1,u13.1,(i64.wrap (r23.1-(1:Int))),u1.1,r4.1.1,u2.1,u2.2.1,true,(5:Int),r26.1,()),(a0.1,r25.2.2.1,r25.2.2.2.1,()))) (
 .leaf ((r3.1,r3.2.1,r23.1,r23.2.1,u12.1,u12.2.1,u13.1,(i64.wrap (r23.1-(1:Int))),u1.1,r4.1.1,u2.1,u2.2.1,true,(5:Int),u6.1,()),(a0.1,r25.2.2.1,r25.2.2.2.1,())))) (
 .leaf ((r3.1,r3.2.1,r23.1,r23.2.1,u12.1,u12.2.1,u13.1,(i64.wrap (r23.1-(1:Int))),u1.1,r4.1.1,u2.1,u2.2.1,true,(5:Int),u6.1,()),(a0.1,u14.1,u14.2.1,())))) (
 .leaf ((r3.1,r3.2.1,r23.1,r23.2.1,u12.1,u12.2.1,u13.1,(i64.wrap (r23.1-(1:Int))),u1.1,r4.1.1,u2.1,u2.2.1,true,(5:Int),u6.1,()),(a0.1,u14.1,u14.2.1,())))) (
 .br (a1.1==(0:Int)) (
 .br (decide (r23.1<(4294967295:Int))) (
 .ob (Cn (a0.1,u14.1,u14.2.1,()) ((2:Int),())) fun r27=>
 .br r27.1.1 (
 .ob (Cm (r23.2.1,()) ((Ci [114,101,107,101,121]),())) fun r28=>
 .leaf ((r3.1,r3.2.1,r23.1,r23.2.1,u12.1,u12.2.1,u13.1,(i64.wrap (r23.1-(1:Int))),u1.1,r4.1.1,u2.1,u2.2.1,true,r24.1.1,r28.1,()),(a0.1,r27.2.2.1,r27.2.2.2.1,()))) (
 .leaf ((r3.1,r3.2.1,r23.1,r23.2.1,u12.1,u12.2.1,u13.1,(i64.wrap (r23.1-(1:Int))),u1.1,r4.1.1,u2.1,u2.2.1,true,r24.1.1,u6.1,()),(a0.1,r27.2.2.1,r27.2.2.2.1,())))) (
 .leaf ((r3.1,r3.2.1,r23.1,r23.2.1,u12.1,u12.2.1,u13.1,(i64.wrap (r23.1-(1:Int))),u1.1,r4.1.1,u2.1,u2.2.1,true,r24.1.1,u6.1,()),(a0.1,u14.1,u14.2.1,())))) (
 .leaf ((r3.1,r3.2.1,r23.1,r23.2.1,u12.1,u12.2.1,u13.1,(i64.wrap (r23.1-(1:Int))),u1.1,r4.1.1,u2.1,u2.2.1,true,r24.1.1,u6.1,()),(a0.1,u14.1,u14.2.1,()))))) (
 .br (a1.1==(0:Int)) (
 .br (decide (r23.1<(4294967295:Int))) (
 .ob (Cn (a0.1,u14.1,u14.2.1,()) ((2:Int),())) fun r29=>
 .br r29.1.1 (
 .ob (Cm (r23.2.1,()) ((Ci [114,101,107,101,121]),())) fun r30=>
 .leaf ((r3.1,r3.2.1,r23.1,r23.2.1,u12.1,u12.2.1,u13.1,(i64.wrap (r23.1-(1:Int))),u1.1,r4.1.1,u2.1,u2.2.1,true,r24.1.1,r30.1,()),(a0.1,r29.2.2.1,r29.2.2.2.1,()))) (
 .leaf ((r3.1,r3.2.1,r23.1,r23.2.1,u12.1,u12.2.1,u13.1,(i64.wrap (r23.1-(1:Int))),u1.1,r4.1.1,u2.1,u2.2.1,true,r24.1.1,u6.1,()),(a0.1,r29.2.2.1,r29.2.2.2.1,())))) (
 .leaf ((r3.1,r3.2.1,r23.1,r23.2.1,u12.1,u12.2.1,u13.1,(i64.wrap (r23.1-(1:Int))),u1.1,r4.1.1,u2.1,u2.2.1,true,r24.1.1,u6.1,()),(a0.1,u14.1,u14.2.1,())))) (
 .leaf ((r3.1,r3.2.1,r23.1,r23.2.1,u12.1,u12.2.1,u13.1,(i64.wrap (r23.1-(1:Int))),u1.1,r4.1.1,u2.1,u2.2.1,true,r24.1.1,u6.1,()),(a0.1,u14.1,u14.2.1,()))))) (
 .br (a1.1==(0:Int)) (
 .br (decide (r3.2.2.1<(4294967295:Int))) (
 .ob (Cn (a0.1,u11.1,u11.2.1,()) ((2:Int),())) fun r31=>
 .br r31.1.1 (
 .ob (Cm (u1.1,()) ((Ci [114,101,107,101,121]),())) fun r32=>
 .leaf ((r3.1,r3.2.1,r3.2.2.1,u1.1,r4.1.1,u2.1,u2.2.1,u3.1,u3.2.1,u4.1,u4.2.1,u5.1,u5.2.1,u5.2.2.1,r32.1,()),(a0.1,r31.2.2.1,r31.2.2.2.1,()))) (
 .leaf ((r3.1,r3.2.1,r3.2.2.1,u1.1,r4.1.1,u2.1,u2.2.1,u3.1,u3.2.1,u4.1,u4.2.1,u5.1,u5.2.1,u5.2.2.1,u6.1,()),(a0.1,r31.2.2.1,r31.2.2.2.1,())))) (
 .leaf ((r3.1,r3.2.1,r3.2.2.1,u1.1,r4.1.1,u2.1,u2.2.1,u3.1,u3.2.1,u4.1,u4.2.1,u5.1,u5.2.1,u5.2.2.1,u6.1,()),(a0.1,u11.1,u11.2.1,())))) (
 .leaf ((r3.1,r3.2.1,r3.2.2.1,u1.1,r4.1.1,u2.1,u2.2.1,u3.1,u3.2.1,u4.1,u4.2.1,u5.1,u5.2.1,u5.2.2.1,u6.1,()),(a0.1,u11.1,u11.2.1,())))))
def Rp (a0:Aw) (a1:YI):Option (Af×Aw):=(Acc a0 a1).val
def Mx (x3:Int×(List YB)×Int×Int×Bool×Int×Int×Int×Bool×Int×Int×Int×Unit):Option ((Int×(List YB)×Int×Int×Bool×Int×Int×Int×Bool×Int×Int×Int×Unit)⊕(((List YB)×Int×Int×Bool×Int×Int×Int×Bool×Int×Int×Int×Unit))):=
 letI u1:=x3.2.2;letI u2:=u1.2.2;letI u3:=u2.2.2;letI u4:=u3.2.2.2;Tree.val (α:=(Int×(List YB)×Int×Int×Bool×Int×Int×Int×Bool×Int×Int×Int×Unit)⊕(((List YB)×Int×Int×Bool×Int×Int×Int×Bool×Int×Int×Int×Unit))) <|
 .br (decide (x3.1>(0:Int))) (
 .ob (Ce (u3.2.2.1,u4.1,u4.2.1,u4.2.2.1,()) (u4.1,())) fun r4=>
 .leaf (.inl ((i64.wrap (x3.1-(1:Int))),x3.2.1,u1.1,u1.2.1,u2.1,u2.2.1,u3.1,u3.2.1,r4.1.1,r4.1.2.1,r4.1.2.2.1,r4.1.2.2.2.1,()))) (
 .leaf (.inr (x3.2.1,u1.1,u1.2.1,u2.1,u2.2.1,u3.1,u3.2.1,u3.2.2.1,u4.1,u4.2.1,u4.2.2.1,())))
def Ace (a0:Aw) (a1:YI):Tree (Bg×Aw):=
 .ob (Cj a1) fun r1=>
 .ob (Bi a0 ((6:Int),())) fun r2=>
 .ob (Az Mx (r2.1.1,a0.1,r2.2.2.1,r2.2.2.2.1,false,(0:Int),(0:Int),(0:Int),r1.1,r1.2.1,r1.2.2.1,r1.2.2.2.1,())) fun o5=>letI u1:=o5.2.2.2.2.2.2.2;
 .leaf ((u1.1,u1.2.1,u1.2.2.1,u1.2.2.2.1,()),(o5.1,o5.2.1,o5.2.2.1,()))
def Rq (a0:Aw) (a1:YI):Option (Bg×Aw):=(Ace a0 a1).val
def Et (x16:Int×Int×(List YB)×Int×Int×Int×(List YB)×Int×Int×Int×(List YB)×Int×Int×(List YB)×(List YB)×Int×(List YB)×(List YB)×Int×Int×(List YB)×(List YB)×Int×(List YB)×Int×(List YB)×Int×Int×(List YI)×Int×(List YB)×Int×Int×(List YI)×Bool×Int×(List YB)×Bool×Int×Int×Int×Bool×Int×Int×Int×Int×Int×(List YB)×Int×Int×Int×(List YB)×Int×Int×(List YB)×(List YB)×Int×(List YB)×(List YB)×Int×Int×(List YB)×(List YB)×Int×(List YB)×Int×(List YB)×Int×Int×(List YI)×Int×(List YB)×Int×Int×(List YI)×Bool×Int×(List YB)×Bool×Int×Int×Int×Bool×Int×Int×Int×Int×Unit):Option ((Int×Int×(List YB)×Int×Int×Int×(List YB)×Int×Int×Int×(List YB)×Int×Int×(List YB)×(List YB)×Int×(List YB)×(List YB)×Int×Int×(List YB)×(List YB)×Int×(List YB)×Int×(List YB)×Int×Int×(List YI)×Int×(List YB)×Int×Int×(List YI)×Bool×Int×(List YB)×Bool×Int×Int×Int×Bool×Int×Int×Int×Int×Int×(List YB)×Int×Int×Int×(List YB)×Int×Int×(List YB)×(List YB)×Int×(List YB)×(List YB)×Int×Int×(List YB)×(List YB)×Int×(List YB)×Int×(List YB)×Int×Int×(List YI)×Int×(List YB)×Int×Int×(List YI)×Bool×Int×(List YB)×Bool×Int×Int×Int×Bool×Int×Int×Int×Int×Unit)⊕((Int×(List YB)×Int×Int×Int×(List YB)×Int×Int×Int×(List YB)×Int×Int×(List YB)×(List YB)×Int×(List YB)×(List YB)×Int×Int×(List YB)×(List YB)×Int×(List YB)×Int×(List YB)×Int×Int×(List YI)×Int×(List YB)×Int×Int×(List YI)×Bool×Int×(List YB)×Bool×Int×Int×Int×Bool×Int×Int×Int×Int×Int×(List YB)×Int×Int×Int×(List YB)×Int×Int×(List YB)×(List YB)×Int×(List YB)×(List YB)×Int×Int×(List YB)×(List YB)×Int×(List YB)×Int×(List YB)×Int×Int×(List YI)×Int×(List YB)×Int×Int×(List YI)×Bool×Int×(List YB)×Bool×Int×Int×Int×Bool×Int×Int×Int×Int×Unit))):=
 letI u1:=x16.2.2;letI u2:=u1.2.2;letI u3:=u2.2.2;letI u4:=u3.2.2;letI u5:=u4.2.2;letI u6:=u5.2.2;letI u7:=u6.2.2;letI u8:=u7.2.2;letI u9:=u8.2.2;letI u10:=u9.2.2;letI u11:=u10.2.2;letI u12:=u11.2.2;letI u13:=u12.2.2;letI u14:=u13.2.2;letI u15:=u14.2.2;letI u16:=u15.2.2;letI u17:=u16.2.2;letI u18:=u17.2.2;letI u19:=u18.2.2;letI u20:=u19.2.2;letI u21:=u20.2.2;letI u22:=u21.2.2;letI u23:=u22.2.2;letI u24:=u23.2.2;letI u25:=u24.2.2;letI u26:=u25.2.2;letI u27:=u26.2.2;letI u28:=u27.2.2;letI u29:=u28.2.2;letI u30:=u29.2.2;letI u31:=u30.2.2;letI u32:=u31.2.2;letI u33:=u32.2.2;letI u34:=u33.2.2;letI u35:=u34.2.2;letI u36:=u35.2.2;letI u37:=u36.2.2;letI u38:=u37.2.2;letI u39:=u38.2.2.2;letI u40:=u39.2.2;letI u41:=u40.2.2.2;Tree.val (α:=(Int×Int×(List YB)×Int×Int×Int×(List YB)×Int×Int×Int×(List YB)×Int×Int×(List YB)×(List YB)×Int×(List YB)×(List YB)×Int×Int×(List YB)×(List YB)×Int×(List YB)×Int×(List YB)×Int×Int×(List YI)×Int×(List YB)×Int×Int×(List YI)×Bool×Int×(List YB)×Bool×Int×Int×Int×Bool×Int×Int×Int×Int×Int×(List YB)×Int×Int×Int×(List YB)×Int×Int×(List YB)×(List YB)×Int×(List YB)×(List YB)×Int×Int×(List YB)×(List YB)×Int×(List YB)×Int×(List YB)×Int×Int×(List YI)×Int×(List YB)×Int×Int×(List YI)×Bool×Int×(List YB)×Bool×Int×Int×Int×Bool×Int×Int×Int×Int×Unit)⊕((Int×(List YB)×Int×Int×Int×(List YB)×Int×Int×Int×(List YB)×Int×Int×(List YB)×(List YB)×Int×(List YB)×(List YB)×Int×Int×(List YB)×(List YB)×Int×(List YB)×Int×(List YB)×Int×Int×(List YI)×Int×(List YB)×Int×Int×(List YI)×Bool×Int×(List YB)×Bool×Int×Int×Int×Bool×Int×Int×Int×Int×Int×(List YB)×Int×Int×Int×(List YB)×Int×Int×(List YB)×(List YB)×Int×(List YB)×(List YB)×Int×Int×(List YB)×(List YB)×Int×(List YB)×Int×(List YB)×Int×Int×(List YI)×Int×(List YB)×Int×Int×(List YI)×Bool×Int×(List YB)×Bool×Int×Int×Int×Bool×Int×Int×Int×Int×Unit))) <|
 .br (decide (x16.2.1>(0:Int))) (
 .ob (Ce (u38.2.2.1,u39.1,u39.2.1,u40.1,()) (u39.1,())) fun r17=>
 .leaf (.inl (x16.1,(i64.wrap (x16.2.1-(1:Int))),u1.1,u1.2.1,u2.1,u2.2.1,u3.1,u3.2.1,u4.1,u4.2.1,u5.1,u5.2.1,u6.1,u6.2.1,u7.1,u7.2.1,u8.1,u8.2.1,u9.1,u9.2.1,u10.1,u10.2.1,u11.1,u11.2.1,u12.1,u12.2.1,u13.1,u13.2.1,u14.1,u14.2.1,u15.1,u15.2.1,u16.1,u16.2.1,u17.1,u17.2.1,u18.1,u18.2.1,u19.1,u19.2.1,u20.1,u20.2.1,u21.1,u21.2.1,u22.1,u22.2.1,u23.1,u23.2.1,u24.1,u24.2.1,u25.1,u25.2.1,u26.1,u26.2.1,u27.1,u27.2.1,u28.1,u28.2.1,u29.1,u29.2.1,u30.1,u30.2.1,u31.1,u31.2.1,u32.1,u32.2.1,u33.1,u33.2.1,u34.1,u34.2.1,u35.1,u35.2.1,u36.1,u36.2.1,u37.1,u37.2.1,u38.1,u38.2.1,r17.1.1,r17.1.2.1,r17.1.2.2.1,r17.1.2.2.2.1,u40.2.1,u40.2.2.1,u41.1,u41.2.1,u41.2.2.1,()))) (
 .leaf (.inr (x16.1,u1.1,u1.2.1,u2.1,u2.2.1,u3.1,u3.2.1,u4.1,u4.2.1,u5.1,u5.2.1,u6.1,u6.2.1,u7.1,u7.2.1,u8.1,u8.2.1,u9.1,u9.2.1,u10.1,u10.2.1,u11.1,u11.2.1,u12.1,u12.2.1,u13.1,u13.2.1,u14.1,u14.2.1,u15.1,u15.2.1,u16.1,u16.2.1,u17.1,u17.2.1,u18.1,u18.2.1,u19.1,u19.2.1,u20.1,u20.2.1,u21.1,u21.2.1,u22.1,u22.2.1,u23.1,u23.2.1,u24.1,u24.2.1,u25.1,u25.2.1,u26.1,u26.2.1,u27.1,u27.2.1,u28.1,u28.2.1,u29.1,u29.2.1,u30.1,u30.2.1,u31.1,u31.2.1,u32.1,u32.2.1,u33.1,u33.2.1,u34.1,u34.2.1,u35.1,u35.2.1,u36.1,u36.2.1,u37.1,u37.2.1,u38.1,u38.2.1,u38.2.2.1,u39.1,u39.2.1,u40.1,u40.2.1,u40.2.2.1,u41.1,u41.2.1,u41.2.2.1,())))
def Ri (a0:Aw):Tree (Ab×Aw):=
 .ob (Bi a0 ((3:Int),())) fun r1=>
 .ob (Bi (a0.1,r1.2.2.1,r1.2.2.2.1,()) ((32:Int),())) fun r2=>
 .ob (A9 (a0.1,r2.2.2.1,r2.2.2.2.1,()) ((i64.wrap ((1:Int)+r2.1.1)),())) fun r3=>
 .ob (Bi (a0.1,r3.2.2.1,r3.2.2.2.1,()) ((5:Int),())) fun r4=>
 .ob (Ag0 ((i64.wrap ((1:Int)+r4.1.1)),())) fun r5=>
 .ob (Gd ((i64.wrap ((1:Int)+r1.1.1)),()) r3.1 r5) fun r6=>
 .ob (A6 (a0.1,r4.2.2.1,r4.2.2.2.1,()) ([((0:Int),()),((1:Int),()),((2:Int),()),((2:Int),()),((3:Int),()),((3:Int),()),((3:Int),()),((3:Int),())],())) fun r7=>
 .br (r7.1.1==(0:Int)) (
 .leaf (r6,(a0.1,r7.2.2.1,r7.2.2.2.1,()))) (
 .ob (A6 (a0.1,r7.2.2.1,r7.2.2.2.1,()) ([((0:Int),()),((0:Int),()),((5:Int),()),((90:Int),())],())) fun r8=>
 .ob (A9 (a0.1,r8.2.2.1,r8.2.2.2.1,()) ((12:Int),())) fun r9=>
 .ob (Ge r6 r8.1 r9.1) fun r10=>letI u1:=r10.1.2.2;letI u2:=u1.2.2.2;letI u3:=u2.2.2;letI u4:=u3.2.2;letI u5:=u4.2.2;letI u6:=u5.2.2;letI u7:=u6.2.2;letI u8:=u7.2.2;letI u9:=u8.2.2;letI u10:=u9.2.2;letI u11:=u10.2.2;letI u12:=u11.2.2;letI u13:=u12.2.2;letI u14:=u13.2.2.2;letI u15:=u14.2.2.2;letI u16:=u15.2.2.2;letI u17:=u16.2.2;
 .ob (Bi (a0.1,r9.2.2.1,r9.2.2.2.1,()) ((3:Int),())) fun r11=>
 .ob (Ce (u14.2.2.1,u15.1,u15.2.1,u15.2.2.1,()) ((i64.wrap (r8.1.1+r11.1.1)),())) fun r12=>
 .br (r7.1.1==(1:Int)) (
 .leaf ((r10.1.1,r10.1.2.1,u1.1,u1.2.1,u1.2.2.1,u2.1,u2.2.1,u3.1,u3.2.1,u4.1,u4.2.1,u5.1,u5.2.1,u6.1,u6.2.1,u7.1,u7.2.1,u8.1,u8.2.1,u9.1,u9.2.1,u10.1,u10.2.1,u11.1,u11.2.1,u12.1,u12.2.1,u13.1,u13.2.1,u13.2.2.1,u14.1,u14.2.1,r12.1.1,r12.1.2.1,r12.1.2.2.1,r12.1.2.2.2.1,u16.1,u16.2.1,u17.1,u17.2.1,u17.2.2.1,()),(a0.1,r11.2.2.1,r11.2.2.2.1,()))) (
 .ob (Tk (a0.1,r11.2.2.1,r11.2.2.2.1,())) fun r13=>letI u18:=r13.1.2.2.2;letI u19:=u18.2.2.2;
 .ob (Ix (r10.1.1,r10.1.2.1,u1.1,u1.2.1,u1.2.2.1,u2.1,u2.2.1,u3.1,u3.2.1,u4.1,u4.2.1,u5.1,u5.2.1,u6.1,u6.2.1,u7.1,u7.2.1,u8.1,u8.2.1,u9.1,u9.2.1,u10.1,u10.2.1,u11.1,u11.2.1,u12.1,u12.2.1,u13.1,u13.2.1,u13.2.2.1,u14.1,u14.2.1,r12.1.1,r12.1.2.1,r12.1.2.2.1,r12.1.2.2.2.1,u16.1,u16.2.1,u17.1,u17.2.1,u17.2.2.1,()) r8.1 (r13.1.1,r13.1.2.1,u2.1,u18.1,u18.2.1,u18.2.2.1,u19.1,u19.2.1,u19.2.2.1,u19.2.2.2.1,u19.2.2.2.2.1,())) fun r14=>letI u20:=r14.1.2.2.2;letI u21:=u20.2.2.2;letI u22:=u21.2.2.2;letI u23:=u22.2.2.2;letI u24:=u23.2.2.2;letI u25:=u24.2.2.2;letI u26:=u25.2.2;letI u27:=u26.2.2.2;letI u28:=u27.2.2.2;letI u29:=u28.2.2.2;letI u30:=u29.2.2.2;letI u31:=u30.2.2.2.2;
 .br (r7.1.1==(2:Int)) (
 .ob (Bi (a0.1,r13.2.2.1,r13.2.2.2.1,()) ((5:Int),())) fun r15=>
 .ob (Az Et (r8.1.1,r15.1.1,a0.1,r15.2.2.1,r15.2.2.2.1,(0:Int),([]:List YB),(0:Int),(0:Int),(0:Int),([]:List YB),(0:Int),(0:Int),([]:List YB),([]:List YB),(0:Int),([]:List YB),([]:List YB),(0:Int),(0:Int),([]:List YB),([]:List YB),(0:Int),([]:List YB),(0:Int),([]:List YB),(0:Int),(0:Int),([]:List YI),(0:Int),([]:List YB),(0:Int),(0:Int),([]:List YI),false,(0:Int),([]:List YB),false,(0:Int),(0:Int),(0:Int),false,(0:Int),(0:Int),(0:Int),(0:Int),r14.1.1,r14.1.2.1,r14.1.2.2.1,u20.1,u20.2.1,u20.2.2.1,u21.1,u21.2.1,u21.2.2.1,u22.1,u22.2.1,u22.2.2.1,u23.1,u23.2.1,u23.2.2.1,u24.1,u24.2.1,u24.2.2.1,u25.1,u25.2.1,u26.1,u26.2.1,u26.2.2.1,u27.1,u27.2.1,u27.2.2.1,u28.1,u28.2.1,u28.2.2.1,u29.1,u29.2.1,u29.2.2.1,u30.1,u30.2.1,u30.2.2.1,u30.2.2.2.1,u31.1,u31.2.1,u31.2.2.1,u31.2.2.2.1,u31.2.2.2.2.1,())) fun o18=>letI u32:=o18.2.2;letI u33:=u32.2.2.2.2.2.2.2.2.2.2.2.2.2.2.2.2.2.2.2.2.2.2.2.2.2.2.2.2.2.2.2.2.2.2.2.2.2.2.2.2.2.2.2;letI u34:=u33.2.2;letI u35:=u34.2.2;letI u36:=u35.2.2;letI u37:=u36.2.2;letI u38:=u37.2.2;letI u39:=u38.2.2;letI u40:=u39.2.2;letI u41:=u40.2.2;letI u42:=u41.2.2;letI u43:=u42.2.2;letI u44:=u43.2.2;letI u45:=u44.2.2;letI u46:=u45.2.2;letI u47:=u46.2.2;letI u48:=u47.2.2;letI u49:=u48.2.2;letI u50:=u49.2.2.2.2;letI u51:=u50.2.2;
 .br (!u49.1) (
 .ob (Cj (o18.1,())) fun r19=>
 .leaf ((u33.1,u33.2.1,u34.1,u34.2.1,u35.1,u35.2.1,u36.1,u36.2.1,u37.1,u37.2.1,u38.1,u38.2.1,u39.1,u39.2.1,u40.1,u40.2.1,u41.1,u41.2.1,u42.1,u42.2.1,u43.1,u43.2.1,u44.1,u44.2.1,u45.1,u45.2.1,u46.1,u46.2.1,u47.1,u47.2.1,u48.1,u48.2.1,r19.1,r19.2.1,r19.2.2.1,r19.2.2.2.1,u50.1,u50.2.1,u51.1,u51.2.1,u51.2.2.1,()),(o18.2.1,u32.1,u32.2.1,()))) (
 .leaf ((u33.1,u33.2.1,u34.1,u34.2.1,u35.1,u35.2.1,u36.1,u36.2.1,u37.1,u37.2.1,u38.1,u38.2.1,u39.1,u39.2.1,u40.1,u40.2.1,u41.1,u41.2.1,u42.1,u42.2.1,u43.1,u43.2.1,u44.1,u44.2.1,u45.1,u45.2.1,u46.1,u46.2.1,u47.1,u47.2.1,u48.1,u48.2.1,u49.1,u49.2.1,u49.2.2.1,u49.2.2.2.1,u50.1,u50.2.1,u51.1,u51.2.1,u51.2.2.1,()),(o18.2.1,u32.1,u32.2.1,())))) (
 .ob (J2 ((0:Int),())) fun r20=>
 .ob (La (u26.1,()) ((1:Int),()) (u25.1,()) ((0:Int),()) ((0:Int),()) ((8:Int),()) r20) fun r21=>
 .ob (Ix r14.1 r8.1 r21.1) fun r22=>letI u52:=r22.1.2.2;letI u53:=u52.2.2;letI u54:=u53.2.2;letI u55:=u54.2.2;letI u56:=u55.2.2;letI u57:=u56.2.2;letI u58:=u57.2.2;letI u59:=u58.2.2;letI u60:=u59.2.2.2.2.2.2.2.2.2.2.2.2.2.2.2.2;letI u61:=u60.2.2;letI u62:=u61.2.2.2.2;
 .ob (Cn (a0.1,r13.2.2.1,r13.2.2.2.1,()) ((2:Int),())) fun r23=>
 .br r23.1.1 (
 .ob (Rp (a0.1,r23.2.2.1,r23.2.2.2.1,()) ((0:Int),())) fun r24=>letI u63:=r24.1.2.2;letI u64:=u63.2.2;letI u65:=u64.2.2;letI u66:=u65.2.2;letI u67:=u66.2.2;letI u68:=u67.2.2;
 .br (decide ((r24.1.2.2.2.2.2.2.2.2.2.2.2.2.2.2.1.length:Int)>(0:Int))) (
 .ob (Rq (a0.1,r24.2.2.1,r24.2.2.2.1,()) r8.1) fun r25=>
 .br (!r25.1.1) (
 .ob (Cj r8.1) fun r26=>
 .leaf ((r22.1.1,r22.1.2.1,u52.1,u52.2.1,u53.1,u53.2.1,u54.1,u54.2.1,u55.1,u55.2.1,u56.1,u56.2.1,u57.1,u57.2.1,u58.1,u58.2.1,u59.1,r24.1.1,r24.1.2.1,u63.1,u63.2.1,u64.1,u64.2.1,u65.1,u65.2.1,u66.1,u66.2.1,u67.1,u67.2.1,u68.1,u68.2.1,u68.2.2.1,u60.1,u60.2.1,u61.1,u61.2.1,r26.1,r26.2.1,r26.2.2.1,r26.2.2.2.1,u62.2.2.1,()),(a0.1,r25.2.2.1,r25.2.2.2.1,()))) (
 .leaf ((r22.1.1,r22.1.2.1,u52.1,u52.2.1,u53.1,u53.2.1,u54.1,u54.2.1,u55.1,u55.2.1,u56.1,u56.2.1,u57.1,u57.2.1,u58.1,u58.2.1,u59.1,r24.1.1,r24.1.2.1,u63.1,u63.2.1,u64.1,u64.2.1,u65.1,u65.2.1,u66.1,u66.2.1,u67.1,u67.2.1,u68.1,u68.2.1,u68.2.2.1,u60.1,u60.2.1,u61.1,u61.2.1,r25.1.1,r25.1.2.1,r25.1.2.2.1,r25.1.2.2.2.1,u62.2.2.1,()),(a0.1,r25.2.2.1,r25.2.2.2.1,())))) (
 .leaf ((r22.1.1,r22.1.2.1,u52.1,u52.2.1,u53.1,u53.2.1,u54.1,u54.2.1,u55.1,u55.2.1,u56.1,u56.2.1,u57.1,u57.2.1,u58.1,u58.2.1,u59.1,r24.1.1,r24.1.2.1,u63.1,u63.2.1,u64.1,u64.2.1,u65.1,u65.2.1,u66.1,u66.2.1,u67.1,u67.2.1,u68.1,u68.2.1,u68.2.2.1,u60.1,u60.2.1,u61.1,u61.2.1,u61.2.2.1,u61.2.2.2.1,u62.1,u62.2.1,u62.2.2.1,()),(a0.1,r24.2.2.1,r24.2.2.2.1,())))) (
 .leaf (r22.1,(a0.1,r23.2.2.1,r23.2.2.2.1,()))))))
def Acx (a0:Aw):Option (Ab×Aw):=(Ri a0).val
def Af7 (a0:Aw):Tree (Dk×Aw):=
 .ob (Cn a0 ((3:Int),())) fun r1=>
 .br r1.1.1 (
 .ob (Bi (a0.1,r1.2.2.1,r1.2.2.2.1,()) ((16777216:Int),())) fun r2=>
 .ob (Hw (a0.1,r2.2.2.1,r2.2.2.2.1,())) fun r3=>
 .ob (Bi (a0.1,r3.2.2.1,r3.2.2.2.1,()) ((65536:Int),())) fun r4=>
 .leaf (((i64.wrap ((i64.wrap (r2.1.1*(256:Int)))+r3.1.1)),r4.1.1,()),(a0.1,r4.2.2.1,r4.2.2.2.1,()))) (
 .ob (Bi (a0.1,r1.2.2.1,r1.2.2.2.1,()) ((6:Int),())) fun r5=>
 .ob (Ag0 r5.1) fun r6=>
 .leaf (r6,(a0.1,r5.2.2.1,r5.2.2.2.1,())))
def Ag8 (a0:Aw):Option (Dk×Aw):=(Af7 a0).val
def Akf (a0:Aw):Tree (YI×Aw):=
 .ob (A6 a0 ([((-1:Int),()),((0:Int),()),((1:Int),()),((2:Int),()),((255:Int),()),((256:Int),()),((65535:Int),()),((2147483647:Int),()),((2147483648:Int),()),((4294967295:Int),()),((4294967296:Int),()),((-2147483648:Int),()),((9223372036854775807:Int),()),((-9223372036854775808:Int),())],())) fun r1=>
 .leaf (r1.1,(a0.1,r1.2.2.1,r1.2.2.2.1,()))
def Ala (a0:Aw):Option (YI×Aw):=(Akf a0).val
def Akg (a0:Aw):Tree (Dk×Aw):=
 .ob (Ag8 a0) fun r1=>
 .ob (Bi (a0.1,r1.2.2.1,r1.2.2.2.1,()) ((10:Int),())) fun r2=>letI u1:=r2.2.2;
 .br (r2.1.1==(0:Int)) (
 .ob (Ala (a0.1,u1.1,u1.2.1,())) fun r3=>
 .leaf ((r3.1.1,r1.1.2.1,()),(a0.1,r3.2.2.1,r3.2.2.2.1,()))) (
 .br (r2.1.1==(1:Int)) (
 .ob (A6 (a0.1,u1.1,u1.2.1,()) ([((-1:Int),()),((65535:Int),()),((65536:Int),()),((0:Int),())],())) fun r4=>
 .leaf ((r1.1.1,r4.1.1,()),(a0.1,r4.2.2.1,r4.2.2.2.1,()))) (
 .leaf (r1.1,(a0.1,u1.1,u1.2.1,()))))
def Alb (a0:Aw):Option (Dk×Aw):=(Akg a0).val
def Af8 (a0:Aw):Tree (Aa×Aw):=
 .ob (Bi a0 ((8:Int),())) fun r1=>letI u1:=r1.2.2;
 .br ((i64.wrap ((1:Int)+r1.1.1))==(1:Int)) (
 .ob (Bi (a0.1,u1.1,u1.2.1,()) ((9:Int),())) fun r2=>
 .ob (A9 (a0.1,r2.2.2.1,r2.2.2.2.1,()) ((12:Int),())) fun r3=>
 .leaf (((i64.wrap ((1:Int)+r1.1.1)),(i64.wrap ((1:Int)+r2.1.1)),r3.1.1,([]:List YB),(0:Int),([]:List YB),([]:List YB),(0:Int),(0:Int),([]:List YB),([]:List YB),()),(a0.1,r3.2.2.1,r3.2.2.2.1,()))) (
 .br ((i64.wrap ((1:Int)+r1.1.1))==(2:Int)) (
 .ob (A9 (a0.1,u1.1,u1.2.1,()) ((12:Int),())) fun r4=>
 .ob (A9 (a0.1,r4.2.2.1,r4.2.2.2.1,()) ((12:Int),())) fun r5=>
 .ob (A6 (a0.1,r5.2.2.1,r5.2.2.2.1,()) ([((0:Int),()),((1:Int),()),((300:Int),()),((1000000:Int),())],())) fun r6=>
 .ob (A9 (a0.1,r6.2.2.1,r6.2.2.2.1,()) ((16:Int),())) fun r7=>
 .br ((i64.wrap ((1:Int)+r1.1.1))==(3:Int)) (
 .ob (Bi (a0.1,r7.2.2.1,r7.2.2.2.1,()) ((9:Int),())) fun r8=>
 .ob (A9 (a0.1,r8.2.2.1,r8.2.2.2.1,()) ((16:Int),())) fun r9=>
 .leaf (((i64.wrap ((1:Int)+r1.1.1)),(i64.wrap ((1:Int)+r8.1.1)),r4.1.1,r5.1.1,r6.1.1,r7.1.1,r9.1.1,(0:Int),(0:Int),([]:List YB),([]:List YB),()),(a0.1,r9.2.2.1,r9.2.2.2.1,()))) (
 .leaf (((i64.wrap ((1:Int)+r1.1.1)),(0:Int),r4.1.1,r5.1.1,r6.1.1,r7.1.1,([]:List YB),(0:Int),(0:Int),([]:List YB),([]:List YB),()),(a0.1,r7.2.2.1,r7.2.2.2.1,())))) (
 .br ((i64.wrap ((1:Int)+r1.1.1))==(3:Int)) (
 .ob (A9 (a0.1,u1.1,u1.2.1,()) ((12:Int),())) fun r10=>
 .ob (A9 (a0.1,r10.2.2.1,r10.2.2.2.1,()) ((12:Int),())) fun r11=>
 .ob (A6 (a0.1,r11.2.2.1,r11.2.2.2.1,()) ([((0:Int),()),((1:Int),()),((300:Int),()),((1000000:Int),())],())) fun r12=>
 .ob (A9 (a0.1,r12.2.2.1,r12.2.2.2.1,()) ((16:Int),())) fun r13=>
 .br ((i64.wrap ((1:Int)+r1.1.1))==(3:Int)) (
 .ob (Bi (a0.1,r13.2.2.1,r13.2.2.2.1,()) ((9:Int),())) fun r14=>
 .ob (A9 (a0.1,r14.2.2.1,r14.2.2.2.1,()) ((16:Int),())) fun r15=>
 .leaf (((i64.wrap ((1:Int)+r1.1.1)),(i64.wrap ((1:Int)+r14.1.1)),r10.1.1,r11.1.1,r12.1.1,r13.1.1,r15.1.1,(0:Int),(0:Int),([]:List YB),([]:List YB),()),(a0.1,r15.2.2.1,r15.2.2.2.1,()))) (
 .leaf (((i64.wrap ((1:Int)+r1.1.1)),(0:Int),r10.1.1,r11.1.1,r12.1.1,r13.1.1,([]:List YB),(0:Int),(0:Int),([]:List YB),([]:List YB),()),(a0.1,r13.2.2.1,r13.2.2.2.1,())))) (
 .ob (A9 (a0.1,u1.1,u1.2.1,()) ((12:Int),())) fun r16=>
 .ob (A6 (a0.1,r16.2.2.1,r16.2.2.2.1,()) ([((0:Int),()),((1:Int),()),((2:Int),()),((4294967295:Int),())],())) fun r17=>
 .ob (A6 (a0.1,r17.2.2.1,r17.2.2.2.1,()) ([((0:Int),()),((1:Int),()),((70000:Int),()),((281474976710655:Int),())],())) fun r18=>
 .ob (A9 (a0.1,r18.2.2.1,r18.2.2.2.1,()) ((16:Int),())) fun r19=>
 .ob (A6 (a0.1,r19.2.2.1,r19.2.2.2.1,()) ([((0:Int),()),((1:Int),()),((12:Int),()),((40:Int),())],())) fun r20=>letI u2:=r20.2.2;
 .br ((i64.wrap ((1:Int)+r1.1.1))==(5:Int)) (
 .br (decide ((i64.wrap ((1:Int)+r1.1.1))≥(7:Int))) (
 .ob (A9 (a0.1,u2.1,u2.2.1,()) ((4:Int),())) fun r21=>
 .leaf (((i64.wrap ((1:Int)+r1.1.1)),(0:Int),([]:List YB),r16.1.1,(0:Int),([]:List YB),([]:List YB),r17.1.1,r18.1.1,r21.1.1,r19.1.1,()),(a0.1,r21.2.2.1,r21.2.2.2.1,()))) (
 .ob (A9 (a0.1,u2.1,u2.2.1,()) ((12:Int),())) fun r22=>
 .leaf (((i64.wrap ((1:Int)+r1.1.1)),(0:Int),([]:List YB),r16.1.1,(0:Int),([]:List YB),([]:List YB),r17.1.1,r18.1.1,r22.1.1,r19.1.1,()),(a0.1,r22.2.2.1,r22.2.2.2.1,())))) (
 .br ((i64.wrap ((1:Int)+r1.1.1))==(6:Int)) (
 .br (decide ((i64.wrap ((1:Int)+r1.1.1))≥(7:Int))) (
 .ob (A9 (a0.1,u2.1,u2.2.1,()) ((4:Int),())) fun r23=>
 .leaf (((i64.wrap ((1:Int)+r1.1.1)),(0:Int),([]:List YB),r16.1.1,(0:Int),([]:List YB),([]:List YB),r17.1.1,r18.1.1,r23.1.1,r19.1.1,()),(a0.1,r23.2.2.1,r23.2.2.2.1,()))) (
 .ob (A9 (a0.1,u2.1,u2.2.1,()) ((12:Int),())) fun r24=>
 .leaf (((i64.wrap ((1:Int)+r1.1.1)),(0:Int),([]:List YB),r16.1.1,(0:Int),([]:List YB),([]:List YB),r17.1.1,r18.1.1,r24.1.1,r19.1.1,()),(a0.1,r24.2.2.1,r24.2.2.2.1,())))) (
 .br (decide ((i64.wrap ((1:Int)+r1.1.1))≥(7:Int))) (
 .ob (A9 (a0.1,u2.1,u2.2.1,()) ((4:Int),())) fun r25=>
 .leaf (((i64.wrap ((1:Int)+r1.1.1)),(0:Int),([]:List YB),r16.1.1,(0:Int),([]:List YB),([]:List YB),r17.1.1,r18.1.1,r25.1.1,r19.1.1,()),(a0.1,r25.2.2.1,r25.2.2.2.1,()))) (
 .ob (A9 (a0.1,u2.1,u2.2.1,()) r20.1) fun r26=>
 .leaf (((i64.wrap ((1:Int)+r1.1.1)),(0:Int),([]:List YB),r16.1.1,(0:Int),([]:List YB),([]:List YB),r17.1.1,r18.1.1,r26.1.1,r19.1.1,()),(a0.1,r26.2.2.1,r26.2.2.2.1,()))))))))
def Ag9 (a0:Aw):Option (Aa×Aw):=(Af8 a0).val
end
end Go.Proofs.YtjlblagmjlmglaaGreat

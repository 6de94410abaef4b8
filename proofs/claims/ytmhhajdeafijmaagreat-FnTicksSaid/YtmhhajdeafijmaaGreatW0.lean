/-
  What the functions of the seat answer, as plain terms (printed by a program, proved in the texts P); nothing is assumed.
-/
import Derived.Test.YtmhhajdeafijmaaGreatEv2
namespace Go.Proofs.YtmhhajdeafijmaaGreat
open Go.RowKit IntKind
set_option linter.unusedVariables false
set_option maxRecDepth 100000
set_option maxHeartbeats 4000000
noncomputable section
abbrev YB:Type:=Int×Unit
abbrev YI:Type:=Int×Unit
abbrev YBs:Type:=List YB×Unit
abbrev A51:Type:=ByteArray×Int×Unit
abbrev Gv:Type:=Int×Int×Unit
abbrev A96:Type:=(List YB)×Int×Unit
abbrev Bn:Type:=Int×(List YI)×Unit
abbrev Bbr:Type:=Int×Int×Bool×Int×Unit
abbrev A9:Type:=Bool×Int×Int×Int×Unit
abbrev A7:Type:=(List YB)×Int×Int×Unit
abbrev Baf:Type:=Int×Int×Int×Int×Unit
abbrev Jr:Type:=(List YI)×(List YB)×Int×Unit
abbrev A97:Type:=Int×Int×(List YB)×Int×Unit
abbrev YEp:Type:=Int×(List YB)×Int×Int×(List YI)×Unit
abbrev Bdr:Type:=Int×Int×(List A97)×Unit
abbrev Ae:Type:=Int×Int×Int×(List YB)×(List YB)×Int×Int×(List YB)×(List YB)×Int×Int×Int×Unit
abbrev Aa:Type:=Int×Int×(List YB)×(List YB)×Int×(List YB)×(List YB)×Int×Int×(List YB)×(List YB)×Unit
abbrev Bdw:Type:=Int×Int×Int×Int×(List YB)×(List YB)×Int×(List YB)×(List YB)×Int×Int×(List YB)×(List YB)×Unit
abbrev Af:Type:=Int×(List YB)×Int×(List YB)×Int×Int×(List YI)×Int×(List YB)×Int×Int×(List YI)×Bool×Int×(List YB)×Unit
abbrev A98:Type:=Int×(List YB)×(List YB)×Int×(List YB)×Int×(List YB)×Int×Int×(List YI)×Int×(List YB)×Int×Int×(List YI)×Bool×Int×(List YB)×Int×Int×(List A97)×Int×Int×Bool×Unit
abbrev Bdx:Type:=Int×(List A98)×Unit
abbrev Bdq:Type:=(List YBs)×(List YB)×(List YB)×Int×Int×(List A98)×(List Baf)×Unit
abbrev Ab:Type:=Int×(List YB)×Int×Int×Int×(List YB)×Int×Int×(List YB)×(List YB)×Int×(List YB)×(List YB)×Int×Int×(List YB)×(List YB)×Int×(List YB)×Int×(List YB)×Int×Int×(List YI)×Int×(List YB)×Int×Int×(List YI)×Bool×Int×(List YB)×Bool×Int×Int×Int×Bool×Int×Int×Int×Int×Unit
def A2l (a0:YBs):Tree ((Bool×Unit)):=
 .leaf ((decide ((a0.1.length:Int)>(1048576:Int))),())
def A2t (a0:YBs):Option ((Bool×Unit)):=(A2l a0).val
def Rt (x1:A7):Option (A7⊕(A96)):=
 Tree.val (α:=A7⊕(A96)) <|
 .br (decide (x1.2.2.1<(x1.1.length:Int))) (
 .br (decide (x1.2.2.1<(4000:Int))) (
 .ob (idx x1.1 x1.2.2.1) fun e2=>
 .leaf (.inl (x1.1,(i64.wrap ((BitVec.ofInt (i64.bits) ((i64.wrap ((i64.wrap ((i64.wrap (x1.2.1*(137:Int)))+(i64.wrap (e2.1))))+(11:Int)))) &&& BitVec.ofInt (i64.bits) ((1073741823:Int))).toNat:Nat)),(i64.wrap (x1.2.2.1+(1:Int))),()))) (
 .leaf (.inr (x1.1,x1.2.1,())))) (
 .leaf (.inr (x1.1,x1.2.1,())))
def Aj4 (a0:YBs):Tree (A7):=
 .ob (Ay Rt (a0.1,(i64.wrap ((127812:Int)+(a0.1.length:Int))),(0:Int),())) fun o3=>
 .leaf (o3.1,(0:Int),o3.2.1,())
def Alg (a0:YBs):Option (A7):=(Aj4 a0).val
def Afy (a0:A7):Tree (YI×A7):=
 letI u1:=a0.2.2;.br (decide (a0.2.1<(a0.1.length:Int))) (
 .ob (idx a0.1 a0.2.1) fun e1=>
 .leaf (((i64.wrap ((BitVec.ofInt (i64.bits) ((i64.wrap ((i64.wrap ((BitVec.ofInt (i64.bits) ((i64.wrap ((BitVec.ofInt (i64.bits) ((Int.fdiv (i64.wrap ((i64.wrap (u1.1*(6364136223846793005:Int)))+(1442695040888963407:Int))) (2^(min ((33:Int)).toNat i64.bits)))) ^^^ BitVec.ofInt (i64.bits) ((Int.fdiv (i64.wrap ((i64.wrap (u1.1*(6364136223846793005:Int)))+(1442695040888963407:Int))) (2^(min ((47:Int)).toNat i64.bits))))).toNat:Nat))) &&& BitVec.ofInt (i64.bits) ((255:Int))).toNat:Nat))+(i64.wrap (e1.1))))) &&& BitVec.ofInt (i64.bits) ((255:Int))).toNat:Nat)),()),(a0.1,(i64.wrap (a0.2.1+(1:Int))),(i64.wrap ((i64.wrap (u1.1*(6364136223846793005:Int)))+(1442695040888963407:Int))),()))) (
 .leaf (((i64.wrap ((BitVec.ofInt (i64.bits) ((i64.wrap ((BitVec.ofInt (i64.bits) ((Int.fdiv (i64.wrap ((i64.wrap (u1.1*(6364136223846793005:Int)))+(1442695040888963407:Int))) (2^(min ((33:Int)).toNat i64.bits)))) ^^^ BitVec.ofInt (i64.bits) ((Int.fdiv (i64.wrap ((i64.wrap (u1.1*(6364136223846793005:Int)))+(1442695040888963407:Int))) (2^(min ((47:Int)).toNat i64.bits))))).toNat:Nat))) &&& BitVec.ofInt (i64.bits) ((255:Int))).toNat:Nat)),()),(a0.1,a0.2.1,(i64.wrap ((i64.wrap (u1.1*(6364136223846793005:Int)))+(1442695040888963407:Int))),())))
def Js (a0:A7):Option (YI×A7):=(Afy a0).val
def Acg (a0:A7) (a1:YI):Tree (YI×A7):=
 .br (decide (a1.1≤(0:Int))) (
 .leaf (((0:Int),()),a0)) (
 .br (decide (a1.1≤(256:Int))) (
 .ob (Js a0) fun r1=>
 .chk (decide ((0:Int)<a1.1)) <|
 .chk (decide ((0:Int)≤r1.1.1)) <|
 .leaf (((r1.1.1%a1.1),()),(a0.1,r1.2.2.1,r1.2.2.2.1,()))) (
 .ob (Js a0) fun r2=>
 .ob (Js (a0.1,r2.2.2.1,r2.2.2.2.1,())) fun r3=>
 .ob (Js (a0.1,r3.2.2.1,r3.2.2.2.1,())) fun r4=>
 .chk (decide ((0:Int)<a1.1)) <|
 .chk (decide ((0:Int)≤(i64.wrap ((i64.wrap ((i64.wrap (r2.1.1*(65536:Int)))+(i64.wrap (r3.1.1*(256:Int)))))+r4.1.1)))) <|
 .leaf ((((i64.wrap ((i64.wrap ((i64.wrap (r2.1.1*(65536:Int)))+(i64.wrap (r3.1.1*(256:Int)))))+r4.1.1))%a1.1),()),(a0.1,r4.2.2.1,r4.2.2.2.1,()))))
def Df (a0:A7) (a1:YI):Option (YI×A7):=(Acg a0 a1).val
def J4 (x1:Int×(List YB)×Int×(List YB)×Int×Int×Unit):Option ((Int×(List YB)×Int×(List YB)×Int×Int×Unit)⊕(((List YB)×(List YB)×Int×Int×Unit))):=
 letI u1:=x1.2.2.2;Tree.val (α:=(Int×(List YB)×Int×(List YB)×Int×Int×Unit)⊕(((List YB)×(List YB)×Int×Int×Unit))) <|
 .br (decide (x1.2.2.1<x1.1)) (
 .ob (Js (u1.1,u1.2.1,u1.2.2.1,())) fun r2=>
 .chk (decide (x1.2.1.length+[((u8.wrap (r2.1.1)),())].length≤4294967296)) <|
 .leaf (.inl (x1.1,(x1.2.1++[((u8.wrap (r2.1.1)),())]),(i64.wrap (x1.2.2.1+(1:Int))),u1.1,r2.2.2.1,r2.2.2.2.1,()))) (
 .leaf (.inr (x1.2.1,u1.1,u1.2.1,u1.2.2.1,())))
def Ach (a0:A7) (a1:YI):Tree (YBs×A7):=
 .ob (Ay J4 (a1.1,([]:List YB),(0:Int),a0.1,a0.2.1,a0.2.2.1,())) fun o3=>
 .leaf ((o3.1,()),(o3.2.1,o3.2.2.1,o3.2.2.2.1,()))
def F6 (a0:A7) (a1:YI):Option (YBs×A7):=(Ach a0 a1).val
def Apc (a0:YI) (a1:YI) (a2:YI):Tree ((Bool×Unit)):=
 .br (decide (a0.1≥a1.1)) (
 .leaf ((decide (a0.1≤a2.1)),())) (
 .leaf (false,()))
def Bb (a0:YI) (a1:YI) (a2:YI):Option ((Bool×Unit)):=(Apc a0 a1 a2).val
def Afz (a0:YI):Tree (Gv):=
 .ob (Bb a0 ((0:Int),()) ((255:Int),())) fun r1=>
 .br (!r1.1) (
 .leaf ((0:Int),(0:Int),())) (
 .leaf ((i64.wrap ((167772160:Int)+a0.1)),(i64.wrap ((7000:Int)+a0.1)),()))
def Zx (a0:YI):Option (Gv):=(Afz a0).val
def Aj5 (a0:YBs):Tree ((Bool×Unit)):=
 .ob (Bb ((a0.1.length:Int),()) ((1:Int),()) ((32:Int),())) fun r1=>
 .leaf r1
def Ld (a0:YBs):Option ((Bool×Unit)):=(Aj5 a0).val
def Af1 (a0:Gv):Tree ((Bool×Unit)):=
 .ob (Bb (a0.1,()) ((0:Int),()) ((4294967295:Int),())) fun r1=>
 .br r1.1 (
 .ob (Bb (a0.2.1,()) ((0:Int),()) ((65535:Int),())) fun r2=>
 .leaf r2) (
 .leaf (false,()))
def Pe (a0:Gv):Option ((Bool×Unit)):=(Af1 a0).val
def Nl (a0:YI) (a1:YBs) (a2:Gv):Tree (Ab):=
 .ob (Bb a0 ((1:Int),()) ((9:Int),())) fun r1=>
 .br (!r1.1) (
 .leaf ((0:Int),([]:List YB),(0:Int),(0:Int),(0:Int),([]:List YB),(0:Int),(0:Int),([]:List YB),([]:List YB),(0:Int),([]:List YB),([]:List YB),(0:Int),(0:Int),([]:List YB),([]:List YB),(0:Int),([]:List YB),(0:Int),([]:List YB),(0:Int),(0:Int),([]:List YI),(0:Int),([]:List YB),(0:Int),(0:Int),([]:List YI),false,(0:Int),([]:List YB),false,(0:Int),(0:Int),(0:Int),false,(0:Int),(0:Int),(0:Int),(0:Int),())) (
 .ob (Ld a1) fun r2=>
 .br (!r2.1) (
 .leaf ((0:Int),([]:List YB),(0:Int),(0:Int),(0:Int),([]:List YB),(0:Int),(0:Int),([]:List YB),([]:List YB),(0:Int),([]:List YB),([]:List YB),(0:Int),(0:Int),([]:List YB),([]:List YB),(0:Int),([]:List YB),(0:Int),([]:List YB),(0:Int),(0:Int),([]:List YI),(0:Int),([]:List YB),(0:Int),(0:Int),([]:List YI),false,(0:Int),([]:List YB),false,(0:Int),(0:Int),(0:Int),false,(0:Int),(0:Int),(0:Int),(0:Int),())) (
 .ob (Pe a2) fun r3=>
 .br (!r3.1) (
 .leaf ((0:Int),([]:List YB),(0:Int),(0:Int),(0:Int),([]:List YB),(0:Int),(0:Int),([]:List YB),([]:List YB),(0:Int),([]:List YB),([]:List YB),(0:Int),(0:Int),([]:List YB),([]:List YB),(0:Int),([]:List YB),(0:Int),([]:List YB),(0:Int),(0:Int),([]:List YI),(0:Int),([]:List YB),(0:Int),(0:Int),([]:List YI),false,(0:Int),([]:List YB),false,(0:Int),(0:Int),(0:Int),false,(0:Int),(0:Int),(0:Int),(0:Int),())) (
 .chk (decide (([]:List YB).length+a1.1.length≤4294967296)) <|
 .leaf (a0.1,(([]:List YB)++a1.1),a2.1,a2.2.1,(0:Int),([]:List YB),(0:Int),(0:Int),([]:List YB),([]:List YB),(0:Int),([]:List YB),([]:List YB),(0:Int),(0:Int),([]:List YB),([]:List YB),(0:Int),([]:List YB),(0:Int),([]:List YB),(0:Int),(0:Int),([]:List YI),(0:Int),([]:List YB),(0:Int),(0:Int),([]:List YI),false,(0:Int),([]:List YB),false,(0:Int),(0:Int),(0:Int),false,(0:Int),(0:Int),(0:Int),(0:Int),()))))
def Hy (a0:YI) (a1:YBs) (a2:Gv):Option (Ab):=(Nl a0 a1 a2).val
def Aj6 (a0:A7) (a1:(List YI)×Unit):Tree (YI×A7):=
 .ob (Df a0 ((a1.1.length:Int),())) fun r1=>
 .ob (idx a1.1 r1.1.1) fun e2=>
 .leaf (e2,(a0.1,r1.2.2.1,r1.2.2.2.1,()))
def Dk (a0:A7) (a1:(List YI)×Unit):Option (YI×A7):=(Aj6 a0 a1).val
def Af2 (a0:Aa):Tree (Aa):=
 letI u1:=a0.2.2.2;letI u2:=u1.2.2.2;.chk (decide (([]:List YB).length+a0.2.2.1.length≤4294967296)) <|
 .chk (decide (([]:List YB).length+a0.2.2.2.1.length≤4294967296)) <|
 .chk (decide (([]:List YB).length+a0.2.2.2.2.2.1.length≤4294967296)) <|
 .chk (decide (([]:List YB).length+a0.2.2.2.2.2.2.1.length≤4294967296)) <|
 .chk (decide (([]:List YB).length+a0.2.2.2.2.2.2.2.2.2.1.length≤4294967296)) <|
 .chk (decide (([]:List YB).length+a0.2.2.2.2.2.2.2.2.2.2.1.length≤4294967296)) <|
 .leaf (a0.1,a0.2.1,(([]:List YB)++a0.2.2.1),(([]:List YB)++u1.1),u1.2.1,(([]:List YB)++u1.2.2.1),(([]:List YB)++u2.1),u2.2.1,u2.2.2.1,(([]:List YB)++u2.2.2.2.1),(([]:List YB)++u2.2.2.2.2.1),())
def Pf (a0:Aa):Option (Aa):=(Af2 a0).val
def Aq9 (a0:Bn):Tree (Bn):=
 .chk (decide (([]:List YI).length+a0.2.1.length≤4294967296)) <|
 .leaf (a0.1,(([]:List YI)++a0.2.1),())
def Ahn (a0:Bn):Option (Bn):=(Aq9 a0).val
def Af4 (a0:YEp):Tree (YEp):=
 .chk (decide (([]:List YB).length+a0.2.1.length≤4294967296)) <|
 .ob (Ahn (a0.2.2.2.1,a0.2.2.2.2.1,())) fun r1=>
 .leaf (a0.1,(([]:List YB)++a0.2.1),a0.2.2.1,r1.1,r1.2.1,())
def L5 (a0:YEp):Option (YEp):=(Af4 a0).val
def Aj7 (a0:YEp) (a1:Bool×Unit):Tree (YEp):=
 .br (!a1.1) (
 .chk (decide (([]:List YB).length+a0.2.1.length≤4294967296)) <|
 .chk (decide (([]:List YI).length+a0.2.2.2.2.1.length≤4294967296)) <|
 .leaf (a0.1,(([]:List YB)++a0.2.1),a0.2.2.1,a0.2.2.2.1,(([]:List YI)++a0.2.2.2.2.1),())) (
 .ob (L5 a0) fun r1=>
 .leaf r1)
def Alh (a0:YEp) (a1:Bool×Unit):Option (YEp):=(Aj7 a0 a1).val
def Acj (a0:Af):Tree (Af):=
 letI u1:=a0.2.2.2;letI u2:=u1.2.2.2;letI u3:=u2.2.2.2;letI u4:=u3.2.2.2;.chk (decide (([]:List YB).length+a0.2.1.length≤4294967296)) <|
 .ob (L5 (a0.2.2.1,u1.1,u1.2.1,u1.2.2.1,u2.1,())) fun r1=>
 .ob (Alh (u2.2.1,u2.2.2.1,u3.1,u3.2.1,u3.2.2.1,()) (u4.1,())) fun r2=>
 .chk (decide (([]:List YB).length+a0.2.2.2.2.2.2.2.2.2.2.2.2.2.2.1.length≤4294967296)) <|
 .leaf (a0.1,(([]:List YB)++a0.2.1),r1.1,r1.2.1,r1.2.2.1,r1.2.2.2.1,r1.2.2.2.2.1,r2.1,r2.2.1,r2.2.2.1,r2.2.2.2.1,r2.2.2.2.2.1,u4.1,u4.2.1,(([]:List YB)++u4.2.2.1),())
def Mu (a0:Af):Option (Af):=(Acj a0).val
def Acl (a0:Ab):Tree (Ab):=
 letI u1:=a0.2.2.2;letI u2:=u1.2.2.2;letI u3:=u2.2.2.2;letI u4:=u3.2.2.2;letI u5:=u4.2.2.2;letI u6:=u5.2.2.2;letI u7:=u6.2.2.2;letI u8:=u7.2.2.2;letI u9:=u8.2.2.2;letI u10:=u9.2.2.2;letI u11:=u10.2.2.2;letI u12:=u11.2.2.2;.chk (decide (([]:List YB).length+a0.2.1.length≤4294967296)) <|
 .chk (decide (([]:List YB).length+a0.2.2.2.2.2.1.length≤4294967296)) <|
 .ob (Pf (u2.1,u2.2.1,u2.2.2.1,u3.1,u3.2.1,u3.2.2.1,u4.1,u4.2.1,u4.2.2.1,u5.1,u5.2.1,())) fun r1=>letI u13:=r1.2.2.2;letI u14:=u13.2.2.2;
 .ob (Mu (u5.2.2.1,u6.1,u6.2.1,u6.2.2.1,u7.1,u7.2.1,u7.2.2.1,u8.1,u8.2.1,u8.2.2.1,u9.1,u9.2.1,u9.2.2.1,u10.1,u10.2.1,())) fun r2=>letI u15:=r2.2.2.2;letI u16:=u15.2.2.2;letI u17:=u16.2.2.2.2;
 .leaf (a0.1,(([]:List YB)++a0.2.1),a0.2.2.1,u1.1,u1.2.1,(([]:List YB)++u1.2.2.1),r1.1,r1.2.1,r1.2.2.1,u13.1,u13.2.1,u13.2.2.1,u14.1,u14.2.1,u14.2.2.1,u14.2.2.2.1,u14.2.2.2.2.1,r2.1,r2.2.1,r2.2.2.1,u15.1,u15.2.1,u15.2.2.1,u16.1,u16.2.1,u16.2.2.1,u16.2.2.2.1,u17.1,u17.2.1,u17.2.2.1,u17.2.2.2.1,u17.2.2.2.2.1,u10.2.2.1,u11.1,u11.2.1,u11.2.2.1,u12.1,u12.2.1,u12.2.2.1,u12.2.2.2.1,u12.2.2.2.2.1,())
def R8 (a0:Ab):Option (Ab):=(Acl a0).val
def Acn (a0:A9):Tree ((Bool×Unit)):=
 letI u1:=a0.2.2;.br (!a0.1) (
 .leaf ((and (a0.1==false) (and (a0.2.1==(0:Int)) (and (u1.1==(0:Int)) (and (u1.2.1==(0:Int)) true)))),())) (
 .ob (Bb (a0.2.1,()) ((0:Int),()) ((1000008:Int),())) fun r1=>
 .br r1.1 (
 .br (u1.1==(1:Int)) (
 .ob (Bb (u1.2.1,()) ((1:Int),()) ((5:Int),())) fun r2=>
 .leaf r2) (
 .br (u1.1==(2:Int)) (
 .ob (Bb (u1.2.1,()) ((1:Int),()) ((5:Int),())) fun r3=>
 .leaf r3) (
 .br (u1.1==(4:Int)) (
 .ob (Bb (u1.2.1,()) ((1:Int),()) ((5:Int),())) fun r4=>
 .leaf r4) (
 .br (u1.1==(8:Int)) (
 .ob (Bb (u1.2.1,()) ((1:Int),()) ((5:Int),())) fun r5=>
 .leaf r5) (
 .leaf (false,())))))) (
 .leaf (false,())))
def Kl (a0:A9):Option ((Bool×Unit)):=(Acn a0).val
def Qm (a0:Aa):Tree ((Bool×Unit)):=
 letI u1:=a0.2.2.2.2;.br (a0.1==(0:Int)) (
 .br (a0.2.1==(0:Int)) (
 .br ((a0.2.2.1.length:Int)==(0:Int)) (
 .br ((a0.2.2.2.1.length:Int)==(0:Int)) (
 .br (u1.1==(0:Int)) (
 .br ((a0.2.2.2.2.2.1.length:Int)==(0:Int)) (
 .br ((a0.2.2.2.2.2.2.1.length:Int)==(0:Int)) (
 .br (u1.2.2.2.1==(0:Int)) (
 .br (u1.2.2.2.2.1==(0:Int)) (
 .br ((a0.2.2.2.2.2.2.2.2.2.1.length:Int)==(0:Int)) (
 .leaf (((a0.2.2.2.2.2.2.2.2.2.2.1.length:Int)==(0:Int)),())) (
 .leaf (false,()))) (
 .leaf (false,()))) (
 .leaf (false,()))) (
 .leaf (false,()))) (
 .leaf (false,()))) (
 .leaf (false,()))) (
 .leaf (false,()))) (
 .leaf (false,()))) (
 .leaf (false,()))) (
 .leaf (false,()))
def I9 (a0:Aa):Option ((Bool×Unit)):=(Qm a0).val
def Acp (a0:YEp):Tree ((Bool×Unit)):=
 .br (a0.1==(0:Int)) (
 .br ((a0.2.1.length:Int)==(0:Int)) (
 .br (a0.2.2.1==(0:Int)) (
 .br (a0.2.2.2.1==(0:Int)) (
 .leaf (((a0.2.2.2.2.1.length:Int)==(0:Int)),())) (
 .leaf (false,()))) (
 .leaf (false,()))) (
 .leaf (false,()))) (
 .leaf (false,()))
def Mv (a0:YEp):Option ((Bool×Unit)):=(Acp a0).val
def Tn (a0:Af):Tree ((Bool×Unit)):=
 letI u1:=a0.2.2.2;letI u2:=u1.2.2.2;letI u3:=u2.2.2.2;.br (a0.1==(0:Int)) (
 .br ((a0.2.1.length:Int)==(0:Int)) (
 .ob (Mv (a0.2.2.1,u1.1,u1.2.1,u1.2.2.1,u2.1,())) fun r1=>
 .br r1.1 (
 .ob (Mv (u2.2.1,u2.2.2.1,u3.1,u3.2.1,u3.2.2.1,())) fun r2=>
 .br r2.1 (
 .br (!u3.2.2.2.1) (
 .br (u3.2.2.2.2.1==(0:Int)) (
 .leaf (((a0.2.2.2.2.2.2.2.2.2.2.2.2.2.2.1.length:Int)==(0:Int)),())) (
 .leaf (false,()))) (
 .leaf (false,()))) (
 .leaf (false,()))) (
 .leaf (false,()))) (
 .leaf (false,()))) (
 .leaf (false,()))
def Np (a0:Af):Option ((Bool×Unit)):=(Tn a0).val
def Akc (a0:Bn) (a1:YI):Tree ((Bool×Unit)):=
 .chk (decide ((0:Int)≤a1.1)) <|
 .chk (decide ((0:Int)≤(a1.1%(1024:Int)))) <|
 .ob (idx a0.2.1 ((a1.1%(1024:Int))/(32:Int))) fun e1=>
 .chk (decide ((0:Int)≤(a1.1%(1024:Int)))) <|
 .chk (decide ((0:Int)≤((a1.1%(1024:Int))%(32:Int)))) <|
 .leaf (((i64.wrap ((BitVec.ofInt (i64.bits) ((Int.fdiv e1.1 (2^(min (((a1.1%(1024:Int))%(32:Int))).toNat i64.bits)))) &&& BitVec.ofInt (i64.bits) ((1:Int))).toNat:Nat))==(1:Int)),())
def Sv (a0:Bn) (a1:YI):Option ((Bool×Unit)):=(Akc a0 a1).val
def Im (x2:Int×Int×(List YI)×Unit):Option ((Int×Int×(List YI)×Unit)⊕((Bool×Unit)⊕Bn)):=
 Tree.val (α:=(Int×Int×(List YI)×Unit)⊕((Bool×Unit)⊕Bn)) <|
 .br (decide (x2.1<(32:Int))) (
 .ob (idx x2.2.2.1 x2.1) fun e3=>
 .ob (Bb e3 ((0:Int),()) ((4294967295:Int),())) fun r4=>
 .br (!r4.1) (
 .leaf (.inr (.inl (false,())))) (
 .leaf (.inl ((i64.wrap (x2.1+(1:Int))),x2.2.1,x2.2.2.1,())))) (
 .leaf (.inr (.inr (x2.2.1,x2.2.2.1,()))))
def Gb (x9:Int×Int×(List YI)×Unit):Option ((Int×Int×(List YI)×Unit)⊕((Bool×Unit)⊕(Unit))):=
 Tree.val (α:=(Int×Int×(List YI)×Unit)⊕((Bool×Unit)⊕(Unit))) <|
 .br (decide (x9.1<(1024:Int))) (
 .ob (Sv (x9.2.1,x9.2.2.1,()) (x9.1,())) fun r10=>
 .br r10.1 (
 .leaf (.inr (.inl (false,())))) (
 .leaf (.inl ((i64.wrap (x9.1+(1:Int))),x9.2.1,x9.2.2.1,())))) (
 .leaf (.inr (.inr ())))
def Aba (a0:Bn):Tree ((Bool×Unit)):=
 .br ((a0.2.1.length:Int) != (32:Int)) (
 .leaf (false,())) (
 .ob (Bb (a0.1,()) ((-1:Int),()) ((281474976710655:Int),())) fun r1=>
 .br (!r1.1) (
 .leaf (false,())) (
 .ob (Ay Im ((0:Int),a0.1,a0.2.1,())) fun o5=>
 .sm o5 (fun o6=>
 .leaf o6) (fun o7=>
 .br (decide (o7.1≥(0:Int))) (
 .ob (Sv o7 (o7.1,())) fun r8=>
 .br (!r8.1) (
 .leaf (false,())) (
 .ob (Ay Gb ((i64.wrap (o7.1+(1:Int))),o7.1,o7.2.1,())) fun o11=>
 .sm o11 (fun o12=>
 .leaf o12) (fun o13=>
 .leaf (true,())))) (
 .ob (Ay Gb ((i64.wrap (o7.1+(1:Int))),o7.1,o7.2.1,())) fun o14=>
 .sm o14 (fun o15=>
 .leaf o15) (fun o16=>
 .leaf (true,()))))))
def Abm (a0:Bn):Option ((Bool×Unit)):=(Aba a0).val
def Apd (a0:YEp):Tree ((Bool×Unit)):=
 .ob (Bb (a0.1,()) ((0:Int),()) ((4294967295:Int),())) fun r1=>
 .br r1.1 (
 .br ((a0.2.1.length:Int)==(32:Int)) (
 .ob (Bb (a0.2.2.1,()) ((0:Int),()) ((281474976710656:Int),())) fun r2=>
 .br r2.1 (
 .ob (Abm (a0.2.2.2.1,a0.2.2.2.2.1,())) fun r3=>
 .leaf r3) (
 .leaf (false,()))) (
 .leaf (false,()))) (
 .leaf (false,()))
def Nz (a0:YEp):Option ((Bool×Unit)):=(Apd a0).val
def Af6 (a0:Af):Tree ((Bool×Unit)):=
 letI u1:=a0.2.2;letI u2:=u1.2.2;letI u3:=u2.2.2.2;letI u4:=u3.2.2;letI u5:=u4.2.2;.ob (Bb (a0.1,()) ((0:Int),()) ((1:Int),())) fun r1=>
 .br (!r1.1) (
 .leaf (false,())) (
 .br ((a0.2.1.length:Int) != (12:Int)) (
 .leaf (false,())) (
 .ob (Nz (u1.1,u1.2.1,u2.1,u2.2.1,u2.2.2.1,())) fun r2=>
 .br (!r2.1) (
 .leaf (false,())) (
 .br u5.2.1 (
 .br (a0.1==(0:Int)) (
 .ob (Nz (u3.1,u3.2.1,u4.1,u4.2.1,u5.1,())) fun r3=>
 .br (!r3.1) (
 .leaf (false,())) (
 .br (u3.1 != (i64.wrap (u1.1-(1:Int)))) (
 .leaf (false,())) (
 .ob (Bb (u5.2.2.1,()) ((0:Int),()) ((1000005:Int),())) fun r4=>
 .br (!r4.1) (
 .leaf (false,())) (
 .br ((a0.2.2.2.2.2.2.2.2.2.2.2.2.2.2.1.length:Int)==(0:Int)) (
 .leaf (true,())) (
 .br (a0.1==(0:Int)) (
 .br ((a0.2.2.2.2.2.2.2.2.2.2.2.2.2.2.1.length:Int)==(32:Int)) (
 .leaf ((decide (u1.1<(4294967295:Int))),())) (
 .leaf (false,()))) (
 .leaf (false,()))))))) (
 .ob (Nz (u3.1,u3.2.1,u4.1,u4.2.1,u5.1,())) fun r5=>
 .br (!r5.1) (
 .leaf (false,())) (
 .br (u3.1 != (i64.wrap (u1.1-(1:Int)))) (
 .leaf (false,())) (
 .ob (Bb (u5.2.2.1,()) ((-1:Int),()) ((1000005:Int),())) fun r6=>
 .br (!r6.1) (
 .leaf (false,())) (
 .br ((a0.2.2.2.2.2.2.2.2.2.2.2.2.2.2.1.length:Int)==(0:Int)) (
 .leaf (true,())) (
 .br (a0.1==(0:Int)) (
 .br ((a0.2.2.2.2.2.2.2.2.2.2.2.2.2.2.1.length:Int)==(32:Int)) (
 .leaf ((decide (u1.1<(4294967295:Int))),())) (
 .leaf (false,()))) (
 .leaf (false,())))))))) (
 .ob (Mv (u3.1,u3.2.1,u4.1,u4.2.1,u5.1,())) fun r7=>
 .br (!r7.1) (
 .leaf (false,())) (
 .br (u5.2.2.1 != (0:Int)) (
 .leaf (false,())) (
 .br ((a0.2.2.2.2.2.2.2.2.2.2.2.2.2.2.1.length:Int)==(0:Int)) (
 .leaf (true,())) (
 .br (a0.1==(0:Int)) (
 .br ((a0.2.2.2.2.2.2.2.2.2.2.2.2.2.2.1.length:Int)==(32:Int)) (
 .leaf ((decide (u1.1<(4294967295:Int))),())) (
 .leaf (false,()))) (
 .leaf (false,())))))))))
def Jt (a0:Af):Option ((Bool×Unit)):=(Af6 a0).val
def Af7 (a0:YI):Tree ((Bool×Unit)):=
 .ob (Bb a0 ((4:Int),()) ((8:Int),())) fun r1=>
 .leaf r1
def H5 (a0:YI):Option ((Bool×Unit)):=(Af7 a0).val
def Af8 (a0:YI) (a1:YI):Tree ((Bool×Unit)):=
 .br (a0.1==(4:Int)) (
 .leaf ((decide (a1.1≤(40:Int))),())) (
 .br (a0.1==(5:Int)) (
 .leaf ((a1.1==(12:Int)),())) (
 .br (a0.1==(6:Int)) (
 .leaf ((a1.1==(12:Int)),())) (
 .leaf ((a1.1==(4:Int)),()))))
def Pg (a0:YI) (a1:YI):Option ((Bool×Unit)):=(Af8 a0 a1).val
def Acr (a0:Aa):Tree ((Bool×Unit)):=
 letI u1:=a0.2.2.2.2;letI u2:=u1.2.2.2;.ob (H5 (a0.1,())) fun r1=>
 .br r1.1 (
 .br (a0.2.1==(0:Int)) (
 .br ((a0.2.2.1.length:Int)==(0:Int)) (
 .br ((a0.2.2.2.1.length:Int)==(12:Int)) (
 .br (u1.1==(0:Int)) (
 .br ((a0.2.2.2.2.2.1.length:Int)==(0:Int)) (
 .br ((a0.2.2.2.2.2.2.1.length:Int)==(0:Int)) (
 .ob (Bb (u2.1,()) ((0:Int),()) ((4294967295:Int),())) fun r2=>
 .br r2.1 (
 .ob (Bb (u2.2.1,()) ((0:Int),()) ((281474976710655:Int),())) fun r3=>
 .br r3.1 (
 .ob (Pg (a0.1,()) ((a0.2.2.2.2.2.2.2.2.2.1.length:Int),())) fun r4=>
 .br r4.1 (
 .leaf (((a0.2.2.2.2.2.2.2.2.2.2.1.length:Int)==(16:Int)),())) (
 .leaf (false,()))) (
 .leaf (false,()))) (
 .leaf (false,()))) (
 .leaf (false,()))) (
 .leaf (false,()))) (
 .leaf (false,()))) (
 .leaf (false,()))) (
 .leaf (false,()))) (
 .leaf (false,()))) (
 .br (u2.1 != (0:Int)) (
 .leaf (false,())) (
 .br (u2.2.1 != (0:Int)) (
 .leaf (false,())) (
 .br ((a0.2.2.2.2.2.2.2.2.2.1.length:Int) != (0:Int)) (
 .leaf (false,())) (
 .br ((a0.2.2.2.2.2.2.2.2.2.2.1.length:Int) != (0:Int)) (
 .leaf (false,())) (
 .br ((a0.2.2.1.length:Int) != (12:Int)) (
 .leaf (false,())) (
 .br (a0.1==(1:Int)) (
 .ob (Bb (a0.2.1,()) ((1:Int),()) ((9:Int),())) fun r5=>
 .br r5.1 (
 .br ((a0.2.2.2.1.length:Int)==(0:Int)) (
 .br (u1.1==(0:Int)) (
 .br ((a0.2.2.2.2.2.1.length:Int)==(0:Int)) (
 .leaf (((a0.2.2.2.2.2.2.1.length:Int)==(0:Int)),())) (
 .leaf (false,()))) (
 .leaf (false,()))) (
 .leaf (false,()))) (
 .leaf (false,()))) (
 .br (a0.1==(2:Int)) (
 .br (a0.2.1==(0:Int)) (
 .br ((a0.2.2.2.1.length:Int)==(12:Int)) (
 .ob (Bb (u1.1,()) ((0:Int),()) ((1000000:Int),())) fun r6=>
 .br r6.1 (
 .br ((a0.2.2.2.2.2.1.length:Int)==(16:Int)) (
 .leaf (((a0.2.2.2.2.2.2.1.length:Int)==(0:Int)),())) (
 .leaf (false,()))) (
 .leaf (false,()))) (
 .leaf (false,()))) (
 .leaf (false,()))) (
 .br (a0.1==(3:Int)) (
 .ob (Bb (a0.2.1,()) ((1:Int),()) ((9:Int),())) fun r7=>
 .br r7.1 (
 .br ((a0.2.2.2.1.length:Int)==(12:Int)) (
 .ob (Bb (u1.1,()) ((0:Int),()) ((1000000:Int),())) fun r8=>
 .br r8.1 (
 .br ((a0.2.2.2.2.2.1.length:Int)==(16:Int)) (
 .leaf (((a0.2.2.2.2.2.2.1.length:Int)==(16:Int)),())) (
 .leaf (false,()))) (
 .leaf (false,()))) (
 .leaf (false,()))) (
 .leaf (false,()))) (
 .leaf (false,()))))))))))
def Iq (a0:Aa):Option ((Bool×Unit)):=(Acr a0).val
def Ard (a0:YBs) (a1:YBs):Tree ((Bool×Unit)):=
 .leaf ((decide ((Ko a0.1)=(Ko a1.1))),())
def Ph (a0:YBs) (a1:YBs):Option ((Bool×Unit)):=(Ard a0 a1).val
def X0 (a0:Ab):Tree ((Bool×Unit)):=
 letI u1:=a0.2.2.2.2;letI u2:=u1.2.2;letI u3:=u2.2.2;letI u4:=u3.2.2;letI u5:=u4.2.2;letI u6:=u5.2.2;letI u7:=u6.2.2;letI u8:=u7.2.2;letI u9:=u8.2.2;letI u10:=u9.2.2;letI u11:=u10.2.2;letI u12:=u11.2.2;letI u13:=u12.2.2;letI u14:=u13.2.2;letI u15:=u14.2.2;letI u16:=u15.2.2.2.2;letI u17:=u16.2.2.2;.ob (Bb (a0.1,()) ((1:Int),()) ((9:Int),())) fun r1=>
 .br (!r1.1) (
 .leaf (false,())) (
 .ob (Ld (a0.2.1,())) fun r2=>
 .br (!r2.1) (
 .leaf (false,())) (
 .ob (Pe (a0.2.2.1,a0.2.2.2.1,())) fun r3=>
 .br (!r3.1) (
 .leaf (false,())) (
 .ob (Kl (u15.1,u15.2.1,u15.2.2.1,u15.2.2.2.1,())) fun r4=>
 .br (!r4.1) (
 .leaf (false,())) (
 .ob (Kl (u16.1,u16.2.1,u16.2.2.1,u17.1,())) fun r5=>
 .br (!r5.1) (
 .leaf (false,())) (
 .ob (Bb (u17.2.1,()) ((0:Int),()) ((1000000:Int),())) fun r6=>
 .br (!r6.1) (
 .leaf (false,())) (
 .br (u1.1==(0:Int)) (
 .br ((a0.2.2.2.2.2.1.length:Int)==(0:Int)) (
 .ob (I9 (u2.1,u2.2.1,u3.1,u3.2.1,u4.1,u4.2.1,u5.1,u5.2.1,u6.1,u6.2.1,u7.1,())) fun r7=>
 .br r7.1 (
 .ob (Np (u7.2.1,u8.1,u8.2.1,u9.1,u9.2.1,u10.1,u10.2.1,u11.1,u11.2.1,u12.1,u12.2.1,u13.1,u13.2.1,u14.1,u14.2.1,())) fun r8=>
 .br r8.1 (
 .br (!u15.1) (
 .br (!u16.1) (
 .leaf ((u17.2.1==(0:Int)),())) (
 .leaf (false,()))) (
 .leaf (false,()))) (
 .leaf (false,()))) (
 .leaf (false,()))) (
 .leaf (false,()))) (
 .br ((a0.2.2.2.2.2.1.length:Int) != (12:Int)) (
 .leaf (false,())) (
 .br (u1.1==(3:Int)) (
 .ob (I9 (u2.1,u2.2.1,u3.1,u3.2.1,u4.1,u4.2.1,u5.1,u5.2.1,u6.1,u6.2.1,u7.1,())) fun r9=>
 .br r9.1 (
 .ob (Jt (u7.2.1,u8.1,u8.2.1,u9.1,u9.2.1,u10.1,u10.2.1,u11.1,u11.2.1,u12.1,u12.2.1,u13.1,u13.2.1,u14.1,u14.2.1,())) fun r10=>
 .br r10.1 (
 .br (u7.2.1==(0:Int)) (
 .br (!u15.1) (
 .leaf ((u16.1==(decide ((a0.2.2.2.2.2.2.2.2.2.2.2.2.2.2.2.2.2.2.2.2.2.2.2.2.2.2.2.2.2.2.2.1.length:Int)>(0:Int)))),())) (
 .leaf (false,()))) (
 .leaf (false,()))) (
 .leaf (false,()))) (
 .leaf (false,()))) (
 .br (!u15.1) (
 .leaf (false,())) (
 .br u16.1 (
 .leaf (false,())) (
 .br (u17.2.1 != (0:Int)) (
 .leaf (false,())) (
 .br (u1.1==(1:Int)) (
 .ob (I9 (u2.1,u2.2.1,u3.1,u3.2.1,u4.1,u4.2.1,u5.1,u5.2.1,u6.1,u6.2.1,u7.1,())) fun r11=>
 .br r11.1 (
 .ob (Np (u7.2.1,u8.1,u8.2.1,u9.1,u9.2.1,u10.1,u10.2.1,u11.1,u11.2.1,u12.1,u12.2.1,u13.1,u13.2.1,u14.1,u14.2.1,())) fun r12=>
 .leaf r12) (
 .leaf (false,()))) (
 .br (u1.1==(2:Int)) (
 .ob (Iq (u2.1,u2.2.1,u3.1,u3.2.1,u4.1,u4.2.1,u5.1,u5.2.1,u6.1,u6.2.1,u7.1,())) fun r13=>
 .br r13.1 (
 .br (u2.1==(3:Int)) (
 .br (u2.2.1==a0.1) (
 .ob (Ph (u3.1,()) (u1.2.1,())) fun r14=>
 .br r14.1 (
 .ob (Jt (u7.2.1,u8.1,u8.2.1,u9.1,u9.2.1,u10.1,u10.2.1,u11.1,u11.2.1,u12.1,u12.2.1,u13.1,u13.2.1,u14.1,u14.2.1,())) fun r15=>
 .br r15.1 (
 .br (u7.2.1==(0:Int)) (
 .ob (Ph (u8.1,()) (u3.2.1,())) fun r16=>
 .br r16.1 (
 .br (u8.2.1==(0:Int)) (
 .br (!u13.2.1) (
 .leaf (((a0.2.2.2.2.2.2.2.2.2.2.2.2.2.2.2.2.2.2.2.2.2.2.2.2.2.2.2.2.2.2.2.1.length:Int)==(0:Int)),())) (
 .leaf (false,()))) (
 .leaf (false,()))) (
 .leaf (false,()))) (
 .leaf (false,()))) (
 .leaf (false,()))) (
 .leaf (false,()))) (
 .leaf (false,()))) (
 .leaf (false,()))) (
 .leaf (false,()))) (
 .leaf (false,())))))))))))))))
def Le (a0:Ab):Option ((Bool×Unit)):=(X0 a0).val
def Iw (a0:YI):Tree (A9):=
 .ob (Bb a0 ((0:Int),()) ((1000000:Int),())) fun r1=>
 .br (!r1.1) (
 .leaf (false,(0:Int),(0:Int),(0:Int),())) (
 .leaf (true,(i64.wrap (a0.1+(1:Int))),(1:Int),(1:Int),()))
def Cn (a0:YI):Option (A9):=(Iw a0).val
def Ry (a0:Ab):Tree (Aa):=
 .chk (decide (([]:List YB).length+a0.2.2.2.2.2.1.length≤4294967296)) <|
 .leaf ((1:Int),a0.1,(([]:List YB)++a0.2.2.2.2.2.1),([]:List YB),(0:Int),([]:List YB),([]:List YB),(0:Int),(0:Int),([]:List YB),([]:List YB),())
def Mw (a0:Ab):Option (Aa):=(Ry a0).val
def Af9 (a0:Ab) (a1:YI) (a2:YBs):Tree (Ab×((List Aa)×Unit)×((List Ae)×Unit)×YI):=
 .ob (R8 a0) fun r1=>letI u1:=r1.2.2;letI u2:=u1.2.2.2.2;letI u3:=u2.2.2;letI u4:=u3.2.2;letI u5:=u4.2.2;letI u6:=u5.2.2;letI u7:=u6.2.2;letI u8:=u7.2.2;letI u9:=u8.2.2;letI u10:=u9.2.2;letI u11:=u10.2.2;letI u12:=u11.2.2;letI u13:=u12.2.2;letI u14:=u13.2.2;letI u15:=u14.2.2.2.2.2.2;letI u16:=u15.2.2;
 .ob (Le a0) fun r2=>
 .br (!r2.1) (
 .leaf (r1,(([]:List Aa),()),(([]:List Ae),()),((1:Int),()))) (
 .ob (Bb a1 ((0:Int),()) ((1000000:Int),())) fun r3=>
 .br (!r3.1) (
 .leaf (r1,(([]:List Aa),()),(([]:List Ae),()),((1:Int),()))) (
 .br ((a2.1.length:Int) != (12:Int)) (
 .leaf (r1,(([]:List Aa),()),(([]:List Ae),()),((1:Int),()))) (
 .br (a0.2.2.2.2.1 != (0:Int)) (
 .leaf (r1,(([]:List Aa),()),(([]:List Ae),()),((6:Int),()))) (
 .chk (decide (([]:List YB).length+a2.1.length≤4294967296)) <|
 .ob (Cn a1) fun r4=>
 .chk (decide (([]:List YB).length+a2.1.length≤4294967296)) <|
 .ob (Mw (r1.1,r1.2.1,u1.1,u1.2.1,(1:Int),(([]:List YB)++a2.1),u2.1,u2.2.1,u3.1,u3.2.1,u4.1,u4.2.1,u5.1,u5.2.1,u6.1,u6.2.1,u7.1,u7.2.1,u8.1,u8.2.1,u9.1,u9.2.1,u10.1,u10.2.1,u11.1,u11.2.1,u12.1,u12.2.1,u13.1,u13.2.1,u14.1,u14.2.1,r4.1,r4.2.1,r4.2.2.1,r4.2.2.2.1,u15.1,u15.2.1,u16.1,u16.2.1,u16.2.2.1,())) fun r5=>
 .leaf ((r1.1,r1.2.1,u1.1,u1.2.1,(1:Int),(([]:List YB)++a2.1),u2.1,u2.2.1,u3.1,u3.2.1,u4.1,u4.2.1,u5.1,u5.2.1,u6.1,u6.2.1,u7.1,u7.2.1,u8.1,u8.2.1,u9.1,u9.2.1,u10.1,u10.2.1,u11.1,u11.2.1,u12.1,u12.2.1,u13.1,u13.2.1,u14.1,u14.2.1,r4.1,r4.2.1,r4.2.2.1,r4.2.2.2.1,u15.1,u15.2.1,u16.1,u16.2.1,u16.2.2.1,()),([r5],()),([((1:Int),a0.1,(0:Int),(([]:List YB)++a2.1),([]:List YB),(0:Int),(0:Int),([]:List YB),([]:List YB),(0:Int),(0:Int),a1.1,())],()),((0:Int),()))))))
def N0 (a0:Ab) (a1:YI) (a2:YBs):Option (Ab×((List Aa)×Unit)×((List Ae)×Unit)×YI):=(Af9 a0 a1 a2).val
def Hc (a0:A9) (a1:YI):Tree ((Bool×Unit)):=
 .ob (Kl a0) fun r1=>
 .br r1.1 (
 .br a0.1 (
 .ob (Bb a1 ((0:Int),()) ((1000000:Int),())) fun r2=>
 .br r2.1 (
 .leaf ((decide (a1.1≥a0.2.1)),())) (
 .leaf (false,()))) (
 .leaf (false,()))) (
 .leaf (false,()))
def Ew (a0:A9) (a1:YI):Option ((Bool×Unit)):=(Hc a0 a1).val
def J5 (a0:A9) (a1:YI):Tree (A9×YI):=
 letI u1:=a0.2.2;.ob (Ew a0 a1) fun r1=>
 .br (!r1.1) (
 .leaf (a0,((0:Int),()))) (
 .br (u1.2.1==(5:Int)) (
 .leaf ((false,(0:Int),(0:Int),(0:Int),()),((2:Int),()))) (
 .br (decide ((i64.wrap ((2:Int)*u1.1))>(8:Int))) (
 .leaf ((true,(i64.wrap (a1.1+(8:Int))),(8:Int),(i64.wrap (u1.2.1+(1:Int))),()),((1:Int),()))) (
 .leaf ((true,(i64.wrap (a1.1+(i64.wrap ((2:Int)*u1.1)))),(i64.wrap ((2:Int)*u1.1)),(i64.wrap (u1.2.1+(1:Int))),()),((1:Int),())))))
def D9 (a0:A9) (a1:YI):Option (A9×YI):=(J5 a0 a1).val
def Nn (a0:A7):Tree (Aa×A7):=
 .ob (F6 a0 ((12:Int),())) fun r1=>
 .ob (F6 (a0.1,r1.2.2.1,r1.2.2.2.1,()) ((12:Int),())) fun r2=>
 .ob (Df (a0.1,r2.2.2.1,r2.2.2.2.1,()) ((300:Int),())) fun r3=>
 .ob (F6 (a0.1,r3.2.2.1,r3.2.2.2.1,()) ((16:Int),())) fun r4=>
 .leaf (((2:Int),(0:Int),r1.1.1,r2.1.1,r3.1.1,r4.1.1,([]:List YB),(0:Int),(0:Int),([]:List YB),([]:List YB),()),(a0.1,r4.2.2.1,r4.2.2.2.1,()))
def Ka (a0:A7):Option (Aa×A7):=(Nn a0).val
def Ov (x1:Int×(List YB)×Int×Unit):Option ((Int×(List YB)×Int×Unit)⊕(YBs)):=
 letI u1:=x1.2.2;Tree.val (α:=(Int×(List YB)×Int×Unit)⊕(YBs)) <|
 .br (decide (u1.1≥(0:Int))) (
 .chk (decide ((0:Int)≤(i64.wrap ((8:Int)*u1.1)))) <|
 .chk (decide (x1.2.1.length+[((u8.wrap ((i64.wrap ((BitVec.ofInt (i64.bits) ((Int.fdiv x1.1 (2^(min ((i64.wrap ((8:Int)*u1.1))).toNat i64.bits)))) &&& BitVec.ofInt (i64.bits) ((255:Int))).toNat:Nat)))),())].length≤4294967296)) <|
 .leaf (.inl (x1.1,(x1.2.1++[((u8.wrap ((i64.wrap ((BitVec.ofInt (i64.bits) ((Int.fdiv x1.1 (2^(min ((i64.wrap ((8:Int)*u1.1))).toNat i64.bits)))) &&& BitVec.ofInt (i64.bits) ((255:Int))).toNat:Nat)))),())]),(i64.wrap (u1.1-(1:Int))),()))) (
 .leaf (.inr (x1.2.1,())))
def Ape (a0:YBs) (a1:YI) (a2:YI):Tree (YBs):=
 .chk (decide (([]:List YB).length+a0.1.length≤4294967296)) <|
 .br (decide (a2.1<(1:Int))) (
 .leaf ((([]:List YB)++a0.1),())) (
 .br (decide (a2.1>(6:Int))) (
 .leaf ((([]:List YB)++a0.1),())) (
 .ob (Ay Ov (a1.1,(([]:List YB)++a0.1),(i64.wrap (a2.1-(1:Int))),())) fun o2=>
 .leaf o2))
def Fx (a0:YBs) (a1:YI) (a2:YI):Option (YBs):=(Ape a0 a1 a2).val
def Aki (x1:Int×(List YB)×Unit):Option ((Int×(List YB)×Unit)⊕((Int×(List YB)×Unit))):=
 Tree.val (α:=(Int×(List YB)×Unit)⊕((Int×(List YB)×Unit))) <|
 .chk (decide ((0:Int)≤(i64.wrap ((i64.wrap (x1.1+(x1.2.1.length:Int)))+(8:Int))))) <|
 .br (((i64.wrap ((i64.wrap (x1.1+(x1.2.1.length:Int)))+(8:Int)))%(64:Int)) != (0:Int)) (
 .chk (decide (x1.2.1.length+[((0:Int),())].length≤4294967296)) <|
 .leaf (.inl (x1.1,(x1.2.1++[((0:Int),())]),()))) (
 .leaf (.inr x1))
def Atl (a0:YI):Tree (YBs):=
 .br (decide (a0.1<(0:Int))) (
 .leaf (([]:List YB),())) (
 .br (decide (a0.1>(1048576:Int))) (
 .leaf (([]:List YB),())) (
 .ob (Ay Aki (a0.1,[((128:Int),())],())) fun o2=>
 .ob (Fx (o2.2.1,()) ((0:Int),()) ((4:Int),())) fun r3=>
 .ob (Fx r3 ((i64.wrap ((8:Int)*o2.1)),()) ((4:Int),())) fun r4=>
 .leaf r4))
def At6 (a0:YI):Option (YBs):=(Atl a0).val
def Avc:Tree (((List YI)×Unit)):=
 .leaf ([((1779033703:Int),()),((3144134277:Int),()),((1013904242:Int),()),((2773480762:Int),()),((1359893119:Int),()),((2600822924:Int),()),((528734635:Int),()),((1541459225:Int),())],())
def Avq:Option (((List YI)×Unit)):=(Avc).val
def J6 (x1:(List YI)×Int×Unit):Option (((List YI)×Int×Unit)⊕((Bool×Unit)⊕((List YI)×Unit))):=
 Tree.val (α:=((List YI)×Int×Unit)⊕((Bool×Unit)⊕((List YI)×Unit))) <|
 .br (decide (x1.2.1<(x1.1.length:Int))) (
 .ob (idx x1.1 x1.2.1) fun e2=>
 .ob (Bb e2 ((0:Int),()) ((4294967295:Int),())) fun r3=>
 .br (!r3.1) (
 .leaf (.inr (.inl (false,())))) (
 .leaf (.inl (x1.1,(i64.wrap (x1.2.1+(1:Int))),())))) (
 .leaf (.inr (.inr (x1.1,()))))
def Acu (a0:(List YI)×Unit):Tree ((Bool×Unit)):=
 .ob (Ay J6 (a0.1,(0:Int),())) fun o4=>
 .sm o4 (fun o5=>
 .leaf o5) (fun o6=>
 .leaf (((o6.1.length:Int)==(8:Int)),()))
def Adh (a0:(List YI)×Unit):Option ((Bool×Unit)):=(Acu a0).val
def A2o:Tree (((List YI)×Unit)):=
 .leaf ([((1116352408:Int),()),((1899447441:Int),()),((3049323471:Int),()),((3921009573:Int),()),((961987163:Int),()),((1508970993:Int),()),((2453635748:Int),()),((2870763221:Int),()),((3624381080:Int),()),((310598401:Int),()),((607225278:Int),()),((1426881987:Int),()),((1925078388:Int),()),((2162078206:Int),()),((2614888103:Int),()),((3248222580:Int),()),((3835390401:Int),()),((4022224774:Int),()),((264347078:Int),()),((604807628:Int),()),((770255983:Int),()),((1249150122:Int),()),((1555081692:Int),()),((1996064986:Int),()),((2554220882:Int),()),((2821834349:Int),()),((2952996808:Int),()),((3210313671:Int),()),((3336571891:Int),()),((3584528711:Int),()),((113926993:Int),()),((338241895:Int),()),((666307205:Int),()),((773529912:Int),()),((1294757372:Int),()),((1396182291:Int),()),((1695183700:Int),()),((1986661051:Int),()),((2177026350:Int),()),((2456956037:Int),()),((2730485921:Int),()),((2820302411:Int),()),((3259730800:Int),()),((3345764771:Int),()),((3516065817:Int),()),((3600352804:Int),()),((4094571909:Int),()),((275423344:Int),()),((430227734:Int),()),((506948616:Int),()),((659060556:Int),()),((883997877:Int),()),((958139571:Int),()),((1322822218:Int),()),((1537002063:Int),()),((1747873779:Int),()),((1955562222:Int),()),((2024104815:Int),()),((2227730452:Int),()),((2361852424:Int),()),((2428436474:Int),()),((2756734187:Int),()),((3204031479:Int),()),((3329325298:Int),())],())
def A2u:Option (((List YI)×Unit)):=(A2o).val
def Lz (x1:(List YB)×Int×Int×Int×Int×Unit):Option (((List YB)×Int×Int×Int×Int×Unit)⊕((Int×Int×Int×Unit))):=
 letI u1:=x1.2.2;Tree.val (α:=((List YB)×Int×Int×Int×Int×Unit)⊕((Int×Int×Int×Unit))) <|
 .br (decide (u1.2.2.1<u1.1)) (
 .ob (idx x1.1 (i64.wrap (x1.2.1+u1.2.2.1))) fun e2=>
 .leaf (.inl (x1.1,x1.2.1,u1.1,(i64.wrap ((i64.wrap (u1.2.1*(256:Int)))+(i64.wrap (e2.1)))),(i64.wrap (u1.2.2.1+(1:Int))),()))) (
 .leaf (.inr (x1.2.1,u1.1,u1.2.1,())))
def Apf (a0:YBs) (a1:YI) (a2:YI):Tree (YI×YI×(Bool×Unit)):=
 .br (decide (a2.1<(1:Int))) (
 .leaf (((0:Int),()),((0:Int),()),(false,()))) (
 .br (decide (a2.1>(6:Int))) (
 .leaf (((0:Int),()),((0:Int),()),(false,()))) (
 .br (decide (a1.1<(0:Int))) (
 .leaf (((0:Int),()),((0:Int),()),(false,()))) (
 .br (decide (a1.1>(i64.wrap ((a0.1.length:Int)-a2.1)))) (
 .leaf (((0:Int),()),((0:Int),()),(false,()))) (
 .ob (Ay Lz (a0.1,a1.1,a2.1,(0:Int),(0:Int),())) fun o3=>
 .leaf ((o3.2.2.1,()),((i64.wrap (o3.1+o3.2.1)),()),(true,()))))))
def Ap1 (a0:YBs) (a1:YI) (a2:YI):Option (YI×YI×(Bool×Unit)):=(Apf a0 a1 a2).val
def Atn (a0:YI) (a1:YI):Tree (YI):=
 .br (decide (a1.1<(1:Int))) (
 .leaf ((i64.wrap ((BitVec.ofInt (i64.bits) (a0.1) &&& BitVec.ofInt (i64.bits) ((4294967295:Int))).toNat:Nat)),())) (
 .br (decide (a1.1>(31:Int))) (
 .leaf ((i64.wrap ((BitVec.ofInt (i64.bits) (a0.1) &&& BitVec.ofInt (i64.bits) ((4294967295:Int))).toNat:Nat)),())) (
 .chk (decide ((0:Int)≤a1.1)) <|
 .chk (decide ((0:Int)≤(i64.wrap ((32:Int)-a1.1)))) <|
 .leaf ((i64.wrap ((BitVec.ofInt (i64.bits) ((i64.wrap ((BitVec.ofInt (i64.bits) ((Int.fdiv (i64.wrap ((BitVec.ofInt (i64.bits) (a0.1) &&& BitVec.ofInt (i64.bits) ((4294967295:Int))).toNat:Nat)) (2^(min (a1.1).toNat i64.bits)))) ||| BitVec.ofInt (i64.bits) ((i64.wrap ((i64.wrap ((BitVec.ofInt (i64.bits) (a0.1) &&& BitVec.ofInt (i64.bits) ((4294967295:Int))).toNat:Nat))*2^(min ((i64.wrap ((32:Int)-a1.1))).toNat i64.bits))))).toNat:Nat))) &&& BitVec.ofInt (i64.bits) ((4294967295:Int))).toNat:Nat)),())))
def Hz (a0:YI) (a1:YI):Option (YI):=(Atn a0 a1).val
def Hd (x1:(List YB)×(List YI)×Int×Unit):Option (((List YB)×(List YI)×Int×Unit)⊕(((List YI)×Unit))):=
 Tree.val (α:=((List YB)×(List YI)×Int×Unit)⊕(((List YI)×Unit))) <|
 .br (decide (x1.2.2.1<(16:Int))) (
 .ob (Ap1 (x1.1,()) ((i64.wrap ((4:Int)*x1.2.2.1)),()) ((4:Int),())) fun r2=>
 .chk (decide (x1.2.1.length+[r2.1].length≤4294967296)) <|
 .leaf (.inl (x1.1,(x1.2.1++[r2.1]),(i64.wrap (x1.2.2.1+(1:Int))),()))) (
 .leaf (.inr (x1.2.1,())))
def Ge (x4:(List YI)×Int×Unit):Option (((List YI)×Int×Unit)⊕(((List YI)×Unit))):=
 Tree.val (α:=((List YI)×Int×Unit)⊕(((List YI)×Unit))) <|
 .br (decide (x4.2.1<(64:Int))) (
 .ob (idx x4.1 (i64.wrap (x4.2.1-(15:Int)))) fun e5=>
 .ob (idx x4.1 (i64.wrap (x4.2.1-(2:Int)))) fun e6=>
 .ob (Hz e5 ((7:Int),())) fun r7=>
 .ob (Hz e5 ((18:Int),())) fun r8=>
 .ob (Hz e6 ((17:Int),())) fun r9=>
 .ob (Hz e6 ((19:Int),())) fun r10=>
 .ob (idx x4.1 (i64.wrap (x4.2.1-(7:Int)))) fun e11=>
 .ob (idx x4.1 (i64.wrap (x4.2.1-(16:Int)))) fun e12=>
 .chk (decide (x4.1.length+[((i64.wrap ((BitVec.ofInt (i64.bits) ((i64.wrap ((i64.wrap ((i64.wrap (e11.1+e12.1))+(i64.wrap ((BitVec.ofInt (i64.bits) ((i64.wrap ((BitVec.ofInt (i64.bits) (r7.1) ^^^ BitVec.ofInt (i64.bits) (r8.1)).toNat:Nat))) ^^^ BitVec.ofInt (i64.bits) ((Int.fdiv e5.1 (2^(min ((3:Int)).toNat i64.bits))))).toNat:Nat))))+(i64.wrap ((BitVec.ofInt (i64.bits) ((i64.wrap ((BitVec.ofInt (i64.bits) (r9.1) ^^^ BitVec.ofInt (i64.bits) (r10.1)).toNat:Nat))) ^^^ BitVec.ofInt (i64.bits) ((Int.fdiv e6.1 (2^(min ((10:Int)).toNat i64.bits))))).toNat:Nat))))) &&& BitVec.ofInt (i64.bits) ((4294967295:Int))).toNat:Nat)),())].length≤4294967296)) <|
 .leaf (.inl ((x4.1++[((i64.wrap ((BitVec.ofInt (i64.bits) ((i64.wrap ((i64.wrap ((i64.wrap (e11.1+e12.1))+(i64.wrap ((BitVec.ofInt (i64.bits) ((i64.wrap ((BitVec.ofInt (i64.bits) (r7.1) ^^^ BitVec.ofInt (i64.bits) (r8.1)).toNat:Nat))) ^^^ BitVec.ofInt (i64.bits) ((Int.fdiv e5.1 (2^(min ((3:Int)).toNat i64.bits))))).toNat:Nat))))+(i64.wrap ((BitVec.ofInt (i64.bits) ((i64.wrap ((BitVec.ofInt (i64.bits) (r9.1) ^^^ BitVec.ofInt (i64.bits) (r10.1)).toNat:Nat))) ^^^ BitVec.ofInt (i64.bits) ((Int.fdiv e6.1 (2^(min ((10:Int)).toNat i64.bits))))).toNat:Nat))))) &&& BitVec.ofInt (i64.bits) ((4294967295:Int))).toNat:Nat)),())]),(i64.wrap (x4.2.1+(1:Int))),()))) (
 .leaf (.inr (x4.1,())))
def Ow (a0:YBs):Tree (((List YI)×Unit)):=
 .br ((a0.1.length:Int) != (64:Int)) (
 .leaf (([]:List YI),())) (
 .ob (Ay Hd (a0.1,([]:List YI),(0:Int),())) fun o3=>
 .ob (Ay Ge (o3.1,(16:Int),())) fun o13=>
 .leaf o13)
def Zy (a0:YBs):Option (((List YI)×Unit)):=(Ow a0).val
def Fv (x12:(List YI)×(List YI)×(List YI)×(List YI)×Int×Int×Int×Int×Int×Int×Int×Int×Int×Unit):Option (((List YI)×(List YI)×(List YI)×(List YI)×Int×Int×Int×Int×Int×Int×Int×Int×Int×Unit)⊕(((List YI)×(List YI)×Int×Int×Int×Int×Int×Int×Int×Int×Unit))):=
 letI u1:=x12.2.2;letI u2:=u1.2.2;letI u3:=u2.2.2;letI u4:=u3.2.2;letI u5:=u4.2.2;Tree.val (α:=((List YI)×(List YI)×(List YI)×(List YI)×Int×Int×Int×Int×Int×Int×Int×Int×Int×Unit)⊕(((List YI)×(List YI)×Int×Int×Int×Int×Int×Int×Int×Int×Unit))) <|
 .br (decide (u5.2.2.1<(64:Int))) (
 .ob (Hz (u4.1,()) ((6:Int),())) fun r13=>
 .ob (Hz (u4.1,()) ((11:Int),())) fun r14=>
 .ob (Hz (u4.1,()) ((25:Int),())) fun r15=>
 .ob (idx u1.1 u5.2.2.1) fun e16=>
 .ob (idx u1.2.1 u5.2.2.1) fun e17=>
 .ob (Hz (u2.1,()) ((2:Int),())) fun r18=>
 .ob (Hz (u2.1,()) ((13:Int),())) fun r19=>
 .ob (Hz (u2.1,()) ((22:Int),())) fun r20=>
 .leaf (.inl (x12.1,x12.2.1,u1.1,u1.2.1,(i64.wrap ((BitVec.ofInt (i64.bits) ((i64.wrap ((i64.wrap ((BitVec.ofInt (i64.bits) ((i64.wrap ((i64.wrap ((i64.wrap ((i64.wrap (u5.2.1+(i64.wrap ((BitVec.ofInt (i64.bits) ((i64.wrap ((BitVec.ofInt (i64.bits) (r13.1) ^^^ BitVec.ofInt (i64.bits) (r14.1)).toNat:Nat))) ^^^ BitVec.ofInt (i64.bits) (r15.1)).toNat:Nat))))+(i64.wrap ((BitVec.ofInt (i64.bits) ((i64.wrap ((BitVec.ofInt (i64.bits) (u4.1) &&& BitVec.ofInt (i64.bits) (u4.2.1)).toNat:Nat))) ^^^ BitVec.ofInt (i64.bits) ((i64.wrap ((BitVec.ofInt (i64.bits) ((i64.wrap ((BitVec.ofInt (i64.bits) (u4.1) ^^^ BitVec.ofInt (i64.bits) ((4294967295:Int))).toNat:Nat))) &&& BitVec.ofInt (i64.bits) (u5.1)).toNat:Nat)))).toNat:Nat))))+e16.1))+e17.1))) &&& BitVec.ofInt (i64.bits) ((4294967295:Int))).toNat:Nat))+(i64.wrap ((BitVec.ofInt (i64.bits) ((i64.wrap ((i64.wrap ((BitVec.ofInt (i64.bits) ((i64.wrap ((BitVec.ofInt (i64.bits) (r18.1) ^^^ BitVec.ofInt (i64.bits) (r19.1)).toNat:Nat))) ^^^ BitVec.ofInt (i64.bits) (r20.1)).toNat:Nat))+(i64.wrap ((BitVec.ofInt (i64.bits) ((i64.wrap ((BitVec.ofInt (i64.bits) ((i64.wrap ((BitVec.ofInt (i64.bits) (u2.1) &&& BitVec.ofInt (i64.bits) (u2.2.1)).toNat:Nat))) ^^^ BitVec.ofInt (i64.bits) ((i64.wrap ((BitVec.ofInt (i64.bits) (u2.1) &&& BitVec.ofInt (i64.bits) (u3.1)).toNat:Nat)))).toNat:Nat))) ^^^ BitVec.ofInt (i64.bits) ((i64.wrap ((BitVec.ofInt (i64.bits) (u2.2.1) &&& BitVec.ofInt (i64.bits) (u3.1)).toNat:Nat)))).toNat:Nat))))) &&& BitVec.ofInt (i64.bits) ((4294967295:Int))).toNat:Nat))))) &&& BitVec.ofInt (i64.bits) ((4294967295:Int))).toNat:Nat)),u2.1,u2.2.1,u3.1,(i64.wrap ((BitVec.ofInt (i64.bits) ((i64.wrap (u3.2.1+(i64.wrap ((BitVec.ofInt (i64.bits) ((i64.wrap ((i64.wrap ((i64.wrap ((i64.wrap (u5.2.1+(i64.wrap ((BitVec.ofInt (i64.bits) ((i64.wrap ((BitVec.ofInt (i64.bits) (r13.1) ^^^ BitVec.ofInt (i64.bits) (r14.1)).toNat:Nat))) ^^^ BitVec.ofInt (i64.bits) (r15.1)).toNat:Nat))))+(i64.wrap ((BitVec.ofInt (i64.bits) ((i64.wrap ((BitVec.ofInt (i64.bits) (u4.1) &&& BitVec.ofInt (i64.bits) (u4.2.1)).toNat:Nat))) ^^^ BitVec.ofInt (i64.bits) ((i64.wrap ((BitVec.ofInt (i64.bits) ((i64.wrap ((BitVec.ofInt (i64.bits) (u4.1) ^^^ BitVec.ofInt (i64.bits) ((4294967295:Int))).toNat:Nat))) &&& BitVec.ofInt (i64.bits) (u5.1)).toNat:Nat)))).toNat:Nat))))+e16.1))+e17.1))) &&& BitVec.ofInt (i64.bits) ((4294967295:Int))).toNat:Nat))))) &&& BitVec.ofInt (i64.bits) ((4294967295:Int))).toNat:Nat)),u4.1,u4.2.1,u5.1,(i64.wrap (u5.2.2.1+(1:Int))),()))) (
 .leaf (.inr (x12.1,x12.2.1,u2.1,u2.2.1,u3.1,u3.2.1,u4.1,u4.2.1,u5.1,u5.2.1,())))
def Fa (x22:(List YI)×(List YI)×(List YI)×Int×Unit):Option (((List YI)×(List YI)×(List YI)×Int×Unit)⊕(((List YI)×Unit))):=
 letI u1:=x22.2.2.2;Tree.val (α:=((List YI)×(List YI)×(List YI)×Int×Unit)⊕(((List YI)×Unit))) <|
 .br (decide (u1.1<(8:Int))) (
 .ob (idx x22.1 u1.1) fun e23=>
 .ob (idx x22.2.2.1 u1.1) fun e24=>
 .ob (idx x22.2.1 u1.1) fun e25=>
 let q26:=(x22.2.1.set (u1.1).toNat ((i64.wrap ((BitVec.ofInt (i64.bits) ((i64.wrap (e23.1+e24.1))) &&& BitVec.ofInt (i64.bits) ((4294967295:Int))).toNat:Nat)),()))
 .leaf (.inl (x22.1,q26,x22.2.2.1,(i64.wrap (u1.1+(1:Int))),()))) (
 .leaf (.inr (x22.2.1,())))
def Ox (a0:(List YI)×Unit) (a1:YBs):Tree (((List YI)×Unit)):=
 .chk (decide (([]:List YI).length+a0.1.length≤4294967296)) <|
 .ob (Adh a0) fun r1=>
 .br (!r1.1) (
 .leaf ((([]:List YI)++a0.1),())) (
 .br ((a1.1.length:Int) != (64:Int)) (
 .leaf ((([]:List YI)++a0.1),())) (
 .ob A2u fun r2=>
 .ob (Zy a1) fun r3=>
 .ob (idx a0.1 (0:Int)) fun e4=>
 .ob (idx a0.1 (1:Int)) fun e5=>
 .ob (idx a0.1 (2:Int)) fun e6=>
 .ob (idx a0.1 (3:Int)) fun e7=>
 .ob (idx a0.1 (4:Int)) fun e8=>
 .ob (idx a0.1 (5:Int)) fun e9=>
 .ob (idx a0.1 (6:Int)) fun e10=>
 .ob (idx a0.1 (7:Int)) fun e11=>
 .ob (Ay Fv (a0.1,(([]:List YI)++a0.1),r2.1,r3.1,e4.1,e5.1,e6.1,e7.1,e8.1,e9.1,e10.1,e11.1,(0:Int),())) fun o21=>letI u1:=o21.2.2.2;letI u2:=u1.2.2.2;
 .ob (Ay Fa (o21.1,o21.2.1,[(o21.2.2.1,()),(u1.1,()),(u1.2.1,()),(u1.2.2.1,()),(u2.1,()),(u2.2.1,()),(u2.2.2.1,()),(u2.2.2.2.1,())],(0:Int),())) fun o27=>
 .leaf o27))
def Pi (a0:(List YI)×Unit) (a1:YBs):Option (((List YI)×Unit)):=(Ox a0 a1).val
def Kg (x1:Jr):Option (Jr⊕(YBs)):=
 Tree.val (α:=Jr⊕(YBs)) <|
 .br (decide (x1.2.2.1<(8:Int))) (
 .ob (idx x1.1 x1.2.2.1) fun e2=>
 .ob (Fx (x1.2.1,()) e2 ((4:Int),())) fun r3=>
 .leaf (.inl (x1.1,r3.1,(i64.wrap (x1.2.2.1+(1:Int))),()))) (
 .leaf (.inr (x1.2.1,())))
def Akl (a0:(List YI)×Unit):Tree (YBs):=
 .ob (Ay Kg (a0.1,([]:List YB),(0:Int),())) fun o4=>
 .leaf o4
def Ali (a0:(List YI)×Unit):Option (YBs):=(Akl a0).val
def Ob (x3:(List YB)×(List YI)×Int×Unit):Option (((List YB)×(List YI)×Int×Unit)⊕(((List YI)×Unit))):=
 letI u1:=x3.2.2;Tree.val (α:=((List YB)×(List YI)×Int×Unit)⊕(((List YI)×Unit))) <|
 .br (decide (u1.1<(x3.1.length:Int))) (
 .chk (decide ((0:Int)≤u1.1)) <|
 .chk (decide (u1.1≤(i64.wrap (u1.1+(64:Int))))) <|
 .chk (decide ((i64.wrap (u1.1+(64:Int)))≤(x3.1.length:Int))) <|
 .ob (Pi (x3.2.1,()) (((x3.1.take ((i64.wrap (u1.1+(64:Int)))).toNat).drop (u1.1).toNat),())) fun r4=>
 .leaf (.inl (x3.1,r4.1,(i64.wrap (u1.1+(64:Int))),()))) (
 .leaf (.inr (x3.2.1,())))
def Atp (a0:YBs):Tree (YBs):=
 .br (decide ((a0.1.length:Int)>(1048576:Int))) (
 .leaf (([]:List YB),())) (
 .chk (decide (([]:List YB).length+a0.1.length≤4294967296)) <|
 .ob (At6 ((a0.1.length:Int),())) fun r1=>
 .chk (decide ((([]:List YB)++a0.1).length+r1.1.length≤4294967296)) <|
 .ob Avq fun r2=>
 .ob (Ay Ob (((([]:List YB)++a0.1)++r1.1),r2.1,(0:Int),())) fun o5=>
 .ob (Ali o5) fun r6=>
 .leaf r6)
def Ae6 (a0:YBs):Option (YBs):=(Atp a0).val
def L0 (x2:YBs):Option (YBs⊕(YBs)):=
 Tree.val (α:=YBs⊕(YBs)) <|
 .br (decide ((x2.1.length:Int)<(64:Int))) (
 .chk (decide (x2.1.length+[((0:Int),())].length≤4294967296)) <|
 .leaf (.inl ((x2.1++[((0:Int),())]),()))) (
 .leaf (.inr x2))
def X4 (a0:YBs):Tree (YBs):=
 .br (decide ((a0.1.length:Int)>(1048576:Int))) (
 .leaf (([]:List YB),())) (
 .chk (decide (([]:List YB).length+a0.1.length≤4294967296)) <|
 .br (decide ((a0.1.length:Int)>(64:Int))) (
 .ob (Ae6 a0) fun r1=>
 .ob (Ay L0 r1) fun o3=>
 .leaf o3) (
 .ob (Ay L0 ((([]:List YB)++a0.1),())) fun o4=>
 .leaf o4))
def Zz (a0:YBs):Option (YBs):=(X4 a0).val
def L3 (x2:(List YB)×(List YB)×(List YB)×(List YB)×Int×Unit):Option (((List YB)×(List YB)×(List YB)×(List YB)×Int×Unit)⊕(((List YB)×(List YB)×(List YB)×Unit))):=
 letI u1:=x2.2.2.2;Tree.val (α:=((List YB)×(List YB)×(List YB)×(List YB)×Int×Unit)⊕(((List YB)×(List YB)×(List YB)×Unit))) <|
 .br (decide (u1.2.1<(64:Int))) (
 .ob (idx x2.2.1 u1.2.1) fun e3=>
 .chk (decide (x2.2.2.1.length+[((u8.wrap ((BitVec.ofInt (u8.bits) (e3.1) ^^^ BitVec.ofInt (u8.bits) ((54:Int))).toNat:Nat)),())].length≤4294967296)) <|
 .ob (idx x2.2.1 u1.2.1) fun e4=>
 .chk (decide (x2.2.2.2.1.length+[((u8.wrap ((BitVec.ofInt (u8.bits) (e4.1) ^^^ BitVec.ofInt (u8.bits) ((92:Int))).toNat:Nat)),())].length≤4294967296)) <|
 .leaf (.inl (x2.1,x2.2.1,(x2.2.2.1++[((u8.wrap ((BitVec.ofInt (u8.bits) (e3.1) ^^^ BitVec.ofInt (u8.bits) ((54:Int))).toNat:Nat)),())]),(u1.1++[((u8.wrap ((BitVec.ofInt (u8.bits) (e4.1) ^^^ BitVec.ofInt (u8.bits) ((92:Int))).toNat:Nat)),())]),(i64.wrap (u1.2.1+(1:Int))),()))) (
 .leaf (.inr (x2.1,x2.2.2.1,u1.1,())))
def Api (a0:YBs) (a1:YBs):Tree (YBs):=
 .br (decide ((a0.1.length:Int)>(1048576:Int))) (
 .leaf (([]:List YB),())) (
 .br (decide ((a1.1.length:Int)>(1048512:Int))) (
 .leaf (([]:List YB),())) (
 .ob (Zz a0) fun r1=>
 .ob (Ay L3 (a1.1,r1.1,([]:List YB),([]:List YB),(0:Int),())) fun o5=>
 .chk (decide (o5.2.1.length+o5.1.length≤4294967296)) <|
 .ob (Ae6 ((o5.2.1++o5.1),())) fun r6=>
 .chk (decide (o5.2.2.1.length+r6.1.length≤4294967296)) <|
 .ob (Ae6 ((o5.2.2.1++r6.1),())) fun r7=>
 .leaf r7))
def Qx (a0:YBs) (a1:YBs):Option (YBs):=(Api a0 a1).val
def Rz (a0:YBs) (a1:YBs):Tree (YBs):=
 .ob (Qx a0 a1) fun r1=>
 .leaf r1
def R9 (a0:YBs) (a1:YBs):Option (YBs):=(Rz a0 a1).val
def Ix (x2:(List YB)×(List YB)×Int×(List YB)×(List YB)×Int×Unit):Option (((List YB)×(List YB)×Int×(List YB)×(List YB)×Int×Unit)⊕((Int×(List YB)×Unit))):=
 letI u1:=x2.2.2;letI u2:=u1.2.2;Tree.val (α:=((List YB)×(List YB)×Int×(List YB)×(List YB)×Int×Unit)⊕((Int×(List YB)×Unit))) <|
 .br (decide ((x2.2.2.2.1.length:Int)<u1.1)) (
 .chk (decide (([]:List YB).length+x2.2.2.2.2.1.length≤4294967296)) <|
 .chk (decide ((([]:List YB)++u2.1).length+x2.2.1.length≤4294967296)) <|
 .chk (decide (((([]:List YB)++u2.1)++x2.2.1).length+[((u8.wrap (u2.2.1)),())].length≤4294967296)) <|
 .ob (Qx (x2.1,()) ((((([]:List YB)++u2.1)++x2.2.1)++[((u8.wrap (u2.2.1)),())]),())) fun r3=>
 .chk (decide (x2.2.2.2.1.length+r3.1.length≤4294967296)) <|
 .leaf (.inl (x2.1,x2.2.1,u1.1,(u1.2.1++r3.1),r3.1,(i64.wrap (u2.2.1+(1:Int))),()))) (
 .leaf (.inr (u1.1,u1.2.1,())))
def Aga (a0:YBs) (a1:YBs) (a2:YI):Tree (YBs×(Bool×Unit)):=
 .ob (Bb a2 ((0:Int),()) ((8160:Int),())) fun r1=>
 .br (!r1.1) (
 .leaf ((([]:List YB),()),(false,()))) (
 .br (decide ((a1.1.length:Int)>(100:Int))) (
 .leaf ((([]:List YB),()),(false,()))) (
 .br (decide ((a0.1.length:Int)>(1048576:Int))) (
 .leaf ((([]:List YB),()),(false,()))) (
 .ob (Ay Ix (a0.1,a1.1,a2.1,([]:List YB),([]:List YB),(1:Int),())) fun o4=>
 .chk (decide ((0:Int)≤o4.1)) <|
 .chk (decide (o4.1≤(o4.2.1.length:Int))) <|
 .chk (decide (([]:List YB).length+((o4.2.1.take (o4.1).toNat).drop ((0:Int)).toNat).length≤4294967296)) <|
 .leaf (((([]:List YB)++((o4.2.1.take (o4.1).toNat).drop ((0:Int)).toNat)),()),(true,())))))
def Aho (a0:YBs) (a1:YBs) (a2:YI):Option (YBs×(Bool×Unit)):=(Aga a0 a1 a2).val
def Agb (a0:YBs) (a1:ByteArray×Unit):Tree (YBs):=
 .chk (decide (a1.1.size≤4294967296)) <|
 .ob (Aho a0 ((Pj a1.1),()) ((32:Int),())) fun r1=>
 .leaf r1.1
def Bt (a0:YBs) (a1:ByteArray×Unit):Option (YBs):=(Agb a0 a1).val
def Tq (a0:YBs):Tree (YBs):=
 .ob (Ld a0) fun r1=>
 .br (!r1.1) (
 .leaf (([]:List YB),())) (
 .ob (R9 ([((114:Int),()),((111:Int),()),((97:Int),()),((109:Int),())],()) a0) fun r2=>
 .ob (Bt r2 ((Bq [102,105,110,105,115,104]),())) fun r3=>
 .leaf r3)
def Nq (a0:YBs):Option (YBs):=(Tq a0).val
def Ts (a0:YI) (a1:YBs) (a2:YBs) (a3:YI) (a4:YBs):Tree (YBs):=
 .ob (Bb a0 ((1:Int),()) ((9:Int),())) fun r1=>
 .br (!r1.1) (
 .leaf (([]:List YB),())) (
 .br ((a1.1.length:Int) != (12:Int)) (
 .leaf (([]:List YB),())) (
 .br ((a2.1.length:Int) != (12:Int)) (
 .leaf (([]:List YB),())) (
 .ob (Bb a3 ((0:Int),()) ((1000000:Int),())) fun r2=>
 .br (!r2.1) (
 .leaf (([]:List YB),())) (
 .br ((a4.1.length:Int) != (16:Int)) (
 .leaf (([]:List YB),())) (
 .chk (decide ([((102:Int),()),((u8.wrap (a0.1)),())].length+a1.1.length≤4294967296)) <|
 .chk (decide (([((102:Int),()),((u8.wrap (a0.1)),())]++a1.1).length+a2.1.length≤4294967296)) <|
 .ob (Fx ((([((102:Int),()),((u8.wrap (a0.1)),())]++a1.1)++a2.1),()) a3 ((4:Int),())) fun r3=>
 .chk (decide (r3.1.length+a4.1.length≤4294967296)) <|
 .leaf ((r3.1++a4.1),()))))))
def Kb (a0:YI) (a1:YBs) (a2:YBs) (a3:YI) (a4:YBs):Option (YBs):=(Ts a0 a1 a2 a3 a4).val
def Atq (a0:YBs) (a1:YBs):Tree (YBs):=
 .ob (Qx a0 a1) fun r1=>
 .br (decide ((r1.1.length:Int)<(16:Int))) (
 .leaf (([]:List YB),())) (
 .chk (decide ((16:Int)≤(r1.1.length:Int))) <|
 .chk (decide (([]:List YB).length+((r1.1.take ((16:Int)).toNat).drop ((0:Int)).toNat).length≤4294967296)) <|
 .leaf ((([]:List YB)++((r1.1.take ((16:Int)).toNat).drop ((0:Int)).toNat)),()))
def Ae7 (a0:YBs) (a1:YBs):Option (YBs):=(Atq a0 a1).val
def Ako (a0:YBs) (a1:YI) (a2:YBs) (a3:YBs) (a4:YI) (a5:YBs):Tree (YBs):=
 .ob (Nq a0) fun r1=>
 .ob (Kb a1 a2 a3 a4 a5) fun r2=>
 .br ((r1.1.length:Int)==(0:Int)) (
 .leaf (([]:List YB),())) (
 .br ((r2.1.length:Int)==(0:Int)) (
 .leaf (([]:List YB),())) (
 .ob (Ae7 r1 r2) fun r3=>
 .leaf r3))
def Alj (a0:YBs) (a1:YI) (a2:YBs) (a3:YBs) (a4:YI) (a5:YBs):Option (YBs):=(Ako a0 a1 a2 a3 a4 a5).val
def X6 (a0:YBs) (a1:YI) (a2:Aa):Tree (Aa×(Bool×Unit)):=
 .ob (Iq a2) fun r1=>
 .br (!r1.1) (
 .leaf (((0:Int),(0:Int),([]:List YB),([]:List YB),(0:Int),([]:List YB),([]:List YB),(0:Int),(0:Int),([]:List YB),([]:List YB),()),(false,()))) (
 .br (a2.1 != (2:Int)) (
 .leaf (((0:Int),(0:Int),([]:List YB),([]:List YB),(0:Int),([]:List YB),([]:List YB),(0:Int),(0:Int),([]:List YB),([]:List YB),()),(false,()))) (
 .ob (Alj a0 a1 (a2.2.2.1,()) (a2.2.2.2.1,()) (a2.2.2.2.2.1,()) (a2.2.2.2.2.2.1,())) fun r2=>
 .br ((r2.1.length:Int)==(0:Int)) (
 .leaf (((0:Int),(0:Int),([]:List YB),([]:List YB),(0:Int),([]:List YB),([]:List YB),(0:Int),(0:Int),([]:List YB),([]:List YB),()),(false,()))) (
 .ob (Pf a2) fun r3=>letI u1:=r3.2.2.2;letI u2:=u1.2.2.2.2;
 .leaf (((3:Int),a1.1,r3.2.2.1,u1.1,u1.2.1,u1.2.2.1,r2.1,u2.1,u2.2.1,u2.2.2.1,u2.2.2.2.1,()),(true,())))))
def Z0 (a0:YBs) (a1:YI) (a2:Aa):Option (Aa×(Bool×Unit)):=(X6 a0 a1 a2).val
def Acw (a0:YBs) (a1:YBs) (a2:YBs):Tree (YBs):=
 .ob (Ld a0) fun r1=>
 .br (!r1.1) (
 .leaf (([]:List YB),())) (
 .br ((a1.1.length:Int) != (12:Int)) (
 .leaf (([]:List YB),())) (
 .br ((a2.1.length:Int) != (12:Int)) (
 .leaf (([]:List YB),())) (
 .chk (decide (([]:List YB).length+a1.1.length≤4294967296)) <|
 .chk (decide ((([]:List YB)++a1.1).length+a2.1.length≤4294967296)) <|
 .ob (R9 (((([]:List YB)++a1.1)++a2.1),()) a0) fun r2=>
 .leaf r2)))
def Adi (a0:YBs) (a1:YBs) (a2:YBs):Option (YBs):=(Acw a0 a1 a2).val
def X7 (a0:YBs):Tree (YBs):=
 .br ((a0.1.length:Int) != (32:Int)) (
 .leaf (([]:List YB),())) (
 .ob (Bt a0 ((Bq [101,112,111,99,104]),())) fun r1=>
 .leaf r1)
def Z1 (a0:YBs):Option (YBs):=(X7 a0).val
def Kh (x2:Int×(List YB)×Int×Unit):Option ((Int×(List YB)×Int×Unit)⊕(YBs)):=
 Tree.val (α:=(Int×(List YB)×Int×Unit)⊕(YBs)) <|
 .br (decide (x2.2.2.1<x2.1)) (
 .ob (Bt (x2.2.1,()) ((Bq [114,101,107,101,121]),())) fun r3=>
 .leaf (.inl (x2.1,r3.1,(i64.wrap (x2.2.2.1+(1:Int))),()))) (
 .leaf (.inr (x2.2.1,())))
def Akr (a0:YBs) (a1:YI):Tree (YBs):=
 .ob (Bb a1 ((0:Int),()) ((64:Int),())) fun r1=>
 .br (!r1.1) (
 .leaf (([]:List YB),())) (
 .chk (decide (([]:List YB).length+a0.1.length≤4294967296)) <|
 .ob (Ay Kh (a1.1,(([]:List YB)++a0.1),(0:Int),())) fun o4=>
 .leaf o4)
def Alk (a0:YBs) (a1:YI):Option (YBs):=(Akr a0 a1).val
def X8 (a0:YBs) (a1:YBs) (a2:YBs) (a3:YI):Tree (YBs):=
 .ob (Adi a0 a1 a2) fun r1=>
 .ob (Z1 r1) fun r2=>
 .br ((r2.1.length:Int)==(0:Int)) (
 .leaf r2) (
 .ob (Alk r2 a3) fun r3=>
 .leaf r3)
def Z2 (a0:YBs) (a1:YBs) (a2:YBs) (a3:YI):Option (YBs):=(X8 a0 a1 a2 a3).val
def Iy (x1:Int×Int×(List YI)×Int×(List YI)×Unit):Option ((Int×Int×(List YI)×Int×(List YI)×Unit)⊕((Int×(List YI)×Int×(List YI)×Unit))):=
 letI u1:=x1.2.2;Tree.val (α:=(Int×Int×(List YI)×Int×(List YI)×Unit)⊕((Int×(List YI)×Int×(List YI)×Unit))) <|
 .br (decide (x1.1<(32:Int))) (
 .chk (decide (x1.2.2.2.2.1.length+[((0:Int),())].length≤4294967296)) <|
 .leaf (.inl ((i64.wrap (x1.1+(1:Int))),x1.2.1,u1.1,u1.2.1,(u1.2.2.1++[((0:Int),())]),()))) (
 .leaf (.inr (x1.2.1,u1.1,u1.2.1,u1.2.2.1,())))
def Agd:Tree (Bn):=
 .ob (Ay Iy ((0:Int),(0:Int),([]:List YI),(-1:Int),([]:List YI),())) fun o2=>
 .leaf (o2.2.2.1,o2.2.2.2.1,())
def W8:Option (Bn):=(Agd).val
def Sr (a0:YI) (a1:YBs):Tree (YEp):=
 .ob (Bb a0 ((0:Int),()) ((4294967295:Int),())) fun r1=>
 .br (!r1.1) (
 .leaf ((0:Int),([]:List YB),(0:Int),(0:Int),([]:List YI),())) (
 .br ((a1.1.length:Int) != (32:Int)) (
 .leaf ((0:Int),([]:List YB),(0:Int),(0:Int),([]:List YI),())) (
 .chk (decide (([]:List YB).length+a1.1.length≤4294967296)) <|
 .ob W8 fun r2=>
 .leaf (a0.1,(([]:List YB)++a1.1),(0:Int),r2.1,r2.2.1,())))
def Ey (a0:YI) (a1:YBs):Option (YEp):=(Sr a0 a1).val
def R1 (a0:YI) (a1:YBs) (a2:YBs):Tree (Af):=
 .ob (Bb a0 ((0:Int),()) ((1:Int),())) fun r1=>
 .br (!r1.1) (
 .leaf ((0:Int),([]:List YB),(0:Int),([]:List YB),(0:Int),(0:Int),([]:List YI),(0:Int),([]:List YB),(0:Int),(0:Int),([]:List YI),false,(0:Int),([]:List YB),())) (
 .br ((a1.1.length:Int) != (12:Int)) (
 .leaf ((0:Int),([]:List YB),(0:Int),([]:List YB),(0:Int),(0:Int),([]:List YI),(0:Int),([]:List YB),(0:Int),(0:Int),([]:List YI),false,(0:Int),([]:List YB),())) (
 .br ((a2.1.length:Int) != (32:Int)) (
 .leaf ((0:Int),([]:List YB),(0:Int),([]:List YB),(0:Int),(0:Int),([]:List YI),(0:Int),([]:List YB),(0:Int),(0:Int),([]:List YI),false,(0:Int),([]:List YB),())) (
 .chk (decide (([]:List YB).length+a1.1.length≤4294967296)) <|
 .ob (Ey ((0:Int),()) a2) fun r2=>
 .leaf (a0.1,(([]:List YB)++a1.1),r2.1,r2.2.1,r2.2.2.1,r2.2.2.2.1,r2.2.2.2.2.1,(0:Int),([]:List YB),(0:Int),(0:Int),([]:List YI),false,(0:Int),([]:List YB),()))))
def Ir (a0:YI) (a1:YBs) (a2:YBs):Option (Af):=(R1 a0 a1 a2).val
def Apl (a0:YBs) (a1:YBs):Tree (Ae):=
 .chk (decide (([]:List YB).length+a0.1.length≤4294967296)) <|
 .chk (decide (([]:List YB).length+a1.1.length≤4294967296)) <|
 .leaf ((15:Int),(0:Int),(0:Int),([]:List YB),([]:List YB),(0:Int),(0:Int),(([]:List YB)++a1.1),(([]:List YB)++a0.1),(0:Int),(0:Int),(0:Int),())
def Ahp (a0:YBs) (a1:YBs):Option (Ae):=(Apl a0 a1).val
def Agf (a0:YI) (a1:YBs) (a2:YI) (a3:YI):Tree (YBs):=
 .ob (Bb a0 ((0:Int),()) ((1:Int),())) fun r1=>
 .br (!r1.1) (
 .leaf (([]:List YB),())) (
 .br ((a1.1.length:Int) != (12:Int)) (
 .leaf (([]:List YB),())) (
 .ob (Bb a2 ((0:Int),()) ((4294967295:Int),())) fun r2=>
 .br (!r2.1) (
 .leaf (([]:List YB),())) (
 .ob (Bb a3 ((0:Int),()) ((281474976710655:Int),())) fun r3=>
 .br (!r3.1) (
 .leaf (([]:List YB),())) (
 .chk (decide ([((u8.wrap (a0.1)),())].length+a1.1.length≤4294967296)) <|
 .ob (Fx (([((u8.wrap (a0.1)),())]++a1.1),()) a2 ((4:Int),())) fun r4=>
 .ob (Fx r4 a3 ((6:Int),())) fun r5=>
 .leaf r5))))
def L6 (a0:YI) (a1:YBs) (a2:YI) (a3:YI):Option (YBs):=(Agf a0 a1 a2 a3).val
def X9 (a0:YI) (a1:Aa):Tree (YBs):=
 letI u1:=a1.2.2.2.2.2.2.2;.ob (Bb a0 ((0:Int),()) ((1:Int),())) fun r1=>
 .br (!r1.1) (
 .leaf (([]:List YB),())) (
 .ob (Iq a1) fun r2=>
 .br (!r2.1) (
 .leaf (([]:List YB),())) (
 .ob (H5 (a1.1,())) fun r3=>
 .br (!r3.1) (
 .leaf (([]:List YB),())) (
 .ob (L6 a0 (a1.2.2.2.1,()) (u1.1,()) (u1.2.1,())) fun r4=>
 .chk (decide ([((116:Int),())].length+r4.1.length≤4294967296)) <|
 .chk (decide (([((116:Int),())]++r4.1).length+[((u8.wrap (a1.1)),())].length≤4294967296)) <|
 .chk (decide ((([((116:Int),())]++r4.1)++[((u8.wrap (a1.1)),())]).length+a1.2.2.2.2.2.2.2.2.2.1.length≤4294967296)) <|
 .leaf (((([((116:Int),())]++r4.1)++[((u8.wrap (a1.1)),())])++u1.2.2.1),()))))
def Hn (a0:YI) (a1:Aa):Option (YBs):=(X9 a0 a1).val
def Acy (a0:YI):Tree (YI):=
 .br (decide (a0.1<(1024:Int))) (
 .leaf ((0:Int),())) (
 .leaf ((i64.wrap ((i64.wrap (a0.1-(1024:Int)))+(1:Int))),()))
def Aon (a0:YI):Option (YI):=(Acy a0).val
def Agh (a0:Bn) (a1:YI):Tree ((Bool×Unit)):=
 .ob (Abm a0) fun r1=>
 .br (!r1.1) (
 .leaf (false,())) (
 .ob (Bb a1 ((0:Int),()) ((281474976710655:Int),())) fun r2=>
 .br (!r2.1) (
 .leaf (false,())) (
 .br (decide (a1.1>a0.1)) (
 .leaf (true,())) (
 .ob (Aon (a0.1,())) fun r3=>
 .br (decide (a1.1≥r3.1)) (
 .ob (Sv a0 a1) fun r4=>
 .leaf ((!r4.1),())) (
 .leaf (false,())))))
def W9 (a0:Bn) (a1:YI):Option ((Bool×Unit)):=(Agh a0 a1).val
def O0 (x1:(List YB)×(List YB)×Int×Int×Unit):Option (((List YB)×(List YB)×Int×Int×Unit)⊕(YI)):=
 letI u1:=x1.2.2;Tree.val (α:=((List YB)×(List YB)×Int×Int×Unit)⊕(YI)) <|
 .br (decide (u1.2.1<(x1.1.length:Int))) (
 .ob (idx x1.1 u1.2.1) fun e2=>
 .ob (idx x1.2.1 u1.2.1) fun e3=>
 .leaf (.inl (x1.1,x1.2.1,(i64.wrap ((BitVec.ofInt (i64.bits) (u1.1) ||| BitVec.ofInt (i64.bits) ((i64.wrap ((u8.wrap ((BitVec.ofInt (u8.bits) (e2.1) ^^^ BitVec.ofInt (u8.bits) (e3.1)).toNat:Nat)))))).toNat:Nat)),(i64.wrap (u1.2.1+(1:Int))),()))) (
 .leaf (.inr (u1.1,())))
def Apm (a0:YBs) (a1:YBs):Tree (YI):=
 .br ((a0.1.length:Int) != (a1.1.length:Int)) (
 .leaf ((-1:Int),())) (
 .ob (Ay O0 (a0.1,a1.1,(0:Int),(0:Int),())) fun o4=>
 .leaf o4)
def Ap2 (a0:YBs) (a1:YBs):Option (YI):=(Apm a0 a1).val
def Acz (a0:YBs) (a1:YBs):Tree ((Bool×Unit)):=
 .br ((a0.1.length:Int)==(16:Int)) (
 .ob (Ap2 a0 a1) fun r1=>
 .leaf ((r1.1==(0:Int)),())) (
 .leaf (false,()))
def Adj (a0:YBs) (a1:YBs):Option ((Bool×Unit)):=(Acz a0 a1).val
def Ac0 (a0:YBs) (a1:YBs) (a2:YI):Tree (YBs):=
 .ob (Bb a2 ((0:Int),()) ((6:Int),())) fun r1=>
 .br (!r1.1) (
 .leaf (([]:List YB),())) (
 .br (decide ((a1.1.length:Int)>(100:Int))) (
 .leaf (([]:List YB),())) (
 .chk (decide ([((115:Int),())].length+a1.1.length≤4294967296)) <|
 .ob (Fx (([((115:Int),())]++a1.1),()) a2 ((4:Int),())) fun r2=>
 .ob (Qx a0 r2) fun r3=>
 .leaf r3))
def Adk (a0:YBs) (a1:YBs) (a2:YI):Option (YBs):=(Ac0 a0 a1 a2).val
def I0 (x2:(List YB)×(List YB)×Int×(List YB)×Int×Unit):Option (((List YB)×(List YB)×Int×(List YB)×Int×Unit)⊕((Int×(List YB)×Unit))):=
 letI u1:=x2.2.2;Tree.val (α:=((List YB)×(List YB)×Int×(List YB)×Int×Unit)⊕((Int×(List YB)×Unit))) <|
 .br (decide ((x2.2.2.2.1.length:Int)<u1.1)) (
 .ob (Adk (x2.1,()) (x2.2.1,()) (u1.2.2.1,())) fun r3=>
 .chk (decide (x2.2.2.2.1.length+r3.1.length≤4294967296)) <|
 .leaf (.inl (x2.1,x2.2.1,u1.1,(u1.2.1++r3.1),(i64.wrap (u1.2.2.1+(1:Int))),()))) (
 .leaf (.inr (u1.1,u1.2.1,())))
def Agi (a0:YBs) (a1:YBs) (a2:YI):Tree (YBs):=
 .ob (Bb a2 ((0:Int),()) ((200:Int),())) fun r1=>
 .br (!r1.1) (
 .leaf (([]:List YB),())) (
 .br (decide ((a1.1.length:Int)>(100:Int))) (
 .leaf (([]:List YB),())) (
 .br (decide ((a0.1.length:Int)>(1048576:Int))) (
 .leaf (([]:List YB),())) (
 .ob (Ay I0 (a0.1,a1.1,a2.1,([]:List YB),(0:Int),())) fun o4=>
 .chk (decide ((0:Int)≤o4.1)) <|
 .chk (decide (o4.1≤(o4.2.1.length:Int))) <|
 .chk (decide (([]:List YB).length+((o4.2.1.take (o4.1).toNat).drop ((0:Int)).toNat).length≤4294967296)) <|
 .leaf ((([]:List YB)++((o4.2.1.take (o4.1).toNat).drop ((0:Int)).toNat)),()))))
def Ahq (a0:YBs) (a1:YBs) (a2:YI):Option (YBs):=(Agi a0 a1 a2).val
def Oc (x2:(List YB)×(List YB)×(List YB)×Int×Unit):Option (((List YB)×(List YB)×(List YB)×Int×Unit)⊕(YBs)):=
 letI u1:=x2.2.2;Tree.val (α:=((List YB)×(List YB)×(List YB)×Int×Unit)⊕(YBs)) <|
 .br (decide (u1.2.1<(x2.1.length:Int))) (
 .ob (idx x2.1 u1.2.1) fun e3=>
 .ob (idx u1.1 u1.2.1) fun e4=>
 .chk (decide (x2.2.1.length+[((u8.wrap ((BitVec.ofInt (u8.bits) (e3.1) ^^^ BitVec.ofInt (u8.bits) (e4.1)).toNat:Nat)),())].length≤4294967296)) <|
 .leaf (.inl (x2.1,(x2.2.1++[((u8.wrap ((BitVec.ofInt (u8.bits) (e3.1) ^^^ BitVec.ofInt (u8.bits) (e4.1)).toNat:Nat)),())]),u1.1,(i64.wrap (u1.2.1+(1:Int))),()))) (
 .leaf (.inr (x2.2.1,())))
def Ats (a0:YBs) (a1:YBs) (a2:YBs):Tree (YBs):=
 .br (decide ((a2.1.length:Int)>(200:Int))) (
 .leaf (([]:List YB),())) (
 .br (decide ((a1.1.length:Int)>(100:Int))) (
 .leaf (([]:List YB),())) (
 .br (decide ((a0.1.length:Int)>(1048576:Int))) (
 .leaf (([]:List YB),())) (
 .ob (Ahq a0 a1 ((a2.1.length:Int),())) fun r1=>
 .ob (Ay Oc (a2.1,([]:List YB),r1.1,(0:Int),())) fun o5=>
 .leaf o5)))
def Am0 (a0:YBs) (a1:YBs) (a2:YBs):Option (YBs):=(Ats a0 a1 a2).val
def Agj (a0:YBs) (a1:YI) (a2:Aa):Tree (YBs×(Bool×Unit)):=
 letI u1:=a2.2.2.2.2.2.2.2;.ob (Hn a1 a2) fun r1=>
 .br ((a0.1.length:Int) != (32:Int)) (
 .leaf ((([]:List YB),()),(false,()))) (
 .br ((r1.1.length:Int)==(0:Int)) (
 .leaf ((([]:List YB),()),(false,()))) (
 .ob (Ae7 a0 r1) fun r2=>
 .ob (Adj (u1.2.2.2.1,()) r2) fun r3=>
 .br (!r3.1) (
 .leaf ((([]:List YB),()),(false,()))) (
 .ob (L6 a1 (a2.2.2.2.1,()) (u1.1,()) (u1.2.1,())) fun r4=>
 .ob (Am0 a0 r4 (u1.2.2.1,())) fun r5=>
 .leaf (r5,(true,())))))
def Ahr (a0:YBs) (a1:YI) (a2:Aa):Option (YBs×(Bool×Unit)):=(Agj a0 a1 a2).val
def I1 (x3:Int×Int×Int×Int×(List YI)×Int×(List YI)×Int×(List YI)×Unit):Option ((Int×Int×Int×Int×(List YI)×Int×(List YI)×Int×(List YI)×Unit)⊕((Int×Int×(List YI)×Int×(List YI)×Int×(List YI)×Unit))):=
 letI u1:=x3.2.2;letI u2:=u1.2.2;letI u3:=u2.2.2;Tree.val (α:=(Int×Int×Int×Int×(List YI)×Int×(List YI)×Int×(List YI)×Unit)⊕((Int×Int×(List YI)×Int×(List YI)×Int×(List YI)×Unit))) <|
 .br (decide (u1.1≤x3.1)) (
 .br (decide (x3.2.1<(1024:Int))) (
 .chk (decide ((0:Int)≤u1.1)) <|
 .chk (decide ((0:Int)≤(u1.1%(1024:Int)))) <|
 .chk (decide ((0:Int)≤(u1.1%(1024:Int)))) <|
 .ob (idx u3.2.2.1 ((u1.1%(1024:Int))/(32:Int))) fun e4=>
 .chk (decide ((0:Int)≤(u1.1%(1024:Int)))) <|
 .chk (decide ((0:Int)≤((u1.1%(1024:Int))%(32:Int)))) <|
 .ob (idx u3.2.2.1 ((u1.1%(1024:Int))/(32:Int))) fun e5=>
 let q6:=(x3.2.2.2.2.2.2.2.2.1.set (((u1.1%(1024:Int))/(32:Int))).toNat ((i64.wrap ((BitVec.ofInt (i64.bits) (e4.1) &&& ~~~ BitVec.ofInt (i64.bits) ((i64.wrap ((1:Int)*2^(min (((u1.1%(1024:Int))%(32:Int))).toNat i64.bits))))).toNat:Nat)),()))
 .leaf (.inl (x3.1,(i64.wrap (x3.2.1+(1:Int))),(i64.wrap (u1.1+(1:Int))),u1.2.1,u2.1,u2.2.1,u3.1,u3.2.1,q6,()))) (
 .leaf (.inr (x3.1,u1.2.1,u2.1,u2.2.1,u3.1,u3.2.1,u3.2.2.1,())))) (
 .leaf (.inr (x3.1,u1.2.1,u2.1,u2.2.1,u3.1,u3.2.1,u3.2.2.1,())))
def Agl (a0:Bn) (a1:YI):Tree (Bn×(Bool×Unit)):=
 .ob (Ahn a0) fun r1=>
 .ob (W9 a0 a1) fun r2=>
 .br (!r2.1) (
 .leaf (r1,(false,()))) (
 .ob (Ay I1 (a1.1,(0:Int),(i64.wrap (a0.1+(1:Int))),a0.1,a0.2.1,(0:Int),([]:List YI),r1.1,r1.2.1,())) fun o7=>letI u1:=o7.2.2.2.2.2;
 .chk (decide ((0:Int)≤o7.1)) <|
 .chk (decide ((0:Int)≤(o7.1%(1024:Int)))) <|
 .chk (decide ((0:Int)≤(o7.1%(1024:Int)))) <|
 .ob (idx u1.2.1 ((o7.1%(1024:Int))/(32:Int))) fun e8=>
 .chk (decide ((0:Int)≤(o7.1%(1024:Int)))) <|
 .chk (decide ((0:Int)≤((o7.1%(1024:Int))%(32:Int)))) <|
 .ob (idx u1.2.1 ((o7.1%(1024:Int))/(32:Int))) fun e9=>
 let q10:=(o7.2.2.2.2.2.2.1.set (((o7.1%(1024:Int))/(32:Int))).toNat ((i64.wrap ((BitVec.ofInt (i64.bits) (e8.1) ||| BitVec.ofInt (i64.bits) ((i64.wrap ((1:Int)*2^(min (((o7.1%(1024:Int))%(32:Int))).toNat i64.bits))))).toNat:Nat)),()))
 .br (decide (o7.1>o7.2.1)) (
 .leaf ((o7.1,q10,()),(true,()))) (
 .leaf ((u1.1,q10,()),(true,()))))
def Pk (a0:Bn) (a1:YI):Option (Bn×(Bool×Unit)):=(Agl a0 a1).val
def Agm (a0:YEp) (a1:YI) (a2:Aa):Tree (YEp×YBs×YI):=
 letI u1:=a0.2.2.2;letI u2:=a2.2.2.2.2.2.2.2;.ob (L5 a0) fun r1=>
 .ob (Nz a0) fun r2=>
 .br (!r2.1) (
 .leaf (r1,(([]:List YB),()),((1:Int),()))) (
 .ob (Hn a1 a2) fun r3=>
 .br ((r3.1.length:Int)==(0:Int)) (
 .leaf (r1,(([]:List YB),()),((1:Int),()))) (
 .br (u2.1 != a0.1) (
 .leaf (r1,(([]:List YB),()),((1:Int),()))) (
 .ob (W9 (u1.1,u1.2.1,()) (u2.2.1,())) fun r4=>
 .br (!r4.1) (
 .leaf (r1,(([]:List YB),()),((3:Int),()))) (
 .ob (Ahr (a0.2.1,()) a1 a2) fun r5=>
 .br (!r5.2.1) (
 .leaf (r1,(([]:List YB),()),((2:Int),()))) (
 .ob (Pk (u1.1,u1.2.1,()) (u2.2.1,())) fun r6=>
 .leaf ((r1.1,r1.2.1,r1.2.2.1,r6.1.1,r6.1.2.1,()),r5.1,((0:Int),())))))))
def F7 (a0:YEp) (a1:YI) (a2:Aa):Option (YEp×YBs×YI):=(Agm a0 a1 a2).val
def K6 (a0:Af) (a1:YI) (a2:Aa):Tree (Af×YBs×YI):=
 letI u1:=a0.2.2;letI u2:=u1.2.2;letI u3:=u2.2.2.2;letI u4:=u3.2.2;letI u5:=u4.2.2;letI u6:=u5.2.2;letI u7:=a2.2.2.2.2.2.2.2;.ob (Mu a0) fun r1=>letI u8:=r1.2.2;letI u9:=u8.2.2;letI u10:=u9.2.2;letI u11:=u10.2.2;letI u12:=u11.2.2;letI u13:=u12.2.2;letI u14:=u13.2.2;
 .ob (Jt a0) fun r2=>
 .br (!r2.1) (
 .leaf (r1,(([]:List YB),()),((1:Int),()))) (
 .ob (Bb a1 ((0:Int),()) ((1000000:Int),())) fun r3=>
 .br (!r3.1) (
 .leaf (r1,(([]:List YB),()),((1:Int),()))) (
 .ob (Iq a2) fun r4=>
 .br (!r4.1) (
 .leaf (r1,(([]:List YB),()),((1:Int),()))) (
 .ob (H5 (a2.1,())) fun r5=>
 .br (!r5.1) (
 .leaf (r1,(([]:List YB),()),((1:Int),()))) (
 .ob (Ph (a2.2.2.2.1,()) (a0.2.1,())) fun r6=>
 .br (!r6.1) (
 .leaf (r1,(([]:List YB),()),((8:Int),()))) (
 .br (u7.1==u1.1) (
 .ob (F7 (u1.1,u1.2.1,u2.1,u2.2.1,u2.2.2.1,()) ((i64.wrap ((1:Int)-a0.1)),()) a2) fun r7=>letI u15:=r7.1.2.2;
 .br (r7.2.2.1 != (0:Int)) (
 .leaf (r1,(([]:List YB),()),r7.2.2)) (
 .br u5.2.1 (
 .br (u6.1==(-1:Int)) (
 .leaf ((r1.1,r1.2.1,r7.1.1,r7.1.2.1,u15.1,u15.2.1,u15.2.2.1,u10.2.1,u11.1,u11.2.1,u12.1,u12.2.1,u13.1,(i64.wrap (a1.1+(5:Int))),u14.1,()),r7.2.1,((0:Int),()))) (
 .leaf ((r1.1,r1.2.1,r7.1.1,r7.1.2.1,u15.1,u15.2.1,u15.2.2.1,u10.2.1,u11.1,u11.2.1,u12.1,u12.2.1,u13.1,u13.2.1,u14.1,()),r7.2.1,((0:Int),())))) (
 .leaf ((r1.1,r1.2.1,r7.1.1,r7.1.2.1,u15.1,u15.2.1,u15.2.2.1,u10.2.1,u11.1,u11.2.1,u12.1,u12.2.1,u13.1,u13.2.1,u14.1,()),r7.2.1,((0:Int),()))))) (
 .br u5.2.1 (
 .br (u7.1==u3.1) (
 .br (u6.1 != (-1:Int)) (
 .br (decide (a1.1>u6.1)) (
 .leaf (r1,(([]:List YB),()),((9:Int),()))) (
 .ob (F7 (u3.1,u3.2.1,u4.1,u4.2.1,u5.1,()) ((i64.wrap ((1:Int)-a0.1)),()) a2) fun r8=>
 .br (r8.2.2.1 != (0:Int)) (
 .leaf (r1,(([]:List YB),()),r8.2.2)) (
 .leaf ((r1.1,r1.2.1,u8.1,u8.2.1,u9.1,u9.2.1,u10.1,r8.1.1,r8.1.2.1,r8.1.2.2.1,r8.1.2.2.2.1,r8.1.2.2.2.2.1,u13.1,u13.2.1,u14.1,()),r8.2.1,((0:Int),()))))) (
 .ob (F7 (u3.1,u3.2.1,u4.1,u4.2.1,u5.1,()) ((i64.wrap ((1:Int)-a0.1)),()) a2) fun r9=>
 .br (r9.2.2.1 != (0:Int)) (
 .leaf (r1,(([]:List YB),()),r9.2.2)) (
 .leaf ((r1.1,r1.2.1,u8.1,u8.2.1,u9.1,u9.2.1,u10.1,r9.1.1,r9.1.2.1,r9.1.2.2.1,r9.1.2.2.2.1,r9.1.2.2.2.2.1,u13.1,u13.2.1,u14.1,()),r9.2.1,((0:Int),()))))) (
 .br (decide ((a0.2.2.2.2.2.2.2.2.2.2.2.2.2.2.1.length:Int)>(0:Int))) (
 .br (u7.1==(i64.wrap (u1.1+(1:Int)))) (
 .ob (Ey ((i64.wrap (u1.1+(1:Int))),()) (u6.2.1,())) fun r10=>
 .ob (F7 r10 ((i64.wrap ((1:Int)-a0.1)),()) a2) fun r11=>
 .br (r11.2.2.1 != (0:Int)) (
 .leaf (r1,(([]:List YB),()),r11.2.2)) (
 .leaf ((r1.1,r1.2.1,r11.1.1,r11.1.2.1,r11.1.2.2.1,r11.1.2.2.2.1,r11.1.2.2.2.2.1,u8.1,u8.2.1,u9.1,u9.2.1,u10.1,true,(i64.wrap (a1.1+(5:Int))),([]:List YB),()),r11.2.1,((0:Int),())))) (
 .leaf (r1,(([]:List YB),()),((8:Int),())))) (
 .leaf (r1,(([]:List YB),()),((8:Int),()))))) (
 .br (decide ((a0.2.2.2.2.2.2.2.2.2.2.2.2.2.2.1.length:Int)>(0:Int))) (
 .br (u7.1==(i64.wrap (u1.1+(1:Int)))) (
 .ob (Ey ((i64.wrap (u1.1+(1:Int))),()) (u6.2.1,())) fun r12=>
 .ob (F7 r12 ((i64.wrap ((1:Int)-a0.1)),()) a2) fun r13=>
 .br (r13.2.2.1 != (0:Int)) (
 .leaf (r1,(([]:List YB),()),r13.2.2)) (
 .leaf ((r1.1,r1.2.1,r13.1.1,r13.1.2.1,r13.1.2.2.1,r13.1.2.2.2.1,r13.1.2.2.2.2.1,u8.1,u8.2.1,u9.1,u9.2.1,u10.1,true,(i64.wrap (a1.1+(5:Int))),([]:List YB),()),r13.2.1,((0:Int),())))) (
 .leaf (r1,(([]:List YB),()),((8:Int),())))) (
 .leaf (r1,(([]:List YB),()),((8:Int),()))))))))))
def Fc (a0:Af) (a1:YI) (a2:Aa):Option (Af×YBs×YI):=(K6 a0 a1 a2).val
def Agn (a0:Af) (a1:YI):Tree (YBs×(Bool×Unit)):=
 letI u1:=a0.2.2;letI u2:=u1.2.2.2.2.2;letI u3:=u2.2.2.2.2.2;.ob (Jt a0) fun r1=>
 .br (!r1.1) (
 .leaf ((([]:List YB),()),(false,()))) (
 .br u3.1 (
 .br (a1.1==u2.1) (
 .chk (decide (([]:List YB).length+a0.2.2.2.2.2.2.2.2.1.length≤4294967296)) <|
 .leaf (((([]:List YB)++u2.2.1),()),(true,()))) (
 .br (a1.1==u1.1) (
 .chk (decide (([]:List YB).length+a0.2.2.2.1.length≤4294967296)) <|
 .leaf (((([]:List YB)++u1.2.1),()),(true,()))) (
 .br (decide ((a0.2.2.2.2.2.2.2.2.2.2.2.2.2.2.1.length:Int)>(0:Int))) (
 .br (a1.1==(i64.wrap (u1.1+(1:Int)))) (
 .chk (decide (([]:List YB).length+a0.2.2.2.2.2.2.2.2.2.2.2.2.2.2.1.length≤4294967296)) <|
 .leaf (((([]:List YB)++u3.2.2.1),()),(true,()))) (
 .leaf ((([]:List YB),()),(false,())))) (
 .leaf ((([]:List YB),()),(false,())))))) (
 .br (a1.1==u1.1) (
 .chk (decide (([]:List YB).length+a0.2.2.2.1.length≤4294967296)) <|
 .leaf (((([]:List YB)++u1.2.1),()),(true,()))) (
 .br (decide ((a0.2.2.2.2.2.2.2.2.2.2.2.2.2.2.1.length:Int)>(0:Int))) (
 .br (a1.1==(i64.wrap (u1.1+(1:Int)))) (
 .chk (decide (([]:List YB).length+a0.2.2.2.2.2.2.2.2.2.2.2.2.2.2.1.length≤4294967296)) <|
 .leaf (((([]:List YB)++u3.2.2.1),()),(true,()))) (
 .leaf ((([]:List YB),()),(false,())))) (
 .leaf ((([]:List YB),()),(false,()))))))
def Xa (a0:Af) (a1:YI):Option (YBs×(Bool×Unit)):=(Agn a0 a1).val
def Apn (a0:YBs) (a1:YBs) (a2:YBs):Tree (Ae):=
 .chk (decide (([]:List YB).length+a0.1.length≤4294967296)) <|
 .chk (decide (([]:List YB).length+a1.1.length≤4294967296)) <|
 .chk (decide (([]:List YB).length+a2.1.length≤4294967296)) <|
 .leaf ((16:Int),(0:Int),(0:Int),([]:List YB),(([]:List YB)++a1.1),(0:Int),(0:Int),(([]:List YB)++a2.1),(([]:List YB)++a0.1),(0:Int),(0:Int),(0:Int),())
def Ap3 (a0:YBs) (a1:YBs) (a2:YBs):Option (Ae):=(Apn a0 a1 a2).val
def Jp (x5:(List YB)×Int×Int×Int×Int×(List YB)×(List YB)×Int×(List YB)×(List YB)×Int×Int×(List YB)×(List YB)×Int×Int×(List YB)×(List YB)×Int×(List YB)×(List YB)×Int×Int×(List YB)×(List YB)×Unit):Option (((List YB)×Int×Int×Int×Int×(List YB)×(List YB)×Int×(List YB)×(List YB)×Int×Int×(List YB)×(List YB)×Int×Int×(List YB)×(List YB)×Int×(List YB)×(List YB)×Int×Int×(List YB)×(List YB)×Unit)⊕(((List YB)×Int×Int×Int×(List YB)×(List YB)×Int×(List YB)×(List YB)×Int×Int×(List YB)×(List YB)×Int×Int×(List YB)×(List YB)×Int×(List YB)×(List YB)×Int×Int×(List YB)×(List YB)×Unit))):=
 letI u1:=x5.2.2;letI u2:=u1.2.2;letI u3:=u2.2.2;letI u4:=u3.2.2;letI u5:=u4.2.2;letI u6:=u5.2.2;letI u7:=u6.2.2;letI u8:=u7.2.2;letI u9:=u8.2.2;letI u10:=u9.2.2;letI u11:=u10.2.2;Tree.val (α:=((List YB)×Int×Int×Int×Int×(List YB)×(List YB)×Int×(List YB)×(List YB)×Int×Int×(List YB)×(List YB)×Int×Int×(List YB)×(List YB)×Int×(List YB)×(List YB)×Int×Int×(List YB)×(List YB)×Unit)⊕(((List YB)×Int×Int×Int×(List YB)×(List YB)×Int×(List YB)×(List YB)×Int×Int×(List YB)×(List YB)×Int×Int×(List YB)×(List YB)×Int×(List YB)×(List YB)×Int×Int×(List YB)×(List YB)×Unit))) <|
 .br (decide (u1.1<(16:Int))) (
 .chk (decide (x5.2.2.2.2.2.2.2.2.2.2.2.2.2.2.2.2.2.2.2.2.2.2.2.2.1.length+[((0:Int),())].length≤4294967296)) <|
 .leaf (.inl (x5.1,x5.2.1,(i64.wrap (u1.1+(1:Int))),u1.2.1,u2.1,u2.2.1,u3.1,u3.2.1,u4.1,u4.2.1,u5.1,u5.2.1,u6.1,u6.2.1,u7.1,u7.2.1,u8.1,u8.2.1,u9.1,u9.2.1,u10.1,u10.2.1,u11.1,u11.2.1,(u11.2.2.1++[((0:Int),())]),()))) (
 .leaf (.inr (x5.1,x5.2.1,u1.2.1,u2.1,u2.2.1,u3.1,u3.2.1,u4.1,u4.2.1,u5.1,u5.2.1,u6.1,u6.2.1,u7.1,u7.2.1,u8.1,u8.2.1,u9.1,u9.2.1,u10.1,u10.2.1,u11.1,u11.2.1,u11.2.2.1,())))
def Ago (a0:YBs) (a1:YI) (a2:YBs) (a3:YI) (a4:YI) (a5:YI) (a6:YBs):Tree (Aa×(Bool×Unit)):=
 .ob (L6 a1 a2 a3 a4) fun r1=>
 .br ((a0.1.length:Int) != (32:Int)) (
 .leaf (((0:Int),(0:Int),([]:List YB),([]:List YB),(0:Int),([]:List YB),([]:List YB),(0:Int),(0:Int),([]:List YB),([]:List YB),()),(false,()))) (
 .br ((r1.1.length:Int)==(0:Int)) (
 .leaf (((0:Int),(0:Int),([]:List YB),([]:List YB),(0:Int),([]:List YB),([]:List YB),(0:Int),(0:Int),([]:List YB),([]:List YB),()),(false,()))) (
 .ob (H5 a5) fun r2=>
 .br (!r2.1) (
 .leaf (((0:Int),(0:Int),([]:List YB),([]:List YB),(0:Int),([]:List YB),([]:List YB),(0:Int),(0:Int),([]:List YB),([]:List YB),()),(false,()))) (
 .ob (Pg a5 ((a6.1.length:Int),())) fun r3=>
 .br (!r3.1) (
 .leaf (((0:Int),(0:Int),([]:List YB),([]:List YB),(0:Int),([]:List YB),([]:List YB),(0:Int),(0:Int),([]:List YB),([]:List YB),()),(false,()))) (
 .chk (decide (([]:List YB).length+a2.1.length≤4294967296)) <|
 .ob (Am0 a0 r1 a6) fun r4=>
 .ob (Ay Jp (a0.1,a1.1,(0:Int),(0:Int),(0:Int),([]:List YB),([]:List YB),(0:Int),([]:List YB),([]:List YB),(0:Int),(0:Int),([]:List YB),([]:List YB),a5.1,(0:Int),([]:List YB),(([]:List YB)++a2.1),(0:Int),([]:List YB),([]:List YB),a3.1,a4.1,r4.1,([]:List YB),())) fun o6=>letI u1:=o6.2.2.2.2.2.2.2.2.2.2.2.2.2;letI u2:=u1.2.2;letI u3:=u2.2.2;letI u4:=u3.2.2;letI u5:=u4.2.2;
 .ob (Hn (o6.2.1,()) (u1.1,u1.2.1,u2.1,u2.2.1,u3.1,u3.2.1,u4.1,u4.2.1,u5.1,u5.2.1,u5.2.2.1,())) fun r7=>
 .ob (Ae7 (o6.1,()) r7) fun r8=>
 .leaf ((u1.1,u1.2.1,u2.1,u2.2.1,u3.1,u3.2.1,u4.1,u4.2.1,u5.1,u5.2.1,r8.1,()),(true,()))))))
def Lf (a0:YBs) (a1:YI) (a2:YBs) (a3:YI) (a4:YI) (a5:YI) (a6:YBs):Option (Aa×(Bool×Unit)):=(Ago a0 a1 a2 a3 a4 a5 a6).val
def Agq (a0:YEp) (a1:YI) (a2:YBs) (a3:YI) (a4:YBs):Tree (YEp×Aa×YI):=
 letI u1:=a0.2.2;.ob (L5 a0) fun r1=>letI u2:=r1.2.2.2;
 .ob (Nz a0) fun r2=>
 .br (!r2.1) (
 .leaf (r1,((0:Int),(0:Int),([]:List YB),([]:List YB),(0:Int),([]:List YB),([]:List YB),(0:Int),(0:Int),([]:List YB),([]:List YB),()),((1:Int),()))) (
 .ob (L6 a1 a2 (a0.1,()) ((0:Int),())) fun r3=>
 .br ((r3.1.length:Int)==(0:Int)) (
 .leaf (r1,((0:Int),(0:Int),([]:List YB),([]:List YB),(0:Int),([]:List YB),([]:List YB),(0:Int),(0:Int),([]:List YB),([]:List YB),()),((1:Int),()))) (
 .ob (H5 a3) fun r4=>
 .br (!r4.1) (
 .leaf (r1,((0:Int),(0:Int),([]:List YB),([]:List YB),(0:Int),([]:List YB),([]:List YB),(0:Int),(0:Int),([]:List YB),([]:List YB),()),((1:Int),()))) (
 .ob (Pg a3 ((a4.1.length:Int),())) fun r5=>
 .br (!r5.1) (
 .leaf (r1,((0:Int),(0:Int),([]:List YB),([]:List YB),(0:Int),([]:List YB),([]:List YB),(0:Int),(0:Int),([]:List YB),([]:List YB),()),((1:Int),()))) (
 .br (a3.1==(4:Int)) (
 .br (decide (u1.1≥(281474976709656:Int))) (
 .leaf (r1,((0:Int),(0:Int),([]:List YB),([]:List YB),(0:Int),([]:List YB),([]:List YB),(0:Int),(0:Int),([]:List YB),([]:List YB),()),((4:Int),()))) (
 .br (u1.1==(281474976710656:Int)) (
 .leaf (r1,((0:Int),(0:Int),([]:List YB),([]:List YB),(0:Int),([]:List YB),([]:List YB),(0:Int),(0:Int),([]:List YB),([]:List YB),()),((5:Int),()))) (
 .ob (Lf (a0.2.1,()) a1 a2 (a0.1,()) (u1.1,()) a3 a4) fun r6=>
 .leaf ((r1.1,r1.2.1,(i64.wrap (u1.1+(1:Int))),u2.1,u2.2.1,()),r6.1,((0:Int),()))))) (
 .br (u1.1==(281474976710656:Int)) (
 .leaf (r1,((0:Int),(0:Int),([]:List YB),([]:List YB),(0:Int),([]:List YB),([]:List YB),(0:Int),(0:Int),([]:List YB),([]:List YB),()),((5:Int),()))) (
 .ob (Lf (a0.2.1,()) a1 a2 (a0.1,()) (u1.1,()) a3 a4) fun r7=>
 .leaf ((r1.1,r1.2.1,(i64.wrap (u1.1+(1:Int))),u2.1,u2.2.1,()),r7.1,((0:Int),()))))))))
def Ahs (a0:YEp) (a1:YI) (a2:YBs) (a3:YI) (a4:YBs):Option (YEp×Aa×YI):=(Agq a0 a1 a2 a3 a4).val
def Za (a0:Af) (a1:YI) (a2:YBs):Tree (Af×Aa×YI):=
 letI u1:=a0.2.2.2;.ob (Mu a0) fun r1=>letI u2:=r1.2.2.2.2.2.2.2;letI u3:=u2.2.2.2;
 .ob (Jt a0) fun r2=>
 .br (!r2.1) (
 .leaf (r1,((0:Int),(0:Int),([]:List YB),([]:List YB),(0:Int),([]:List YB),([]:List YB),(0:Int),(0:Int),([]:List YB),([]:List YB),()),((1:Int),()))) (
 .ob (Ahs (a0.2.2.1,u1.1,u1.2.1,u1.2.2.1,u1.2.2.2.1,()) (a0.1,()) (a0.2.1,()) a1 a2) fun r3=>
 .br (r3.2.2.1==(0:Int)) (
 .leaf ((r1.1,r1.2.1,r3.1.1,r3.1.2.1,r3.1.2.2.1,r3.1.2.2.2.1,r3.1.2.2.2.2.1,u2.1,u2.2.1,u2.2.2.1,u3.1,u3.2.1,u3.2.2.1,u3.2.2.2.1,u3.2.2.2.2.1,()),r3.2.1,r3.2.2)) (
 .leaf (r1,r3.2.1,r3.2.2)))
def Eo (a0:Af) (a1:YI) (a2:YBs):Option (Af×Aa×YI):=(Za a0 a1 a2).val
def Ac1 (a0:Af) (a1:Aa):Tree (Ae):=
 .ob (Hn (a0.1,()) a1) fun r1=>
 .ob (Ahp (a0.2.2.2.1,()) r1) fun r2=>
 .leaf r2
def E7 (a0:Af) (a1:Aa):Option (Ae):=(Ac1 a0 a1).val
def Z3 (r18:Ae) (a0:Ab) (a2:Aa) (r15:Af×YBs×YI) (a1:YI) (r20:Ae) (r19:Af×Aa×YI) (r1:Ab):Tree (Ab×((List Aa)×Unit)×((List Ae)×Unit)):=
 letI u1:=a0.2.2.2.2.2;letI u2:=u1.2.2.2.2.2.2.2.2.2.2.2.2.2.2.2;letI u3:=a2.2.2.2;letI u4:=u3.2.2.2.2;letI u5:=r19.1.2.2.2;letI u6:=u5.2.2.2;letI u7:=u6.2.2.2.2;.chk (decide ((((((([]:List Ae)++[r18])++[((3:Int),a0.1,(0:Int),(([]:List YB)++u1.1),(([]:List YB)++u3.1),(0:Int),(0:Int),([]:List YB),(([]:List YB)++u2.1),(0:Int),(0:Int),(0:Int),())])++[((10:Int),(0:Int),(0:Int),([]:List YB),(([]:List YB)++u3.1),r15.1.2.2.1,(0:Int),([]:List YB),(([]:List YB)++r15.1.2.2.2.1),(0:Int),(0:Int),(0:Int),())])++[((6:Int),(0:Int),(1:Int),([]:List YB),(([]:List YB)++u3.1),u4.1,u4.2.1,(([]:List YB)++r15.2.1.1),([]:List YB),(0:Int),(0:Int),a1.1,())])++[r20]).length+[((8:Int),(0:Int),(0:Int),([]:List YB),(([]:List YB)++u3.1),r19.2.1.2.2.2.2.2.2.2.1,(0:Int),(([]:List YB)++r15.2.1.1),([]:List YB),(0:Int),(0:Int),(0:Int),())].length≤4294967296)) <|
 .leaf ((r1.1,r1.2.1,r1.2.2.1,r1.2.2.2.1,(3:Int),r1.2.2.2.2.2.1,(0:Int),(0:Int),([]:List YB),([]:List YB),(0:Int),([]:List YB),([]:List YB),(0:Int),(0:Int),([]:List YB),([]:List YB),r19.1.1,r19.1.2.1,r19.1.2.2.1,u5.1,u5.2.1,u5.2.2.1,u6.1,u6.2.1,u6.2.2.1,u6.2.2.2.1,u7.1,u7.2.1,u7.2.2.1,u7.2.2.2.1,u7.2.2.2.2.1,false,(0:Int),(0:Int),(0:Int),false,(0:Int),(0:Int),(0:Int),a1.1,()),((([]:List Aa)++[r19.2.1]),()),(((((((([]:List Ae)++[r18])++[((3:Int),a0.1,(0:Int),(([]:List YB)++u1.1),(([]:List YB)++u3.1),(0:Int),(0:Int),([]:List YB),(([]:List YB)++u2.1),(0:Int),(0:Int),(0:Int),())])++[((10:Int),(0:Int),(0:Int),([]:List YB),(([]:List YB)++u3.1),r15.1.2.2.1,(0:Int),([]:List YB),(([]:List YB)++r15.1.2.2.2.1),(0:Int),(0:Int),(0:Int),())])++[((6:Int),(0:Int),(1:Int),([]:List YB),(([]:List YB)++u3.1),u4.1,u4.2.1,(([]:List YB)++r15.2.1.1),([]:List YB),(0:Int),(0:Int),a1.1,())])++[r20])++[((8:Int),(0:Int),(0:Int),([]:List YB),(([]:List YB)++u3.1),r19.2.1.2.2.2.2.2.2.2.1,(0:Int),(([]:List YB)++r15.2.1.1),([]:List YB),(0:Int),(0:Int),(0:Int),())]),()))
def Z4 (r15:Af×YBs×YI) (r18:Ae) (a0:Ab) (a2:Aa) (a1:YI) (r20:Ae) (r19:Af×Aa×YI) (r1:Ab):Tree (Ab×((List Aa)×Unit)×((List Ae)×Unit)):=
 .chk (decide (([]:List YB).length+r15.2.1.1.length≤4294967296)) <|
 Z3 r18 a0 a2 r15 a1 r20 r19 r1
def Z5 (a2:Aa) (r15:Af×YBs×YI) (r18:Ae) (a0:Ab) (a1:YI) (r20:Ae) (r19:Af×Aa×YI) (r1:Ab):Tree (Ab×((List Aa)×Unit)×((List Ae)×Unit)):=
 .chk (decide (([]:List YB).length+a2.2.2.2.1.length≤4294967296)) <|
 Z4 r15 r18 a0 a2 a1 r20 r19 r1
def Z6 (r18:Ae) (a0:Ab) (a2:Aa) (r15:Af×YBs×YI) (a1:YI) (r20:Ae) (r19:Af×Aa×YI) (r1:Ab):Tree (Ab×((List Aa)×Unit)×((List Ae)×Unit)):=
 letI u1:=a2.2.2.2;.chk (decide (((((([]:List Ae)++[r18])++[((3:Int),a0.1,(0:Int),(([]:List YB)++a0.2.2.2.2.2.1),(([]:List YB)++u1.1),(0:Int),(0:Int),([]:List YB),(([]:List YB)++a0.2.2.2.2.2.2.2.2.2.2.2.2.2.2.2.2.2.2.2.2.1),(0:Int),(0:Int),(0:Int),())])++[((10:Int),(0:Int),(0:Int),([]:List YB),(([]:List YB)++u1.1),r15.1.2.2.1,(0:Int),([]:List YB),(([]:List YB)++r15.1.2.2.2.1),(0:Int),(0:Int),(0:Int),())])++[((6:Int),(0:Int),(1:Int),([]:List YB),(([]:List YB)++u1.1),u1.2.2.2.2.1,u1.2.2.2.2.2.1,(([]:List YB)++r15.2.1.1),([]:List YB),(0:Int),(0:Int),a1.1,())]).length+[r20].length≤4294967296)) <|
 Z5 a2 r15 r18 a0 a1 r20 r19 r1
def Z7 (r19:Af×Aa×YI) (r18:Ae) (a0:Ab) (a2:Aa) (r15:Af×YBs×YI) (a1:YI) (r1:Ab):Tree (Ab×((List Aa)×Unit)×((List Ae)×Unit)):=
 .ob (E7 r19.1 r19.2.1) fun r20=>
 Z6 r18 a0 a2 r15 a1 r20 r19 r1
def Z8 (r19:Af×Aa×YI) (r18:Ae) (a0:Ab) (a2:Aa) (r15:Af×YBs×YI) (a1:YI) (r1:Ab):Tree (Ab×((List Aa)×Unit)×((List Ae)×Unit)):=
 .chk (decide (([]:List Aa).length+[r19.2.1].length≤4294967296)) <|
 Z7 r19 r18 a0 a2 r15 a1 r1
def Z9 (r19:Af×Aa×YI) (r18:Ae) (a0:Ab) (a2:Aa) (r15:Af×YBs×YI) (a1:YI) (r1:Ab):Tree (Ab×((List Aa)×Unit)×((List Ae)×Unit)):=
 letI u1:=a2.2.2.2;letI u2:=r15.1.2.2;letI u3:=u2.2.2.2;letI u4:=u3.2.2.2;letI u5:=u4.2.2.2;.br (r19.2.2.1==(0:Int)) (
 Z8 r19 r18 a0 a2 r15 a1 r1) (
 .leaf ((r1.1,r1.2.1,r1.2.2.1,r1.2.2.2.1,(3:Int),r1.2.2.2.2.2.1,(0:Int),(0:Int),([]:List YB),([]:List YB),(0:Int),([]:List YB),([]:List YB),(0:Int),(0:Int),([]:List YB),([]:List YB),r15.1.1,r15.1.2.1,u2.1,u2.2.1,u2.2.2.1,u3.1,u3.2.1,u3.2.2.1,u4.1,u4.2.1,u4.2.2.1,u5.1,u5.2.1,u5.2.2.1,u5.2.2.2.1,false,(0:Int),(0:Int),(0:Int),false,(0:Int),(0:Int),(0:Int),a1.1,()),(([]:List Aa),()),(((((([]:List Ae)++[r18])++[((3:Int),a0.1,(0:Int),(([]:List YB)++a0.2.2.2.2.2.1),(([]:List YB)++u1.1),(0:Int),(0:Int),([]:List YB),(([]:List YB)++a0.2.2.2.2.2.2.2.2.2.2.2.2.2.2.2.2.2.2.2.2.1),(0:Int),(0:Int),(0:Int),())])++[((10:Int),(0:Int),(0:Int),([]:List YB),(([]:List YB)++u1.1),u2.1,(0:Int),([]:List YB),(([]:List YB)++u2.2.1),(0:Int),(0:Int),(0:Int),())])++[((6:Int),(0:Int),(1:Int),([]:List YB),(([]:List YB)++u1.1),u1.2.2.2.2.1,u1.2.2.2.2.2.1,(([]:List YB)++r15.2.1.1),([]:List YB),(0:Int),(0:Int),a1.1,())]),())))
def Aaa (r15:Af×YBs×YI) (r18:Ae) (a0:Ab) (a2:Aa) (a1:YI) (r1:Ab):Tree (Ab×((List Aa)×Unit)×((List Ae)×Unit)):=
 .ob (Eo r15.1 ((6:Int),()) r15.2.1) fun r19=>
 Z9 r19 r18 a0 a2 r15 a1 r1
def Aab (a2:Aa) (r15:Af×YBs×YI) (r18:Ae) (a0:Ab) (a1:YI) (r1:Ab):Tree (Ab×((List Aa)×Unit)×((List Ae)×Unit)):=
 letI u1:=a2.2.2.2;letI u2:=r15.1.2.2;letI u3:=u2.2.2.2;letI u4:=u3.2.2.2;letI u5:=u4.2.2.2;.br (a2.1==(5:Int)) (
 Aaa r15 r18 a0 a2 a1 r1) (
 .leaf ((r1.1,r1.2.1,r1.2.2.1,r1.2.2.2.1,(3:Int),r1.2.2.2.2.2.1,(0:Int),(0:Int),([]:List YB),([]:List YB),(0:Int),([]:List YB),([]:List YB),(0:Int),(0:Int),([]:List YB),([]:List YB),r15.1.1,r15.1.2.1,u2.1,u2.2.1,u2.2.2.1,u3.1,u3.2.1,u3.2.2.1,u4.1,u4.2.1,u4.2.2.1,u5.1,u5.2.1,u5.2.2.1,u5.2.2.2.1,false,(0:Int),(0:Int),(0:Int),false,(0:Int),(0:Int),(0:Int),a1.1,()),(([]:List Aa),()),(((((([]:List Ae)++[r18])++[((3:Int),a0.1,(0:Int),(([]:List YB)++a0.2.2.2.2.2.1),(([]:List YB)++u1.1),(0:Int),(0:Int),([]:List YB),(([]:List YB)++a0.2.2.2.2.2.2.2.2.2.2.2.2.2.2.2.2.2.2.2.2.1),(0:Int),(0:Int),(0:Int),())])++[((10:Int),(0:Int),(0:Int),([]:List YB),(([]:List YB)++u1.1),u2.1,(0:Int),([]:List YB),(([]:List YB)++u2.2.1),(0:Int),(0:Int),(0:Int),())])++[((6:Int),(0:Int),(1:Int),([]:List YB),(([]:List YB)++u1.1),u1.2.2.2.2.1,u1.2.2.2.2.2.1,(([]:List YB)++r15.2.1.1),([]:List YB),(0:Int),(0:Int),a1.1,())]),())))
def Ue (r18:Ae) (a0:Ab) (a2:Aa) (r15:Af×YBs×YI) (a1:YI) (r1:Ab):Tree (Ab×((List Aa)×Unit)×((List Ae)×Unit)):=
 letI u1:=a2.2.2.2;.chk (decide ((((([]:List Ae)++[r18])++[((3:Int),a0.1,(0:Int),(([]:List YB)++a0.2.2.2.2.2.1),(([]:List YB)++u1.1),(0:Int),(0:Int),([]:List YB),(([]:List YB)++a0.2.2.2.2.2.2.2.2.2.2.2.2.2.2.2.2.2.2.2.2.1),(0:Int),(0:Int),(0:Int),())])++[((10:Int),(0:Int),(0:Int),([]:List YB),(([]:List YB)++u1.1),r15.1.2.2.1,(0:Int),([]:List YB),(([]:List YB)++r15.1.2.2.2.1),(0:Int),(0:Int),(0:Int),())]).length+[((6:Int),(0:Int),(1:Int),([]:List YB),(([]:List YB)++u1.1),u1.2.2.2.2.1,u1.2.2.2.2.2.1,(([]:List YB)++r15.2.1.1),([]:List YB),(0:Int),(0:Int),a1.1,())].length≤4294967296)) <|
 Aab a2 r15 r18 a0 a1 r1
def Uf (r15:Af×YBs×YI) (r18:Ae) (a0:Ab) (a2:Aa) (a1:YI) (r1:Ab):Tree (Ab×((List Aa)×Unit)×((List Ae)×Unit)):=
 .chk (decide (([]:List YB).length+r15.2.1.1.length≤4294967296)) <|
 Ue r18 a0 a2 r15 a1 r1
def Ug (a2:Aa) (r15:Af×YBs×YI) (r18:Ae) (a0:Ab) (a1:YI) (r1:Ab):Tree (Ab×((List Aa)×Unit)×((List Ae)×Unit)):=
 .chk (decide (([]:List YB).length+a2.2.2.2.1.length≤4294967296)) <|
 Uf r15 r18 a0 a2 a1 r1
def Uh (r18:Ae) (a0:Ab) (a2:Aa) (r15:Af×YBs×YI) (r22:Ae) (r21:Af×Aa×YI) (r1:Ab) (a1:YI):Tree (Ab×((List Aa)×Unit)×((List Ae)×Unit)):=
 letI u1:=a0.2.2.2.2.2;letI u2:=u1.2.2.2.2.2.2.2.2.2.2.2.2.2.2.2;letI u3:=a2.2.2.2;letI u4:=r21.1.2.2.2;letI u5:=u4.2.2.2;letI u6:=u5.2.2.2.2;.chk (decide (((((([]:List Ae)++[r18])++[((3:Int),a0.1,(0:Int),(([]:List YB)++u1.1),(([]:List YB)++u3.1),(0:Int),(0:Int),([]:List YB),(([]:List YB)++u2.1),(0:Int),(0:Int),(0:Int),())])++[((10:Int),(0:Int),(0:Int),([]:List YB),(([]:List YB)++u3.1),r15.1.2.2.1,(0:Int),([]:List YB),(([]:List YB)++r15.1.2.2.2.1),(0:Int),(0:Int),(0:Int),())])++[r22]).length+[((8:Int),(0:Int),(0:Int),([]:List YB),(([]:List YB)++u3.1),r21.2.1.2.2.2.2.2.2.2.1,(0:Int),(([]:List YB)++r15.2.1.1),([]:List YB),(0:Int),(0:Int),(0:Int),())].length≤4294967296)) <|
 .leaf ((r1.1,r1.2.1,r1.2.2.1,r1.2.2.2.1,(3:Int),r1.2.2.2.2.2.1,(0:Int),(0:Int),([]:List YB),([]:List YB),(0:Int),([]:List YB),([]:List YB),(0:Int),(0:Int),([]:List YB),([]:List YB),r21.1.1,r21.1.2.1,r21.1.2.2.1,u4.1,u4.2.1,u4.2.2.1,u5.1,u5.2.1,u5.2.2.1,u5.2.2.2.1,u6.1,u6.2.1,u6.2.2.1,u6.2.2.2.1,u6.2.2.2.2.1,false,(0:Int),(0:Int),(0:Int),false,(0:Int),(0:Int),(0:Int),a1.1,()),((([]:List Aa)++[r21.2.1]),()),((((((([]:List Ae)++[r18])++[((3:Int),a0.1,(0:Int),(([]:List YB)++u1.1),(([]:List YB)++u3.1),(0:Int),(0:Int),([]:List YB),(([]:List YB)++u2.1),(0:Int),(0:Int),(0:Int),())])++[((10:Int),(0:Int),(0:Int),([]:List YB),(([]:List YB)++u3.1),r15.1.2.2.1,(0:Int),([]:List YB),(([]:List YB)++r15.1.2.2.2.1),(0:Int),(0:Int),(0:Int),())])++[r22])++[((8:Int),(0:Int),(0:Int),([]:List YB),(([]:List YB)++u3.1),r21.2.1.2.2.2.2.2.2.2.1,(0:Int),(([]:List YB)++r15.2.1.1),([]:List YB),(0:Int),(0:Int),(0:Int),())]),()))
def Ui (r15:Af×YBs×YI) (r18:Ae) (a0:Ab) (a2:Aa) (r22:Ae) (r21:Af×Aa×YI) (r1:Ab) (a1:YI):Tree (Ab×((List Aa)×Unit)×((List Ae)×Unit)):=
 .chk (decide (([]:List YB).length+r15.2.1.1.length≤4294967296)) <|
 Uh r18 a0 a2 r15 r22 r21 r1 a1
def Uj (a2:Aa) (r15:Af×YBs×YI) (r18:Ae) (a0:Ab) (r22:Ae) (r21:Af×Aa×YI) (r1:Ab) (a1:YI):Tree (Ab×((List Aa)×Unit)×((List Ae)×Unit)):=
 .chk (decide (([]:List YB).length+a2.2.2.2.1.length≤4294967296)) <|
 Ui r15 r18 a0 a2 r22 r21 r1 a1
def Uk (r18:Ae) (a0:Ab) (a2:Aa) (r15:Af×YBs×YI) (r22:Ae) (r21:Af×Aa×YI) (r1:Ab) (a1:YI):Tree (Ab×((List Aa)×Unit)×((List Ae)×Unit)):=
 .chk (decide ((((([]:List Ae)++[r18])++[((3:Int),a0.1,(0:Int),(([]:List YB)++a0.2.2.2.2.2.1),(([]:List YB)++a2.2.2.2.1),(0:Int),(0:Int),([]:List YB),(([]:List YB)++a0.2.2.2.2.2.2.2.2.2.2.2.2.2.2.2.2.2.2.2.2.1),(0:Int),(0:Int),(0:Int),())])++[((10:Int),(0:Int),(0:Int),([]:List YB),(([]:List YB)++a2.2.2.2.1),r15.1.2.2.1,(0:Int),([]:List YB),(([]:List YB)++r15.1.2.2.2.1),(0:Int),(0:Int),(0:Int),())]).length+[r22].length≤4294967296)) <|
 Uj a2 r15 r18 a0 r22 r21 r1 a1
def Ul (r21:Af×Aa×YI) (r18:Ae) (a0:Ab) (a2:Aa) (r15:Af×YBs×YI) (r1:Ab) (a1:YI):Tree (Ab×((List Aa)×Unit)×((List Ae)×Unit)):=
 .ob (E7 r21.1 r21.2.1) fun r22=>
 Uk r18 a0 a2 r15 r22 r21 r1 a1
def Um (r21:Af×Aa×YI) (r18:Ae) (a0:Ab) (a2:Aa) (r15:Af×YBs×YI) (r1:Ab) (a1:YI):Tree (Ab×((List Aa)×Unit)×((List Ae)×Unit)):=
 .chk (decide (([]:List Aa).length+[r21.2.1].length≤4294967296)) <|
 Ul r21 r18 a0 a2 r15 r1 a1
def Un (r21:Af×Aa×YI) (r18:Ae) (a0:Ab) (a2:Aa) (r15:Af×YBs×YI) (r1:Ab) (a1:YI):Tree (Ab×((List Aa)×Unit)×((List Ae)×Unit)):=
 letI u1:=r15.1.2.2;letI u2:=u1.2.2.2;letI u3:=u2.2.2.2;letI u4:=u3.2.2.2;.br (r21.2.2.1==(0:Int)) (
 Um r21 r18 a0 a2 r15 r1 a1) (
 .leaf ((r1.1,r1.2.1,r1.2.2.1,r1.2.2.2.1,(3:Int),r1.2.2.2.2.2.1,(0:Int),(0:Int),([]:List YB),([]:List YB),(0:Int),([]:List YB),([]:List YB),(0:Int),(0:Int),([]:List YB),([]:List YB),r15.1.1,r15.1.2.1,u1.1,u1.2.1,u1.2.2.1,u2.1,u2.2.1,u2.2.2.1,u3.1,u3.2.1,u3.2.2.1,u4.1,u4.2.1,u4.2.2.1,u4.2.2.2.1,false,(0:Int),(0:Int),(0:Int),false,(0:Int),(0:Int),(0:Int),a1.1,()),(([]:List Aa),()),((((([]:List Ae)++[r18])++[((3:Int),a0.1,(0:Int),(([]:List YB)++a0.2.2.2.2.2.1),(([]:List YB)++a2.2.2.2.1),(0:Int),(0:Int),([]:List YB),(([]:List YB)++a0.2.2.2.2.2.2.2.2.2.2.2.2.2.2.2.2.2.2.2.2.1),(0:Int),(0:Int),(0:Int),())])++[((10:Int),(0:Int),(0:Int),([]:List YB),(([]:List YB)++a2.2.2.2.1),u1.1,(0:Int),([]:List YB),(([]:List YB)++u1.2.1),(0:Int),(0:Int),(0:Int),())]),())))
def Uo (r15:Af×YBs×YI) (r18:Ae) (a0:Ab) (a2:Aa) (r1:Ab) (a1:YI):Tree (Ab×((List Aa)×Unit)×((List Ae)×Unit)):=
 .ob (Eo r15.1 ((6:Int),()) r15.2.1) fun r21=>
 Un r21 r18 a0 a2 r15 r1 a1
def Up (a2:Aa) (r15:Af×YBs×YI) (r18:Ae) (a0:Ab) (r1:Ab) (a1:YI):Tree (Ab×((List Aa)×Unit)×((List Ae)×Unit)):=
 letI u1:=r15.1.2.2;letI u2:=u1.2.2.2;letI u3:=u2.2.2.2;letI u4:=u3.2.2.2;.br (a2.1==(5:Int)) (
 Uo r15 r18 a0 a2 r1 a1) (
 .leaf ((r1.1,r1.2.1,r1.2.2.1,r1.2.2.2.1,(3:Int),r1.2.2.2.2.2.1,(0:Int),(0:Int),([]:List YB),([]:List YB),(0:Int),([]:List YB),([]:List YB),(0:Int),(0:Int),([]:List YB),([]:List YB),r15.1.1,r15.1.2.1,u1.1,u1.2.1,u1.2.2.1,u2.1,u2.2.1,u2.2.2.1,u3.1,u3.2.1,u3.2.2.1,u4.1,u4.2.1,u4.2.2.1,u4.2.2.2.1,false,(0:Int),(0:Int),(0:Int),false,(0:Int),(0:Int),(0:Int),a1.1,()),(([]:List Aa),()),((((([]:List Ae)++[r18])++[((3:Int),a0.1,(0:Int),(([]:List YB)++a0.2.2.2.2.2.1),(([]:List YB)++a2.2.2.2.1),(0:Int),(0:Int),([]:List YB),(([]:List YB)++a0.2.2.2.2.2.2.2.2.2.2.2.2.2.2.2.2.2.2.2.2.1),(0:Int),(0:Int),(0:Int),())])++[((10:Int),(0:Int),(0:Int),([]:List YB),(([]:List YB)++a2.2.2.2.1),u1.1,(0:Int),([]:List YB),(([]:List YB)++u1.2.1),(0:Int),(0:Int),(0:Int),())]),())))
def Uq (a2:Aa) (r15:Af×YBs×YI) (r18:Ae) (a0:Ab) (a1:YI) (r1:Ab):Tree (Ab×((List Aa)×Unit)×((List Ae)×Unit)):=
 .br (a2.1==(4:Int)) (
 Ug a2 r15 r18 a0 a1 r1) (
 Up a2 r15 r18 a0 r1 a1)
def Ur (r18:Ae) (a0:Ab) (a2:Aa) (r15:Af×YBs×YI) (a1:YI) (r1:Ab):Tree (Ab×((List Aa)×Unit)×((List Ae)×Unit)):=
 .chk (decide (((([]:List Ae)++[r18])++[((3:Int),a0.1,(0:Int),(([]:List YB)++a0.2.2.2.2.2.1),(([]:List YB)++a2.2.2.2.1),(0:Int),(0:Int),([]:List YB),(([]:List YB)++a0.2.2.2.2.2.2.2.2.2.2.2.2.2.2.2.2.2.2.2.2.1),(0:Int),(0:Int),(0:Int),())]).length+[((10:Int),(0:Int),(0:Int),([]:List YB),(([]:List YB)++a2.2.2.2.1),r15.1.2.2.1,(0:Int),([]:List YB),(([]:List YB)++r15.1.2.2.2.1),(0:Int),(0:Int),(0:Int),())].length≤4294967296)) <|
 Uq a2 r15 r18 a0 a1 r1
def Us (r15:Af×YBs×YI) (r18:Ae) (a0:Ab) (a2:Aa) (a1:YI) (r1:Ab):Tree (Ab×((List Aa)×Unit)×((List Ae)×Unit)):=
 .chk (decide (([]:List YB).length+r15.1.2.2.2.1.length≤4294967296)) <|
 Ur r18 a0 a2 r15 a1 r1
def Ut (a2:Aa) (r15:Af×YBs×YI) (r18:Ae) (a0:Ab) (a1:YI) (r1:Ab):Tree (Ab×((List Aa)×Unit)×((List Ae)×Unit)):=
 .chk (decide (([]:List YB).length+a2.2.2.2.1.length≤4294967296)) <|
 Us r15 r18 a0 a2 a1 r1
def Uu (r18:Ae) (a0:Ab) (a2:Aa) (r15:Af×YBs×YI) (a1:YI) (r24:Ae) (r23:Af×Aa×YI) (r1:Ab):Tree (Ab×((List Aa)×Unit)×((List Ae)×Unit)):=
 letI u1:=a0.2.2.2.2.2;letI u2:=u1.2.2.2.2.2.2.2.2.2.2.2.2.2.2.2;letI u3:=a2.2.2.2;letI u4:=u3.2.2.2.2;letI u5:=r23.1.2.2.2;letI u6:=u5.2.2.2;letI u7:=u6.2.2.2.2;letI u8:=r1.2.2;letI u9:=u8.2.2.2.2.2.2.2.2.2.2.2.2.2.2.2.2.2.2.2.2.2.2.2.2.2.2.2.2.2.2.2.2.2.2;.chk (decide (((((([]:List Ae)++[r18])++[((3:Int),a0.1,(0:Int),(([]:List YB)++u1.1),(([]:List YB)++u3.1),(0:Int),(0:Int),([]:List YB),(([]:List YB)++u2.1),(0:Int),(0:Int),(0:Int),())])++[((6:Int),(0:Int),(1:Int),([]:List YB),(([]:List YB)++u3.1),u4.1,u4.2.1,(([]:List YB)++r15.2.1.1),([]:List YB),(0:Int),(0:Int),a1.1,())])++[r24]).length+[((8:Int),(0:Int),(0:Int),([]:List YB),(([]:List YB)++u3.1),r23.2.1.2.2.2.2.2.2.2.1,(0:Int),(([]:List YB)++r15.2.1.1),([]:List YB),(0:Int),(0:Int),(0:Int),())].length≤4294967296)) <|
 .leaf ((r1.1,r1.2.1,u8.1,u8.2.1,(3:Int),u8.2.2.2.1,(0:Int),(0:Int),([]:List YB),([]:List YB),(0:Int),([]:List YB),([]:List YB),(0:Int),(0:Int),([]:List YB),([]:List YB),r23.1.1,r23.1.2.1,r23.1.2.2.1,u5.1,u5.2.1,u5.2.2.1,u6.1,u6.2.1,u6.2.2.1,u6.2.2.2.1,u7.1,u7.2.1,u7.2.2.1,u7.2.2.2.1,u7.2.2.2.2.1,false,(0:Int),(0:Int),(0:Int),u9.1,u9.2.1,u9.2.2.1,u9.2.2.2.1,a1.1,()),((([]:List Aa)++[r23.2.1]),()),((((((([]:List Ae)++[r18])++[((3:Int),a0.1,(0:Int),(([]:List YB)++u1.1),(([]:List YB)++u3.1),(0:Int),(0:Int),([]:List YB),(([]:List YB)++u2.1),(0:Int),(0:Int),(0:Int),())])++[((6:Int),(0:Int),(1:Int),([]:List YB),(([]:List YB)++u3.1),u4.1,u4.2.1,(([]:List YB)++r15.2.1.1),([]:List YB),(0:Int),(0:Int),a1.1,())])++[r24])++[((8:Int),(0:Int),(0:Int),([]:List YB),(([]:List YB)++u3.1),r23.2.1.2.2.2.2.2.2.2.1,(0:Int),(([]:List YB)++r15.2.1.1),([]:List YB),(0:Int),(0:Int),(0:Int),())]),()))
def Uv (r15:Af×YBs×YI) (r18:Ae) (a0:Ab) (a2:Aa) (a1:YI) (r24:Ae) (r23:Af×Aa×YI) (r1:Ab):Tree (Ab×((List Aa)×Unit)×((List Ae)×Unit)):=
 .chk (decide (([]:List YB).length+r15.2.1.1.length≤4294967296)) <|
 Uu r18 a0 a2 r15 a1 r24 r23 r1
def Uw (a2:Aa) (r15:Af×YBs×YI) (r18:Ae) (a0:Ab) (a1:YI) (r24:Ae) (r23:Af×Aa×YI) (r1:Ab):Tree (Ab×((List Aa)×Unit)×((List Ae)×Unit)):=
 .chk (decide (([]:List YB).length+a2.2.2.2.1.length≤4294967296)) <|
 Uv r15 r18 a0 a2 a1 r24 r23 r1
def Ux (r18:Ae) (a0:Ab) (a2:Aa) (r15:Af×YBs×YI) (a1:YI) (r24:Ae) (r23:Af×Aa×YI) (r1:Ab):Tree (Ab×((List Aa)×Unit)×((List Ae)×Unit)):=
 letI u1:=a2.2.2.2;.chk (decide ((((([]:List Ae)++[r18])++[((3:Int),a0.1,(0:Int),(([]:List YB)++a0.2.2.2.2.2.1),(([]:List YB)++u1.1),(0:Int),(0:Int),([]:List YB),(([]:List YB)++a0.2.2.2.2.2.2.2.2.2.2.2.2.2.2.2.2.2.2.2.2.1),(0:Int),(0:Int),(0:Int),())])++[((6:Int),(0:Int),(1:Int),([]:List YB),(([]:List YB)++u1.1),u1.2.2.2.2.1,u1.2.2.2.2.2.1,(([]:List YB)++r15.2.1.1),([]:List YB),(0:Int),(0:Int),a1.1,())]).length+[r24].length≤4294967296)) <|
 Uw a2 r15 r18 a0 a1 r24 r23 r1
def Uy (r23:Af×Aa×YI) (r18:Ae) (a0:Ab) (a2:Aa) (r15:Af×YBs×YI) (a1:YI) (r1:Ab):Tree (Ab×((List Aa)×Unit)×((List Ae)×Unit)):=
 .ob (E7 r23.1 r23.2.1) fun r24=>
 Ux r18 a0 a2 r15 a1 r24 r23 r1
def Uz (r23:Af×Aa×YI) (r18:Ae) (a0:Ab) (a2:Aa) (r15:Af×YBs×YI) (a1:YI) (r1:Ab):Tree (Ab×((List Aa)×Unit)×((List Ae)×Unit)):=
 .chk (decide (([]:List Aa).length+[r23.2.1].length≤4294967296)) <|
 Uy r23 r18 a0 a2 r15 a1 r1
def U0 (r23:Af×Aa×YI) (r18:Ae) (a0:Ab) (a2:Aa) (r15:Af×YBs×YI) (a1:YI) (r1:Ab):Tree (Ab×((List Aa)×Unit)×((List Ae)×Unit)):=
 letI u1:=a2.2.2.2;letI u2:=r15.1.2.2.2;letI u3:=u2.2.2.2;letI u4:=u3.2.2.2.2;letI u5:=r1.2.2;letI u6:=u5.2.2.2.2.2.2.2.2.2.2.2.2.2.2.2.2.2.2.2.2.2.2.2.2.2.2.2.2.2.2.2.2.2.2;.br (r23.2.2.1==(0:Int)) (
 Uz r23 r18 a0 a2 r15 a1 r1) (
 .leaf ((r1.1,r1.2.1,u5.1,u5.2.1,(3:Int),u5.2.2.2.1,(0:Int),(0:Int),([]:List YB),([]:List YB),(0:Int),([]:List YB),([]:List YB),(0:Int),(0:Int),([]:List YB),([]:List YB),r15.1.1,r15.1.2.1,r15.1.2.2.1,u2.1,u2.2.1,u2.2.2.1,u3.1,u3.2.1,u3.2.2.1,u3.2.2.2.1,u4.1,u4.2.1,u4.2.2.1,u4.2.2.2.1,u4.2.2.2.2.1,false,(0:Int),(0:Int),(0:Int),u6.1,u6.2.1,u6.2.2.1,u6.2.2.2.1,a1.1,()),(([]:List Aa),()),((((([]:List Ae)++[r18])++[((3:Int),a0.1,(0:Int),(([]:List YB)++a0.2.2.2.2.2.1),(([]:List YB)++u1.1),(0:Int),(0:Int),([]:List YB),(([]:List YB)++a0.2.2.2.2.2.2.2.2.2.2.2.2.2.2.2.2.2.2.2.2.1),(0:Int),(0:Int),(0:Int),())])++[((6:Int),(0:Int),(1:Int),([]:List YB),(([]:List YB)++u1.1),u1.2.2.2.2.1,u1.2.2.2.2.2.1,(([]:List YB)++r15.2.1.1),([]:List YB),(0:Int),(0:Int),a1.1,())]),())))
def U1 (r15:Af×YBs×YI) (r18:Ae) (a0:Ab) (a2:Aa) (a1:YI) (r1:Ab):Tree (Ab×((List Aa)×Unit)×((List Ae)×Unit)):=
 .ob (Eo r15.1 ((6:Int),()) r15.2.1) fun r23=>
 U0 r23 r18 a0 a2 r15 a1 r1
def U2 (a2:Aa) (r15:Af×YBs×YI) (r18:Ae) (a0:Ab) (a1:YI) (r1:Ab):Tree (Ab×((List Aa)×Unit)×((List Ae)×Unit)):=
 letI u1:=a2.2.2.2;letI u2:=r15.1.2.2.2;letI u3:=u2.2.2.2;letI u4:=u3.2.2.2.2;letI u5:=r1.2.2;letI u6:=u5.2.2.2.2.2.2.2.2.2.2.2.2.2.2.2.2.2.2.2.2.2.2.2.2.2.2.2.2.2.2.2.2.2.2;.br (a2.1==(5:Int)) (
 U1 r15 r18 a0 a2 a1 r1) (
 .leaf ((r1.1,r1.2.1,u5.1,u5.2.1,(3:Int),u5.2.2.2.1,(0:Int),(0:Int),([]:List YB),([]:List YB),(0:Int),([]:List YB),([]:List YB),(0:Int),(0:Int),([]:List YB),([]:List YB),r15.1.1,r15.1.2.1,r15.1.2.2.1,u2.1,u2.2.1,u2.2.2.1,u3.1,u3.2.1,u3.2.2.1,u3.2.2.2.1,u4.1,u4.2.1,u4.2.2.1,u4.2.2.2.1,u4.2.2.2.2.1,false,(0:Int),(0:Int),(0:Int),u6.1,u6.2.1,u6.2.2.1,u6.2.2.2.1,a1.1,()),(([]:List Aa),()),((((([]:List Ae)++[r18])++[((3:Int),a0.1,(0:Int),(([]:List YB)++a0.2.2.2.2.2.1),(([]:List YB)++u1.1),(0:Int),(0:Int),([]:List YB),(([]:List YB)++a0.2.2.2.2.2.2.2.2.2.2.2.2.2.2.2.2.2.2.2.2.1),(0:Int),(0:Int),(0:Int),())])++[((6:Int),(0:Int),(1:Int),([]:List YB),(([]:List YB)++u1.1),u1.2.2.2.2.1,u1.2.2.2.2.2.1,(([]:List YB)++r15.2.1.1),([]:List YB),(0:Int),(0:Int),a1.1,())]),())))
def U3 (r18:Ae) (a0:Ab) (a2:Aa) (r15:Af×YBs×YI) (a1:YI) (r1:Ab):Tree (Ab×((List Aa)×Unit)×((List Ae)×Unit)):=
 letI u1:=a2.2.2.2;.chk (decide (((([]:List Ae)++[r18])++[((3:Int),a0.1,(0:Int),(([]:List YB)++a0.2.2.2.2.2.1),(([]:List YB)++u1.1),(0:Int),(0:Int),([]:List YB),(([]:List YB)++a0.2.2.2.2.2.2.2.2.2.2.2.2.2.2.2.2.2.2.2.2.1),(0:Int),(0:Int),(0:Int),())]).length+[((6:Int),(0:Int),(1:Int),([]:List YB),(([]:List YB)++u1.1),u1.2.2.2.2.1,u1.2.2.2.2.2.1,(([]:List YB)++r15.2.1.1),([]:List YB),(0:Int),(0:Int),a1.1,())].length≤4294967296)) <|
 U2 a2 r15 r18 a0 a1 r1
def U4 (r15:Af×YBs×YI) (r18:Ae) (a0:Ab) (a2:Aa) (a1:YI) (r1:Ab):Tree (Ab×((List Aa)×Unit)×((List Ae)×Unit)):=
 .chk (decide (([]:List YB).length+r15.2.1.1.length≤4294967296)) <|
 U3 r18 a0 a2 r15 a1 r1
def U5 (a2:Aa) (r15:Af×YBs×YI) (r18:Ae) (a0:Ab) (a1:YI) (r1:Ab):Tree (Ab×((List Aa)×Unit)×((List Ae)×Unit)):=
 .chk (decide (([]:List YB).length+a2.2.2.2.1.length≤4294967296)) <|
 U4 r15 r18 a0 a2 a1 r1
def U6 (r18:Ae) (a0:Ab) (a2:Aa) (r26:Ae) (r25:Af×Aa×YI) (r15:Af×YBs×YI) (r1:Ab) (a1:YI):Tree (Ab×((List Aa)×Unit)×((List Ae)×Unit)):=
 letI u1:=a0.2.2.2.2.2;letI u2:=u1.2.2.2.2.2.2.2.2.2.2.2.2.2.2.2;letI u3:=a2.2.2.2;letI u4:=r25.1.2.2.2;letI u5:=u4.2.2.2;letI u6:=u5.2.2.2.2;letI u7:=r1.2.2;letI u8:=u7.2.2.2.2.2.2.2.2.2.2.2.2.2.2.2.2.2.2.2.2.2.2.2.2.2.2.2.2.2.2.2.2.2.2;.chk (decide ((((([]:List Ae)++[r18])++[((3:Int),a0.1,(0:Int),(([]:List YB)++u1.1),(([]:List YB)++u3.1),(0:Int),(0:Int),([]:List YB),(([]:List YB)++u2.1),(0:Int),(0:Int),(0:Int),())])++[r26]).length+[((8:Int),(0:Int),(0:Int),([]:List YB),(([]:List YB)++u3.1),r25.2.1.2.2.2.2.2.2.2.1,(0:Int),(([]:List YB)++r15.2.1.1),([]:List YB),(0:Int),(0:Int),(0:Int),())].length≤4294967296)) <|
 .leaf ((r1.1,r1.2.1,u7.1,u7.2.1,(3:Int),u7.2.2.2.1,(0:Int),(0:Int),([]:List YB),([]:List YB),(0:Int),([]:List YB),([]:List YB),(0:Int),(0:Int),([]:List YB),([]:List YB),r25.1.1,r25.1.2.1,r25.1.2.2.1,u4.1,u4.2.1,u4.2.2.1,u5.1,u5.2.1,u5.2.2.1,u5.2.2.2.1,u6.1,u6.2.1,u6.2.2.1,u6.2.2.2.1,u6.2.2.2.2.1,false,(0:Int),(0:Int),(0:Int),u8.1,u8.2.1,u8.2.2.1,u8.2.2.2.1,a1.1,()),((([]:List Aa)++[r25.2.1]),()),(((((([]:List Ae)++[r18])++[((3:Int),a0.1,(0:Int),(([]:List YB)++u1.1),(([]:List YB)++u3.1),(0:Int),(0:Int),([]:List YB),(([]:List YB)++u2.1),(0:Int),(0:Int),(0:Int),())])++[r26])++[((8:Int),(0:Int),(0:Int),([]:List YB),(([]:List YB)++u3.1),r25.2.1.2.2.2.2.2.2.2.1,(0:Int),(([]:List YB)++r15.2.1.1),([]:List YB),(0:Int),(0:Int),(0:Int),())]),()))
def U7 (r15:Af×YBs×YI) (r18:Ae) (a0:Ab) (a2:Aa) (r26:Ae) (r25:Af×Aa×YI) (r1:Ab) (a1:YI):Tree (Ab×((List Aa)×Unit)×((List Ae)×Unit)):=
 .chk (decide (([]:List YB).length+r15.2.1.1.length≤4294967296)) <|
 U6 r18 a0 a2 r26 r25 r15 r1 a1
def U8 (a2:Aa) (r15:Af×YBs×YI) (r18:Ae) (a0:Ab) (r26:Ae) (r25:Af×Aa×YI) (r1:Ab) (a1:YI):Tree (Ab×((List Aa)×Unit)×((List Ae)×Unit)):=
 .chk (decide (([]:List YB).length+a2.2.2.2.1.length≤4294967296)) <|
 U7 r15 r18 a0 a2 r26 r25 r1 a1
def U9 (r18:Ae) (a0:Ab) (a2:Aa) (r26:Ae) (r15:Af×YBs×YI) (r25:Af×Aa×YI) (r1:Ab) (a1:YI):Tree (Ab×((List Aa)×Unit)×((List Ae)×Unit)):=
 .chk (decide (((([]:List Ae)++[r18])++[((3:Int),a0.1,(0:Int),(([]:List YB)++a0.2.2.2.2.2.1),(([]:List YB)++a2.2.2.2.1),(0:Int),(0:Int),([]:List YB),(([]:List YB)++a0.2.2.2.2.2.2.2.2.2.2.2.2.2.2.2.2.2.2.2.2.1),(0:Int),(0:Int),(0:Int),())]).length+[r26].length≤4294967296)) <|
 U8 a2 r15 r18 a0 r26 r25 r1 a1
def Va (r25:Af×Aa×YI) (r18:Ae) (a0:Ab) (a2:Aa) (r15:Af×YBs×YI) (r1:Ab) (a1:YI):Tree (Ab×((List Aa)×Unit)×((List Ae)×Unit)):=
 .ob (E7 r25.1 r25.2.1) fun r26=>
 U9 r18 a0 a2 r26 r15 r25 r1 a1
def Vb (r25:Af×Aa×YI) (r18:Ae) (a0:Ab) (a2:Aa) (r15:Af×YBs×YI) (r1:Ab) (a1:YI):Tree (Ab×((List Aa)×Unit)×((List Ae)×Unit)):=
 .chk (decide (([]:List Aa).length+[r25.2.1].length≤4294967296)) <|
 Va r25 r18 a0 a2 r15 r1 a1
def Vc (r25:Af×Aa×YI) (r18:Ae) (a0:Ab) (a2:Aa) (r15:Af×YBs×YI) (r1:Ab) (a1:YI):Tree (Ab×((List Aa)×Unit)×((List Ae)×Unit)):=
 letI u1:=r15.1.2.2.2;letI u2:=u1.2.2.2;letI u3:=u2.2.2.2.2;letI u4:=r1.2.2;letI u5:=u4.2.2.2.2.2.2.2.2.2.2.2.2.2.2.2.2.2.2.2.2.2.2.2.2.2.2.2.2.2.2.2.2.2.2;.br (r25.2.2.1==(0:Int)) (
 Vb r25 r18 a0 a2 r15 r1 a1) (
 .leaf ((r1.1,r1.2.1,u4.1,u4.2.1,(3:Int),u4.2.2.2.1,(0:Int),(0:Int),([]:List YB),([]:List YB),(0:Int),([]:List YB),([]:List YB),(0:Int),(0:Int),([]:List YB),([]:List YB),r15.1.1,r15.1.2.1,r15.1.2.2.1,u1.1,u1.2.1,u1.2.2.1,u2.1,u2.2.1,u2.2.2.1,u2.2.2.2.1,u3.1,u3.2.1,u3.2.2.1,u3.2.2.2.1,u3.2.2.2.2.1,false,(0:Int),(0:Int),(0:Int),u5.1,u5.2.1,u5.2.2.1,u5.2.2.2.1,a1.1,()),(([]:List Aa),()),(((([]:List Ae)++[r18])++[((3:Int),a0.1,(0:Int),(([]:List YB)++a0.2.2.2.2.2.1),(([]:List YB)++a2.2.2.2.1),(0:Int),(0:Int),([]:List YB),(([]:List YB)++a0.2.2.2.2.2.2.2.2.2.2.2.2.2.2.2.2.2.2.2.2.1),(0:Int),(0:Int),(0:Int),())]),())))
def Vd (r15:Af×YBs×YI) (r18:Ae) (a0:Ab) (a2:Aa) (r1:Ab) (a1:YI):Tree (Ab×((List Aa)×Unit)×((List Ae)×Unit)):=
 .ob (Eo r15.1 ((6:Int),()) r15.2.1) fun r25=>
 Vc r25 r18 a0 a2 r15 r1 a1
def Ve (a2:Aa) (r15:Af×YBs×YI) (r18:Ae) (a0:Ab) (r1:Ab) (a1:YI):Tree (Ab×((List Aa)×Unit)×((List Ae)×Unit)):=
 letI u1:=r15.1.2.2.2;letI u2:=u1.2.2.2;letI u3:=u2.2.2.2.2;letI u4:=r1.2.2;letI u5:=u4.2.2.2.2.2.2.2.2.2.2.2.2.2.2.2.2.2.2.2.2.2.2.2.2.2.2.2.2.2.2.2.2.2.2;.br (a2.1==(5:Int)) (
 Vd r15 r18 a0 a2 r1 a1) (
 .leaf ((r1.1,r1.2.1,u4.1,u4.2.1,(3:Int),u4.2.2.2.1,(0:Int),(0:Int),([]:List YB),([]:List YB),(0:Int),([]:List YB),([]:List YB),(0:Int),(0:Int),([]:List YB),([]:List YB),r15.1.1,r15.1.2.1,r15.1.2.2.1,u1.1,u1.2.1,u1.2.2.1,u2.1,u2.2.1,u2.2.2.1,u2.2.2.2.1,u3.1,u3.2.1,u3.2.2.1,u3.2.2.2.1,u3.2.2.2.2.1,false,(0:Int),(0:Int),(0:Int),u5.1,u5.2.1,u5.2.2.1,u5.2.2.2.1,a1.1,()),(([]:List Aa),()),(((([]:List Ae)++[r18])++[((3:Int),a0.1,(0:Int),(([]:List YB)++a0.2.2.2.2.2.1),(([]:List YB)++a2.2.2.2.1),(0:Int),(0:Int),([]:List YB),(([]:List YB)++a0.2.2.2.2.2.2.2.2.2.2.2.2.2.2.2.2.2.2.2.2.1),(0:Int),(0:Int),(0:Int),())]),())))
def Vf (a2:Aa) (r15:Af×YBs×YI) (r18:Ae) (a0:Ab) (a1:YI) (r1:Ab):Tree (Ab×((List Aa)×Unit)×((List Ae)×Unit)):=
 .br (a2.1==(4:Int)) (
 U5 a2 r15 r18 a0 a1 r1) (
 Ve a2 r15 r18 a0 r1 a1)
def Vg (r15:Af×YBs×YI) (a0:Ab) (a2:Aa) (r18:Ae) (a1:YI) (r1:Ab):Tree (Ab×((List Aa)×Unit)×((List Ae)×Unit)):=
 .br (r15.1.2.2.1 != a0.2.2.2.2.2.2.2.2.2.2.2.2.2.2.2.2.2.2.2.1) (
 Ut a2 r15 r18 a0 a1 r1) (
 Vf a2 r15 r18 a0 a1 r1)
def Vh (r18:Ae) (a0:Ab) (a2:Aa) (r15:Af×YBs×YI) (a1:YI) (r1:Ab):Tree (Ab×((List Aa)×Unit)×((List Ae)×Unit)):=
 .chk (decide ((([]:List Ae)++[r18]).length+[((3:Int),a0.1,(0:Int),(([]:List YB)++a0.2.2.2.2.2.1),(([]:List YB)++a2.2.2.2.1),(0:Int),(0:Int),([]:List YB),(([]:List YB)++a0.2.2.2.2.2.2.2.2.2.2.2.2.2.2.2.2.2.2.2.2.1),(0:Int),(0:Int),(0:Int),())].length≤4294967296)) <|
 Vg r15 a0 a2 r18 a1 r1
def Vi (a0:Ab) (r18:Ae) (a2:Aa) (r15:Af×YBs×YI) (a1:YI) (r1:Ab):Tree (Ab×((List Aa)×Unit)×((List Ae)×Unit)):=
 .chk (decide (([]:List YB).length+a0.2.2.2.2.2.2.2.2.2.2.2.2.2.2.2.2.2.2.2.2.1.length≤4294967296)) <|
 Vh r18 a0 a2 r15 a1 r1
def Vj (a2:Aa) (a0:Ab) (r18:Ae) (r15:Af×YBs×YI) (a1:YI) (r1:Ab):Tree (Ab×((List Aa)×Unit)×((List Ae)×Unit)):=
 .chk (decide (([]:List YB).length+a2.2.2.2.1.length≤4294967296)) <|
 Vi a0 r18 a2 r15 a1 r1
def Vk (a0:Ab) (a2:Aa) (r18:Ae) (r15:Af×YBs×YI) (a1:YI) (r1:Ab):Tree (Ab×((List Aa)×Unit)×((List Ae)×Unit)):=
 .chk (decide (([]:List YB).length+a0.2.2.2.2.2.1.length≤4294967296)) <|
 Vj a2 a0 r18 r15 a1 r1
def Vl (r18:Ae) (a2:Aa) (r15:Af×YBs×YI) (a1:YI) (r28:Ae) (r27:Af×Aa×YI) (r1:Ab):Tree (Ab×((List Aa)×Unit)×((List Ae)×Unit)):=
 letI u1:=a2.2.2.2;letI u2:=u1.2.2.2.2;letI u3:=r27.1.2.2.2;letI u4:=u3.2.2.2;letI u5:=u4.2.2.2.2;letI u6:=r1.2.2.2;letI u7:=u6.2.2.2;letI u8:=u7.2.2.2;letI u9:=u8.2.2.2.2;letI u10:=u9.2.2.2.2.2.2.2.2.2.2.2.2.2.2.2.2.2.2.2;.chk (decide (((((([]:List Ae)++[r18])++[((10:Int),(0:Int),(0:Int),([]:List YB),(([]:List YB)++u1.1),r15.1.2.2.1,(0:Int),([]:List YB),(([]:List YB)++r15.1.2.2.2.1),(0:Int),(0:Int),(0:Int),())])++[((6:Int),(0:Int),(1:Int),([]:List YB),(([]:List YB)++u1.1),u2.1,u2.2.1,(([]:List YB)++r15.2.1.1),([]:List YB),(0:Int),(0:Int),a1.1,())])++[r28]).length+[((8:Int),(0:Int),(0:Int),([]:List YB),(([]:List YB)++u1.1),r27.2.1.2.2.2.2.2.2.2.1,(0:Int),(([]:List YB)++r15.2.1.1),([]:List YB),(0:Int),(0:Int),(0:Int),())].length≤4294967296)) <|
 .leaf ((r1.1,r1.2.1,r1.2.2.1,u6.1,u6.2.1,u6.2.2.1,u7.1,u7.2.1,u7.2.2.1,u8.1,u8.2.1,u8.2.2.1,u8.2.2.2.1,u9.1,u9.2.1,u9.2.2.1,u9.2.2.2.1,r27.1.1,r27.1.2.1,r27.1.2.2.1,u3.1,u3.2.1,u3.2.2.1,u4.1,u4.2.1,u4.2.2.1,u4.2.2.2.1,u5.1,u5.2.1,u5.2.2.1,u5.2.2.2.1,u5.2.2.2.2.1,u10.1,u10.2.1,u10.2.2.1,u10.2.2.2.1,false,(0:Int),(0:Int),(0:Int),a1.1,()),((([]:List Aa)++[r27.2.1]),()),((((((([]:List Ae)++[r18])++[((10:Int),(0:Int),(0:Int),([]:List YB),(([]:List YB)++u1.1),r15.1.2.2.1,(0:Int),([]:List YB),(([]:List YB)++r15.1.2.2.2.1),(0:Int),(0:Int),(0:Int),())])++[((6:Int),(0:Int),(1:Int),([]:List YB),(([]:List YB)++u1.1),u2.1,u2.2.1,(([]:List YB)++r15.2.1.1),([]:List YB),(0:Int),(0:Int),a1.1,())])++[r28])++[((8:Int),(0:Int),(0:Int),([]:List YB),(([]:List YB)++u1.1),r27.2.1.2.2.2.2.2.2.2.1,(0:Int),(([]:List YB)++r15.2.1.1),([]:List YB),(0:Int),(0:Int),(0:Int),())]),()))
def Vm (r15:Af×YBs×YI) (r18:Ae) (a2:Aa) (a1:YI) (r28:Ae) (r27:Af×Aa×YI) (r1:Ab):Tree (Ab×((List Aa)×Unit)×((List Ae)×Unit)):=
 .chk (decide (([]:List YB).length+r15.2.1.1.length≤4294967296)) <|
 Vl r18 a2 r15 a1 r28 r27 r1
def Vn (a2:Aa) (r15:Af×YBs×YI) (r18:Ae) (a1:YI) (r28:Ae) (r27:Af×Aa×YI) (r1:Ab):Tree (Ab×((List Aa)×Unit)×((List Ae)×Unit)):=
 .chk (decide (([]:List YB).length+a2.2.2.2.1.length≤4294967296)) <|
 Vm r15 r18 a2 a1 r28 r27 r1
def Vo (r18:Ae) (a2:Aa) (r15:Af×YBs×YI) (a1:YI) (r28:Ae) (r27:Af×Aa×YI) (r1:Ab):Tree (Ab×((List Aa)×Unit)×((List Ae)×Unit)):=
 letI u1:=a2.2.2.2;.chk (decide ((((([]:List Ae)++[r18])++[((10:Int),(0:Int),(0:Int),([]:List YB),(([]:List YB)++u1.1),r15.1.2.2.1,(0:Int),([]:List YB),(([]:List YB)++r15.1.2.2.2.1),(0:Int),(0:Int),(0:Int),())])++[((6:Int),(0:Int),(1:Int),([]:List YB),(([]:List YB)++u1.1),u1.2.2.2.2.1,u1.2.2.2.2.2.1,(([]:List YB)++r15.2.1.1),([]:List YB),(0:Int),(0:Int),a1.1,())]).length+[r28].length≤4294967296)) <|
 Vn a2 r15 r18 a1 r28 r27 r1
def Vp (r27:Af×Aa×YI) (r18:Ae) (a2:Aa) (r15:Af×YBs×YI) (a1:YI) (r1:Ab):Tree (Ab×((List Aa)×Unit)×((List Ae)×Unit)):=
 .ob (E7 r27.1 r27.2.1) fun r28=>
 Vo r18 a2 r15 a1 r28 r27 r1
def Vq (r27:Af×Aa×YI) (r18:Ae) (a2:Aa) (r15:Af×YBs×YI) (a1:YI) (r1:Ab):Tree (Ab×((List Aa)×Unit)×((List Ae)×Unit)):=
 .chk (decide (([]:List Aa).length+[r27.2.1].length≤4294967296)) <|
 Vp r27 r18 a2 r15 a1 r1
def Vr (r27:Af×Aa×YI) (r18:Ae) (a2:Aa) (r15:Af×YBs×YI) (a1:YI) (r1:Ab):Tree (Ab×((List Aa)×Unit)×((List Ae)×Unit)):=
 letI u1:=a2.2.2.2;letI u2:=r15.1.2.2;letI u3:=u2.2.2.2;letI u4:=u3.2.2.2;letI u5:=u4.2.2.2;letI u6:=r1.2.2.2;letI u7:=u6.2.2.2;letI u8:=u7.2.2.2;letI u9:=u8.2.2.2.2;letI u10:=u9.2.2.2.2.2.2.2.2.2.2.2.2.2.2.2.2.2.2.2;.br (r27.2.2.1==(0:Int)) (
 Vq r27 r18 a2 r15 a1 r1) (
 .leaf ((r1.1,r1.2.1,r1.2.2.1,u6.1,u6.2.1,u6.2.2.1,u7.1,u7.2.1,u7.2.2.1,u8.1,u8.2.1,u8.2.2.1,u8.2.2.2.1,u9.1,u9.2.1,u9.2.2.1,u9.2.2.2.1,r15.1.1,r15.1.2.1,u2.1,u2.2.1,u2.2.2.1,u3.1,u3.2.1,u3.2.2.1,u4.1,u4.2.1,u4.2.2.1,u5.1,u5.2.1,u5.2.2.1,u5.2.2.2.1,u10.1,u10.2.1,u10.2.2.1,u10.2.2.2.1,false,(0:Int),(0:Int),(0:Int),a1.1,()),(([]:List Aa),()),((((([]:List Ae)++[r18])++[((10:Int),(0:Int),(0:Int),([]:List YB),(([]:List YB)++u1.1),u2.1,(0:Int),([]:List YB),(([]:List YB)++u2.2.1),(0:Int),(0:Int),(0:Int),())])++[((6:Int),(0:Int),(1:Int),([]:List YB),(([]:List YB)++u1.1),u1.2.2.2.2.1,u1.2.2.2.2.2.1,(([]:List YB)++r15.2.1.1),([]:List YB),(0:Int),(0:Int),a1.1,())]),())))
def Vs (r15:Af×YBs×YI) (r18:Ae) (a2:Aa) (a1:YI) (r1:Ab):Tree (Ab×((List Aa)×Unit)×((List Ae)×Unit)):=
 .ob (Eo r15.1 ((6:Int),()) r15.2.1) fun r27=>
 Vr r27 r18 a2 r15 a1 r1
def Vt (a2:Aa) (r15:Af×YBs×YI) (r18:Ae) (a1:YI) (r1:Ab):Tree (Ab×((List Aa)×Unit)×((List Ae)×Unit)):=
 letI u1:=a2.2.2.2;letI u2:=r15.1.2.2;letI u3:=u2.2.2.2;letI u4:=u3.2.2.2;letI u5:=u4.2.2.2;letI u6:=r1.2.2.2;letI u7:=u6.2.2.2;letI u8:=u7.2.2.2;letI u9:=u8.2.2.2.2;letI u10:=u9.2.2.2.2.2.2.2.2.2.2.2.2.2.2.2.2.2.2.2;.br (a2.1==(5:Int)) (
 Vs r15 r18 a2 a1 r1) (
 .leaf ((r1.1,r1.2.1,r1.2.2.1,u6.1,u6.2.1,u6.2.2.1,u7.1,u7.2.1,u7.2.2.1,u8.1,u8.2.1,u8.2.2.1,u8.2.2.2.1,u9.1,u9.2.1,u9.2.2.1,u9.2.2.2.1,r15.1.1,r15.1.2.1,u2.1,u2.2.1,u2.2.2.1,u3.1,u3.2.1,u3.2.2.1,u4.1,u4.2.1,u4.2.2.1,u5.1,u5.2.1,u5.2.2.1,u5.2.2.2.1,u10.1,u10.2.1,u10.2.2.1,u10.2.2.2.1,false,(0:Int),(0:Int),(0:Int),a1.1,()),(([]:List Aa),()),((((([]:List Ae)++[r18])++[((10:Int),(0:Int),(0:Int),([]:List YB),(([]:List YB)++u1.1),u2.1,(0:Int),([]:List YB),(([]:List YB)++u2.2.1),(0:Int),(0:Int),(0:Int),())])++[((6:Int),(0:Int),(1:Int),([]:List YB),(([]:List YB)++u1.1),u1.2.2.2.2.1,u1.2.2.2.2.2.1,(([]:List YB)++r15.2.1.1),([]:List YB),(0:Int),(0:Int),a1.1,())]),())))
def Vu (r18:Ae) (a2:Aa) (r15:Af×YBs×YI) (a1:YI) (r1:Ab):Tree (Ab×((List Aa)×Unit)×((List Ae)×Unit)):=
 letI u1:=a2.2.2.2;.chk (decide (((([]:List Ae)++[r18])++[((10:Int),(0:Int),(0:Int),([]:List YB),(([]:List YB)++u1.1),r15.1.2.2.1,(0:Int),([]:List YB),(([]:List YB)++r15.1.2.2.2.1),(0:Int),(0:Int),(0:Int),())]).length+[((6:Int),(0:Int),(1:Int),([]:List YB),(([]:List YB)++u1.1),u1.2.2.2.2.1,u1.2.2.2.2.2.1,(([]:List YB)++r15.2.1.1),([]:List YB),(0:Int),(0:Int),a1.1,())].length≤4294967296)) <|
 Vt a2 r15 r18 a1 r1
def Vv (r15:Af×YBs×YI) (r18:Ae) (a2:Aa) (a1:YI) (r1:Ab):Tree (Ab×((List Aa)×Unit)×((List Ae)×Unit)):=
 .chk (decide (([]:List YB).length+r15.2.1.1.length≤4294967296)) <|
 Vu r18 a2 r15 a1 r1
def Vw (a2:Aa) (r15:Af×YBs×YI) (r18:Ae) (a1:YI) (r1:Ab):Tree (Ab×((List Aa)×Unit)×((List Ae)×Unit)):=
 .chk (decide (([]:List YB).length+a2.2.2.2.1.length≤4294967296)) <|
 Vv r15 r18 a2 a1 r1
def Vx (r18:Ae) (a2:Aa) (r15:Af×YBs×YI) (r30:Ae) (r29:Af×Aa×YI) (r1:Ab) (a1:YI):Tree (Ab×((List Aa)×Unit)×((List Ae)×Unit)):=
 letI u1:=a2.2.2.2;letI u2:=r29.1.2.2.2;letI u3:=u2.2.2.2;letI u4:=u3.2.2.2.2;letI u5:=r1.2.2.2;letI u6:=u5.2.2.2;letI u7:=u6.2.2.2;letI u8:=u7.2.2.2.2;letI u9:=u8.2.2.2.2.2.2.2.2.2.2.2.2.2.2.2.2.2.2.2;.chk (decide ((((([]:List Ae)++[r18])++[((10:Int),(0:Int),(0:Int),([]:List YB),(([]:List YB)++u1.1),r15.1.2.2.1,(0:Int),([]:List YB),(([]:List YB)++r15.1.2.2.2.1),(0:Int),(0:Int),(0:Int),())])++[r30]).length+[((8:Int),(0:Int),(0:Int),([]:List YB),(([]:List YB)++u1.1),r29.2.1.2.2.2.2.2.2.2.1,(0:Int),(([]:List YB)++r15.2.1.1),([]:List YB),(0:Int),(0:Int),(0:Int),())].length≤4294967296)) <|
 .leaf ((r1.1,r1.2.1,r1.2.2.1,u5.1,u5.2.1,u5.2.2.1,u6.1,u6.2.1,u6.2.2.1,u7.1,u7.2.1,u7.2.2.1,u7.2.2.2.1,u8.1,u8.2.1,u8.2.2.1,u8.2.2.2.1,r29.1.1,r29.1.2.1,r29.1.2.2.1,u2.1,u2.2.1,u2.2.2.1,u3.1,u3.2.1,u3.2.2.1,u3.2.2.2.1,u4.1,u4.2.1,u4.2.2.1,u4.2.2.2.1,u4.2.2.2.2.1,u9.1,u9.2.1,u9.2.2.1,u9.2.2.2.1,false,(0:Int),(0:Int),(0:Int),a1.1,()),((([]:List Aa)++[r29.2.1]),()),(((((([]:List Ae)++[r18])++[((10:Int),(0:Int),(0:Int),([]:List YB),(([]:List YB)++u1.1),r15.1.2.2.1,(0:Int),([]:List YB),(([]:List YB)++r15.1.2.2.2.1),(0:Int),(0:Int),(0:Int),())])++[r30])++[((8:Int),(0:Int),(0:Int),([]:List YB),(([]:List YB)++u1.1),r29.2.1.2.2.2.2.2.2.2.1,(0:Int),(([]:List YB)++r15.2.1.1),([]:List YB),(0:Int),(0:Int),(0:Int),())]),()))
def Vy (r15:Af×YBs×YI) (r18:Ae) (a2:Aa) (r30:Ae) (r29:Af×Aa×YI) (r1:Ab) (a1:YI):Tree (Ab×((List Aa)×Unit)×((List Ae)×Unit)):=
 .chk (decide (([]:List YB).length+r15.2.1.1.length≤4294967296)) <|
 Vx r18 a2 r15 r30 r29 r1 a1
def Vz (a2:Aa) (r15:Af×YBs×YI) (r18:Ae) (r30:Ae) (r29:Af×Aa×YI) (r1:Ab) (a1:YI):Tree (Ab×((List Aa)×Unit)×((List Ae)×Unit)):=
 .chk (decide (([]:List YB).length+a2.2.2.2.1.length≤4294967296)) <|
 Vy r15 r18 a2 r30 r29 r1 a1
def V0 (r18:Ae) (a2:Aa) (r15:Af×YBs×YI) (r30:Ae) (r29:Af×Aa×YI) (r1:Ab) (a1:YI):Tree (Ab×((List Aa)×Unit)×((List Ae)×Unit)):=
 .chk (decide (((([]:List Ae)++[r18])++[((10:Int),(0:Int),(0:Int),([]:List YB),(([]:List YB)++a2.2.2.2.1),r15.1.2.2.1,(0:Int),([]:List YB),(([]:List YB)++r15.1.2.2.2.1),(0:Int),(0:Int),(0:Int),())]).length+[r30].length≤4294967296)) <|
 Vz a2 r15 r18 r30 r29 r1 a1
def V2 (r29:Af×Aa×YI) (r18:Ae) (a2:Aa) (r15:Af×YBs×YI) (r1:Ab) (a1:YI):Tree (Ab×((List Aa)×Unit)×((List Ae)×Unit)):=
 .ob (E7 r29.1 r29.2.1) fun r30=>
 V0 r18 a2 r15 r30 r29 r1 a1
def V3 (r29:Af×Aa×YI) (r18:Ae) (a2:Aa) (r15:Af×YBs×YI) (r1:Ab) (a1:YI):Tree (Ab×((List Aa)×Unit)×((List Ae)×Unit)):=
 .chk (decide (([]:List Aa).length+[r29.2.1].length≤4294967296)) <|
 V2 r29 r18 a2 r15 r1 a1
def V4 (r29:Af×Aa×YI) (r18:Ae) (a2:Aa) (r15:Af×YBs×YI) (r1:Ab) (a1:YI):Tree (Ab×((List Aa)×Unit)×((List Ae)×Unit)):=
 letI u1:=r15.1.2.2;letI u2:=u1.2.2.2;letI u3:=u2.2.2.2;letI u4:=u3.2.2.2;letI u5:=r1.2.2.2;letI u6:=u5.2.2.2;letI u7:=u6.2.2.2;letI u8:=u7.2.2.2.2;letI u9:=u8.2.2.2.2.2.2.2.2.2.2.2.2.2.2.2.2.2.2.2;.br (r29.2.2.1==(0:Int)) (
 V3 r29 r18 a2 r15 r1 a1) (
 .leaf ((r1.1,r1.2.1,r1.2.2.1,u5.1,u5.2.1,u5.2.2.1,u6.1,u6.2.1,u6.2.2.1,u7.1,u7.2.1,u7.2.2.1,u7.2.2.2.1,u8.1,u8.2.1,u8.2.2.1,u8.2.2.2.1,r15.1.1,r15.1.2.1,u1.1,u1.2.1,u1.2.2.1,u2.1,u2.2.1,u2.2.2.1,u3.1,u3.2.1,u3.2.2.1,u4.1,u4.2.1,u4.2.2.1,u4.2.2.2.1,u9.1,u9.2.1,u9.2.2.1,u9.2.2.2.1,false,(0:Int),(0:Int),(0:Int),a1.1,()),(([]:List Aa),()),(((([]:List Ae)++[r18])++[((10:Int),(0:Int),(0:Int),([]:List YB),(([]:List YB)++a2.2.2.2.1),u1.1,(0:Int),([]:List YB),(([]:List YB)++u1.2.1),(0:Int),(0:Int),(0:Int),())]),())))
def V5 (r15:Af×YBs×YI) (r18:Ae) (a2:Aa) (r1:Ab) (a1:YI):Tree (Ab×((List Aa)×Unit)×((List Ae)×Unit)):=
 .ob (Eo r15.1 ((6:Int),()) r15.2.1) fun r29=>
 V4 r29 r18 a2 r15 r1 a1
def V6 (a2:Aa) (r15:Af×YBs×YI) (r18:Ae) (r1:Ab) (a1:YI):Tree (Ab×((List Aa)×Unit)×((List Ae)×Unit)):=
 letI u1:=r15.1.2.2;letI u2:=u1.2.2.2;letI u3:=u2.2.2.2;letI u4:=u3.2.2.2;letI u5:=r1.2.2.2;letI u6:=u5.2.2.2;letI u7:=u6.2.2.2;letI u8:=u7.2.2.2.2;letI u9:=u8.2.2.2.2.2.2.2.2.2.2.2.2.2.2.2.2.2.2.2;.br (a2.1==(5:Int)) (
 V5 r15 r18 a2 r1 a1) (
 .leaf ((r1.1,r1.2.1,r1.2.2.1,u5.1,u5.2.1,u5.2.2.1,u6.1,u6.2.1,u6.2.2.1,u7.1,u7.2.1,u7.2.2.1,u7.2.2.2.1,u8.1,u8.2.1,u8.2.2.1,u8.2.2.2.1,r15.1.1,r15.1.2.1,u1.1,u1.2.1,u1.2.2.1,u2.1,u2.2.1,u2.2.2.1,u3.1,u3.2.1,u3.2.2.1,u4.1,u4.2.1,u4.2.2.1,u4.2.2.2.1,u9.1,u9.2.1,u9.2.2.1,u9.2.2.2.1,false,(0:Int),(0:Int),(0:Int),a1.1,()),(([]:List Aa),()),(((([]:List Ae)++[r18])++[((10:Int),(0:Int),(0:Int),([]:List YB),(([]:List YB)++a2.2.2.2.1),u1.1,(0:Int),([]:List YB),(([]:List YB)++u1.2.1),(0:Int),(0:Int),(0:Int),())]),())))
def V7 (a2:Aa) (r15:Af×YBs×YI) (r18:Ae) (a1:YI) (r1:Ab):Tree (Ab×((List Aa)×Unit)×((List Ae)×Unit)):=
 .br (a2.1==(4:Int)) (
 Vw a2 r15 r18 a1 r1) (
 V6 a2 r15 r18 r1 a1)
def V8 (r18:Ae) (a2:Aa) (r15:Af×YBs×YI) (a1:YI) (r1:Ab):Tree (Ab×((List Aa)×Unit)×((List Ae)×Unit)):=
 .chk (decide ((([]:List Ae)++[r18]).length+[((10:Int),(0:Int),(0:Int),([]:List YB),(([]:List YB)++a2.2.2.2.1),r15.1.2.2.1,(0:Int),([]:List YB),(([]:List YB)++r15.1.2.2.2.1),(0:Int),(0:Int),(0:Int),())].length≤4294967296)) <|
 V7 a2 r15 r18 a1 r1
def V9 (r15:Af×YBs×YI) (r18:Ae) (a2:Aa) (a1:YI) (r1:Ab):Tree (Ab×((List Aa)×Unit)×((List Ae)×Unit)):=
 .chk (decide (([]:List YB).length+r15.1.2.2.2.1.length≤4294967296)) <|
 V8 r18 a2 r15 a1 r1
def Wa (a2:Aa) (r15:Af×YBs×YI) (r18:Ae) (a1:YI) (r1:Ab):Tree (Ab×((List Aa)×Unit)×((List Ae)×Unit)):=
 .chk (decide (([]:List YB).length+a2.2.2.2.1.length≤4294967296)) <|
 V9 r15 r18 a2 a1 r1
def Wb (r18:Ae) (a2:Aa) (r15:Af×YBs×YI) (a1:YI) (r32:Ae) (r31:Af×Aa×YI) (r1:Ab):Tree (Ab×((List Aa)×Unit)×((List Ae)×Unit)):=
 letI u1:=a2.2.2.2;letI u2:=u1.2.2.2.2;letI u3:=r31.1.2.2.2;letI u4:=u3.2.2.2;letI u5:=u4.2.2.2.2;letI u6:=r1.2.2.2;letI u7:=u6.2.2.2;letI u8:=u7.2.2.2;letI u9:=u8.2.2.2.2;letI u10:=u9.2.2.2.2.2.2.2.2.2.2.2.2.2.2.2.2.2.2.2;letI u11:=u10.2.2.2;.chk (decide ((((([]:List Ae)++[r18])++[((6:Int),(0:Int),(1:Int),([]:List YB),(([]:List YB)++u1.1),u2.1,u2.2.1,(([]:List YB)++r15.2.1.1),([]:List YB),(0:Int),(0:Int),a1.1,())])++[r32]).length+[((8:Int),(0:Int),(0:Int),([]:List YB),(([]:List YB)++u1.1),r31.2.1.2.2.2.2.2.2.2.1,(0:Int),(([]:List YB)++r15.2.1.1),([]:List YB),(0:Int),(0:Int),(0:Int),())].length≤4294967296)) <|
 .leaf ((r1.1,r1.2.1,r1.2.2.1,u6.1,u6.2.1,u6.2.2.1,u7.1,u7.2.1,u7.2.2.1,u8.1,u8.2.1,u8.2.2.1,u8.2.2.2.1,u9.1,u9.2.1,u9.2.2.1,u9.2.2.2.1,r31.1.1,r31.1.2.1,r31.1.2.2.1,u3.1,u3.2.1,u3.2.2.1,u4.1,u4.2.1,u4.2.2.1,u4.2.2.2.1,u5.1,u5.2.1,u5.2.2.1,u5.2.2.2.1,u5.2.2.2.2.1,u10.1,u10.2.1,u10.2.2.1,u11.1,u11.2.1,u11.2.2.1,u11.2.2.2.1,u11.2.2.2.2.1,a1.1,()),((([]:List Aa)++[r31.2.1]),()),(((((([]:List Ae)++[r18])++[((6:Int),(0:Int),(1:Int),([]:List YB),(([]:List YB)++u1.1),u2.1,u2.2.1,(([]:List YB)++r15.2.1.1),([]:List YB),(0:Int),(0:Int),a1.1,())])++[r32])++[((8:Int),(0:Int),(0:Int),([]:List YB),(([]:List YB)++u1.1),r31.2.1.2.2.2.2.2.2.2.1,(0:Int),(([]:List YB)++r15.2.1.1),([]:List YB),(0:Int),(0:Int),(0:Int),())]),()))
def Wc (r15:Af×YBs×YI) (r18:Ae) (a2:Aa) (a1:YI) (r32:Ae) (r31:Af×Aa×YI) (r1:Ab):Tree (Ab×((List Aa)×Unit)×((List Ae)×Unit)):=
 .chk (decide (([]:List YB).length+r15.2.1.1.length≤4294967296)) <|
 Wb r18 a2 r15 a1 r32 r31 r1
def Wd (a2:Aa) (r15:Af×YBs×YI) (r18:Ae) (a1:YI) (r32:Ae) (r31:Af×Aa×YI) (r1:Ab):Tree (Ab×((List Aa)×Unit)×((List Ae)×Unit)):=
 .chk (decide (([]:List YB).length+a2.2.2.2.1.length≤4294967296)) <|
 Wc r15 r18 a2 a1 r32 r31 r1
def We (r18:Ae) (a2:Aa) (r15:Af×YBs×YI) (a1:YI) (r32:Ae) (r31:Af×Aa×YI) (r1:Ab):Tree (Ab×((List Aa)×Unit)×((List Ae)×Unit)):=
 letI u1:=a2.2.2.2.2.2.2.2;.chk (decide (((([]:List Ae)++[r18])++[((6:Int),(0:Int),(1:Int),([]:List YB),(([]:List YB)++a2.2.2.2.1),u1.1,u1.2.1,(([]:List YB)++r15.2.1.1),([]:List YB),(0:Int),(0:Int),a1.1,())]).length+[r32].length≤4294967296)) <|
 Wd a2 r15 r18 a1 r32 r31 r1
def Wg (r31:Af×Aa×YI) (r18:Ae) (a2:Aa) (r15:Af×YBs×YI) (a1:YI) (r1:Ab):Tree (Ab×((List Aa)×Unit)×((List Ae)×Unit)):=
 .ob (E7 r31.1 r31.2.1) fun r32=>
 We r18 a2 r15 a1 r32 r31 r1
def Wh (r31:Af×Aa×YI) (r18:Ae) (a2:Aa) (r15:Af×YBs×YI) (a1:YI) (r1:Ab):Tree (Ab×((List Aa)×Unit)×((List Ae)×Unit)):=
 .chk (decide (([]:List Aa).length+[r31.2.1].length≤4294967296)) <|
 Wg r31 r18 a2 r15 a1 r1
def Wi (r31:Af×Aa×YI) (r18:Ae) (a2:Aa) (r15:Af×YBs×YI) (a1:YI) (r1:Ab):Tree (Ab×((List Aa)×Unit)×((List Ae)×Unit)):=
 letI u1:=a2.2.2.2.2.2.2.2;letI u2:=r15.1.2.2.2;letI u3:=u2.2.2.2;letI u4:=u3.2.2.2.2;letI u5:=r1.2.2.2;letI u6:=u5.2.2.2;letI u7:=u6.2.2.2;letI u8:=u7.2.2.2.2;letI u9:=u8.2.2.2.2.2.2.2.2.2.2.2.2.2.2.2.2.2.2.2;letI u10:=u9.2.2.2;.br (r31.2.2.1==(0:Int)) (
 Wh r31 r18 a2 r15 a1 r1) (
 .leaf ((r1.1,r1.2.1,r1.2.2.1,u5.1,u5.2.1,u5.2.2.1,u6.1,u6.2.1,u6.2.2.1,u7.1,u7.2.1,u7.2.2.1,u7.2.2.2.1,u8.1,u8.2.1,u8.2.2.1,u8.2.2.2.1,r15.1.1,r15.1.2.1,r15.1.2.2.1,u2.1,u2.2.1,u2.2.2.1,u3.1,u3.2.1,u3.2.2.1,u3.2.2.2.1,u4.1,u4.2.1,u4.2.2.1,u4.2.2.2.1,u4.2.2.2.2.1,u9.1,u9.2.1,u9.2.2.1,u10.1,u10.2.1,u10.2.2.1,u10.2.2.2.1,u10.2.2.2.2.1,a1.1,()),(([]:List Aa),()),(((([]:List Ae)++[r18])++[((6:Int),(0:Int),(1:Int),([]:List YB),(([]:List YB)++a2.2.2.2.1),u1.1,u1.2.1,(([]:List YB)++r15.2.1.1),([]:List YB),(0:Int),(0:Int),a1.1,())]),())))
def Wj (r15:Af×YBs×YI) (r18:Ae) (a2:Aa) (a1:YI) (r1:Ab):Tree (Ab×((List Aa)×Unit)×((List Ae)×Unit)):=
 .ob (Eo r15.1 ((6:Int),()) r15.2.1) fun r31=>
 Wi r31 r18 a2 r15 a1 r1
def Wk (a2:Aa) (r15:Af×YBs×YI) (r18:Ae) (a1:YI) (r1:Ab):Tree (Ab×((List Aa)×Unit)×((List Ae)×Unit)):=
 letI u1:=a2.2.2.2.2.2.2.2;letI u2:=r15.1.2.2.2;letI u3:=u2.2.2.2;letI u4:=u3.2.2.2.2;letI u5:=r1.2.2.2;letI u6:=u5.2.2.2;letI u7:=u6.2.2.2;letI u8:=u7.2.2.2.2;letI u9:=u8.2.2.2.2.2.2.2.2.2.2.2.2.2.2.2.2.2.2.2;letI u10:=u9.2.2.2;.br (a2.1==(5:Int)) (
 Wj r15 r18 a2 a1 r1) (
 .leaf ((r1.1,r1.2.1,r1.2.2.1,u5.1,u5.2.1,u5.2.2.1,u6.1,u6.2.1,u6.2.2.1,u7.1,u7.2.1,u7.2.2.1,u7.2.2.2.1,u8.1,u8.2.1,u8.2.2.1,u8.2.2.2.1,r15.1.1,r15.1.2.1,r15.1.2.2.1,u2.1,u2.2.1,u2.2.2.1,u3.1,u3.2.1,u3.2.2.1,u3.2.2.2.1,u4.1,u4.2.1,u4.2.2.1,u4.2.2.2.1,u4.2.2.2.2.1,u9.1,u9.2.1,u9.2.2.1,u10.1,u10.2.1,u10.2.2.1,u10.2.2.2.1,u10.2.2.2.2.1,a1.1,()),(([]:List Aa),()),(((([]:List Ae)++[r18])++[((6:Int),(0:Int),(1:Int),([]:List YB),(([]:List YB)++a2.2.2.2.1),u1.1,u1.2.1,(([]:List YB)++r15.2.1.1),([]:List YB),(0:Int),(0:Int),a1.1,())]),())))
def Wl (r18:Ae) (a2:Aa) (r15:Af×YBs×YI) (a1:YI) (r1:Ab):Tree (Ab×((List Aa)×Unit)×((List Ae)×Unit)):=
 letI u1:=a2.2.2.2.2.2.2.2;.chk (decide ((([]:List Ae)++[r18]).length+[((6:Int),(0:Int),(1:Int),([]:List YB),(([]:List YB)++a2.2.2.2.1),u1.1,u1.2.1,(([]:List YB)++r15.2.1.1),([]:List YB),(0:Int),(0:Int),a1.1,())].length≤4294967296)) <|
 Wk a2 r15 r18 a1 r1
def Wm (r15:Af×YBs×YI) (r18:Ae) (a2:Aa) (a1:YI) (r1:Ab):Tree (Ab×((List Aa)×Unit)×((List Ae)×Unit)):=
 .chk (decide (([]:List YB).length+r15.2.1.1.length≤4294967296)) <|
 Wl r18 a2 r15 a1 r1
def Wn (a2:Aa) (r15:Af×YBs×YI) (r18:Ae) (a1:YI) (r1:Ab):Tree (Ab×((List Aa)×Unit)×((List Ae)×Unit)):=
 .chk (decide (([]:List YB).length+a2.2.2.2.1.length≤4294967296)) <|
 Wm r15 r18 a2 a1 r1
def Wo (r18:Ae) (r34:Ae) (a2:Aa) (r33:Af×Aa×YI) (r15:Af×YBs×YI) (r1:Ab) (a1:YI):Tree (Ab×((List Aa)×Unit)×((List Ae)×Unit)):=
 letI u1:=r33.1.2.2.2;letI u2:=u1.2.2.2;letI u3:=u2.2.2.2.2;letI u4:=r1.2.2.2;letI u5:=u4.2.2.2;letI u6:=u5.2.2.2;letI u7:=u6.2.2.2.2;letI u8:=u7.2.2.2.2.2.2.2.2.2.2.2.2.2.2.2.2.2.2.2;letI u9:=u8.2.2.2;.chk (decide (((([]:List Ae)++[r18])++[r34]).length+[((8:Int),(0:Int),(0:Int),([]:List YB),(([]:List YB)++a2.2.2.2.1),r33.2.1.2.2.2.2.2.2.2.1,(0:Int),(([]:List YB)++r15.2.1.1),([]:List YB),(0:Int),(0:Int),(0:Int),())].length≤4294967296)) <|
 .leaf ((r1.1,r1.2.1,r1.2.2.1,u4.1,u4.2.1,u4.2.2.1,u5.1,u5.2.1,u5.2.2.1,u6.1,u6.2.1,u6.2.2.1,u6.2.2.2.1,u7.1,u7.2.1,u7.2.2.1,u7.2.2.2.1,r33.1.1,r33.1.2.1,r33.1.2.2.1,u1.1,u1.2.1,u1.2.2.1,u2.1,u2.2.1,u2.2.2.1,u2.2.2.2.1,u3.1,u3.2.1,u3.2.2.1,u3.2.2.2.1,u3.2.2.2.2.1,u8.1,u8.2.1,u8.2.2.1,u9.1,u9.2.1,u9.2.2.1,u9.2.2.2.1,u9.2.2.2.2.1,a1.1,()),((([]:List Aa)++[r33.2.1]),()),((((([]:List Ae)++[r18])++[r34])++[((8:Int),(0:Int),(0:Int),([]:List YB),(([]:List YB)++a2.2.2.2.1),r33.2.1.2.2.2.2.2.2.2.1,(0:Int),(([]:List YB)++r15.2.1.1),([]:List YB),(0:Int),(0:Int),(0:Int),())]),()))
def Wp (r15:Af×YBs×YI) (r18:Ae) (r34:Ae) (a2:Aa) (r33:Af×Aa×YI) (r1:Ab) (a1:YI):Tree (Ab×((List Aa)×Unit)×((List Ae)×Unit)):=
 .chk (decide (([]:List YB).length+r15.2.1.1.length≤4294967296)) <|
 Wo r18 r34 a2 r33 r15 r1 a1
def Wq (a2:Aa) (r15:Af×YBs×YI) (r18:Ae) (r34:Ae) (r33:Af×Aa×YI) (r1:Ab) (a1:YI):Tree (Ab×((List Aa)×Unit)×((List Ae)×Unit)):=
 .chk (decide (([]:List YB).length+a2.2.2.2.1.length≤4294967296)) <|
 Wp r15 r18 r34 a2 r33 r1 a1
def Wr (r18:Ae) (r34:Ae) (a2:Aa) (r15:Af×YBs×YI) (r33:Af×Aa×YI) (r1:Ab) (a1:YI):Tree (Ab×((List Aa)×Unit)×((List Ae)×Unit)):=
 .chk (decide ((([]:List Ae)++[r18]).length+[r34].length≤4294967296)) <|
 Wq a2 r15 r18 r34 r33 r1 a1
def Ws (r33:Af×Aa×YI) (r18:Ae) (a2:Aa) (r15:Af×YBs×YI) (r1:Ab) (a1:YI):Tree (Ab×((List Aa)×Unit)×((List Ae)×Unit)):=
 .ob (E7 r33.1 r33.2.1) fun r34=>
 Wr r18 r34 a2 r15 r33 r1 a1
def Wt (r33:Af×Aa×YI) (r18:Ae) (a2:Aa) (r15:Af×YBs×YI) (r1:Ab) (a1:YI):Tree (Ab×((List Aa)×Unit)×((List Ae)×Unit)):=
 .chk (decide (([]:List Aa).length+[r33.2.1].length≤4294967296)) <|
 Ws r33 r18 a2 r15 r1 a1
def Wu (r33:Af×Aa×YI) (r18:Ae) (a2:Aa) (r15:Af×YBs×YI) (r1:Ab) (a1:YI):Tree (Ab×((List Aa)×Unit)×((List Ae)×Unit)):=
 letI u1:=r15.1.2.2.2;letI u2:=u1.2.2.2;letI u3:=u2.2.2.2.2;letI u4:=r1.2.2.2;letI u5:=u4.2.2.2;letI u6:=u5.2.2.2;letI u7:=u6.2.2.2.2;letI u8:=u7.2.2.2.2.2.2.2.2.2.2.2.2.2.2.2.2.2.2.2;letI u9:=u8.2.2.2;.br (r33.2.2.1==(0:Int)) (
 Wt r33 r18 a2 r15 r1 a1) (
 .leaf ((r1.1,r1.2.1,r1.2.2.1,u4.1,u4.2.1,u4.2.2.1,u5.1,u5.2.1,u5.2.2.1,u6.1,u6.2.1,u6.2.2.1,u6.2.2.2.1,u7.1,u7.2.1,u7.2.2.1,u7.2.2.2.1,r15.1.1,r15.1.2.1,r15.1.2.2.1,u1.1,u1.2.1,u1.2.2.1,u2.1,u2.2.1,u2.2.2.1,u2.2.2.2.1,u3.1,u3.2.1,u3.2.2.1,u3.2.2.2.1,u3.2.2.2.2.1,u8.1,u8.2.1,u8.2.2.1,u9.1,u9.2.1,u9.2.2.1,u9.2.2.2.1,u9.2.2.2.2.1,a1.1,()),(([]:List Aa),()),((([]:List Ae)++[r18]),())))
def Wv (r15:Af×YBs×YI) (r18:Ae) (a2:Aa) (r1:Ab) (a1:YI):Tree (Ab×((List Aa)×Unit)×((List Ae)×Unit)):=
 .ob (Eo r15.1 ((6:Int),()) r15.2.1) fun r33=>
 Wu r33 r18 a2 r15 r1 a1
def Ww (a2:Aa) (r15:Af×YBs×YI) (r18:Ae) (r1:Ab) (a1:YI):Tree (Ab×((List Aa)×Unit)×((List Ae)×Unit)):=
 letI u1:=r15.1.2.2.2;letI u2:=u1.2.2.2;letI u3:=u2.2.2.2.2;letI u4:=r1.2.2.2;letI u5:=u4.2.2.2;letI u6:=u5.2.2.2;letI u7:=u6.2.2.2.2;letI u8:=u7.2.2.2.2.2.2.2.2.2.2.2.2.2.2.2.2.2.2.2;letI u9:=u8.2.2.2;.br (a2.1==(5:Int)) (
 Wv r15 r18 a2 r1 a1) (
 .leaf ((r1.1,r1.2.1,r1.2.2.1,u4.1,u4.2.1,u4.2.2.1,u5.1,u5.2.1,u5.2.2.1,u6.1,u6.2.1,u6.2.2.1,u6.2.2.2.1,u7.1,u7.2.1,u7.2.2.1,u7.2.2.2.1,r15.1.1,r15.1.2.1,r15.1.2.2.1,u1.1,u1.2.1,u1.2.2.1,u2.1,u2.2.1,u2.2.2.1,u2.2.2.2.1,u3.1,u3.2.1,u3.2.2.1,u3.2.2.2.1,u3.2.2.2.2.1,u8.1,u8.2.1,u8.2.2.1,u9.1,u9.2.1,u9.2.2.1,u9.2.2.2.1,u9.2.2.2.2.1,a1.1,()),(([]:List Aa),()),((([]:List Ae)++[r18]),())))
def Wx (a2:Aa) (r15:Af×YBs×YI) (r18:Ae) (a1:YI) (r1:Ab):Tree (Ab×((List Aa)×Unit)×((List Ae)×Unit)):=
 .br (a2.1==(4:Int)) (
 Wn a2 r15 r18 a1 r1) (
 Ww a2 r15 r18 r1 a1)
def Sw (r15:Af×YBs×YI) (a0:Ab) (a2:Aa) (r18:Ae) (a1:YI) (r1:Ab):Tree (Ab×((List Aa)×Unit)×((List Ae)×Unit)):=
 .br (r15.1.2.2.1 != a0.2.2.2.2.2.2.2.2.2.2.2.2.2.2.2.2.2.2.2.1) (
 Wa a2 r15 r18 a1 r1) (
 Wx a2 r15 r18 a1 r1)
def Sx (a0:Ab) (a2:Aa) (r18:Ae) (r15:Af×YBs×YI) (a1:YI) (r1:Ab):Tree (Ab×((List Aa)×Unit)×((List Ae)×Unit)):=
 .br (a0.2.2.2.2.1==(2:Int)) (
 Vk a0 a2 r18 r15 a1 r1) (
 Sw r15 a0 a2 r18 a1 r1)
def Sy (r18:Ae) (a0:Ab) (a2:Aa) (r15:Af×YBs×YI) (a1:YI) (r1:Ab):Tree (Ab×((List Aa)×Unit)×((List Ae)×Unit)):=
 .chk (decide (([]:List Ae).length+[r18].length≤4294967296)) <|
 Sx a0 a2 r18 r15 a1 r1
def Sz (r16:YBs×(Bool×Unit)) (a2:Aa) (r17:YBs) (a0:Ab) (r15:Af×YBs×YI) (a1:YI) (r1:Ab):Tree (Ab×((List Aa)×Unit)×((List Ae)×Unit)):=
 .ob (Ap3 r16.1 (a2.2.2.2.1,()) r17) fun r18=>
 Sy r18 a0 a2 r15 a1 r1
def S1 (a2:Aa) (r16:YBs×(Bool×Unit)) (a0:Ab) (r15:Af×YBs×YI) (a1:YI) (r1:Ab):Tree (Ab×((List Aa)×Unit)×((List Ae)×Unit)):=
 .ob (Hn ((1:Int),()) a2) fun r17=>
 Sz r16 a2 r17 a0 r15 a1 r1
def S2 (a0:Ab) (a2:Aa) (r15:Af×YBs×YI) (a1:YI) (r1:Ab):Tree (Ab×((List Aa)×Unit)×((List Ae)×Unit)):=
 letI u1:=a0.2.2.2.2.2.2.2.2.2.2.2.2.2.2.2.2.2;letI u2:=u1.2.2.2;letI u3:=u2.2.2.2;letI u4:=u3.2.2.2.2;.ob (Xa (u1.1,u1.2.1,u1.2.2.1,u2.1,u2.2.1,u2.2.2.1,u3.1,u3.2.1,u3.2.2.1,u3.2.2.2.1,u4.1,u4.2.1,u4.2.2.1,u4.2.2.2.1,u4.2.2.2.2.1,()) (a2.2.2.2.2.2.2.2.1,())) fun r16=>
 S1 a2 r16 a0 r15 a1 r1
def S3 (r15:Af×YBs×YI) (r1:Ab) (a0:Ab) (a2:Aa) (a1:YI):Tree (Ab×((List Aa)×Unit)×((List Ae)×Unit)):=
 .br (r15.2.2.1 != (0:Int)) (
 .leaf (r1,(([]:List Aa),()),(([]:List Ae),()))) (
 S2 a0 a2 r15 a1 r1)
def H6 (a0:Ab) (a1:YI) (a2:Aa) (r1:Ab):Tree (Ab×((List Aa)×Unit)×((List Ae)×Unit)):=
 letI u1:=a0.2.2.2.2.2.2.2.2.2.2.2.2.2.2.2.2.2;letI u2:=u1.2.2.2;letI u3:=u2.2.2.2;letI u4:=u3.2.2.2.2;.ob (Fc (u1.1,u1.2.1,u1.2.2.1,u2.1,u2.2.1,u2.2.2.1,u3.1,u3.2.1,u3.2.2.1,u3.2.2.2.1,u4.1,u4.2.1,u4.2.2.1,u4.2.2.2.1,u4.2.2.2.2.1,()) a1 a2) fun r15=>
 S3 r15 r1 a0 a2 a1
def S4 (a0:Ab) (r1:Ab) (a1:YI) (a2:Aa):Tree (Ab×((List Aa)×Unit)×((List Ae)×Unit)):=
 .br (decide (a0.2.2.2.2.1<(2:Int))) (
 .leaf (r1,(([]:List Aa),()),(([]:List Ae),()))) (
 H6 a0 a1 a2 r1)
def S5 (r14:(Bool×Unit)) (r1:Ab) (a0:Ab) (a1:YI) (a2:Aa):Tree (Ab×((List Aa)×Unit)×((List Ae)×Unit)):=
 .br (!r14.1) (
 .leaf (r1,(([]:List Aa),()),(([]:List Ae),()))) (
 S4 a0 r1 a1 a2)
def H7 (a2:Aa) (r1:Ab) (a0:Ab) (a1:YI):Tree (Ab×((List Aa)×Unit)×((List Ae)×Unit)):=
 .ob (H5 (a2.1,())) fun r14=>
 S5 r14 r1 a0 a1 a2
def Qn (a0:Ab) (a1:YI) (a2:Aa):Tree (Ab×((List Aa)×Unit)×((List Ae)×Unit)):=
 letI u1:=a0.2.2.2.2;letI u2:=a2.2.2.2;.ob (R8 a0) fun r1=>letI u3:=r1.2.2;letI u4:=u3.2.2.2.2.2.2.2.2.2.2.2.2.2.2.2.2.2.2.2.2.2.2.2.2.2.2.2.2.2.2.2.2.2.2;
 .ob (Le a0) fun r2=>
 .br (!r2.1) (
 .leaf (r1,(([]:List Aa),()),(([]:List Ae),()))) (
 .ob (Bb a1 ((0:Int),()) ((1000000:Int),())) fun r3=>
 .br (!r3.1) (
 .leaf (r1,(([]:List Aa),()),(([]:List Ae),()))) (
 .ob (Iq a2) fun r4=>
 .br (!r4.1) (
 .leaf (r1,(([]:List Aa),()),(([]:List Ae),()))) (
 .br (a2.1==(2:Int)) (
 .br (u1.1==(1:Int)) (
 .ob (Ph (a2.2.2.1,()) (u1.2.1,())) fun r5=>
 .br r5.1 (
 .ob (Z0 (a0.2.1,()) (a0.1,()) a2) fun r6=>letI u5:=r6.1.2.2;letI u6:=u5.2.2;letI u7:=u6.2.2.2;
 .ob (Z2 (a0.2.1,()) (u1.2.1,()) (u2.1,()) ((0:Int),())) fun r7=>
 .ob (Ir ((0:Int),()) (u2.1,()) r7) fun r8=>letI u8:=r8.2.2.2;letI u9:=u8.2.2.2;letI u10:=u9.2.2.2.2;
 .ob (Cn a1) fun r9=>
 .chk (decide (([]:List YB).length+a0.2.2.2.2.2.1.length≤4294967296)) <|
 .chk (decide (([]:List YB).length+a2.2.2.2.1.length≤4294967296)) <|
 .chk (decide (([]:List Ae).length+[((2:Int),a0.1,(0:Int),(([]:List YB)++u1.2.1),(([]:List YB)++u2.1),(0:Int),(0:Int),([]:List YB),([]:List YB),(0:Int),(0:Int),a1.1,())].length≤4294967296)) <|
 .ob (Nq (a0.2.1,())) fun r10=>
 .ob (Kb (r6.1.2.1,()) (u5.1,()) (u5.2.1,()) (u6.1,()) (u6.2.1,())) fun r11=>
 .ob (Ahp r10 r11) fun r12=>
 .chk (decide ((([]:List Ae)++[((2:Int),a0.1,(0:Int),(([]:List YB)++u1.2.1),(([]:List YB)++u2.1),(0:Int),(0:Int),([]:List YB),([]:List YB),(0:Int),(0:Int),a1.1,())]).length+[r12].length≤4294967296)) <|
 .ob (Pf r6.1) fun r13=>
 .chk (decide (([]:List Aa).length+[r13].length≤4294967296)) <|
 .leaf ((r1.1,r1.2.1,u3.1,u3.2.1,(2:Int),u3.2.2.2.1,r6.1.1,r6.1.2.1,u5.1,u5.2.1,u6.1,u6.2.1,u6.2.2.1,u7.1,u7.2.1,u7.2.2.1,u7.2.2.2.1,r8.1,r8.2.1,r8.2.2.1,u8.1,u8.2.1,u8.2.2.1,u9.1,u9.2.1,u9.2.2.1,u9.2.2.2.1,u10.1,u10.2.1,u10.2.2.1,u10.2.2.2.1,u10.2.2.2.2.1,r9.1,r9.2.1,r9.2.2.1,r9.2.2.2.1,u4.1,u4.2.1,u4.2.2.1,u4.2.2.2.1,u4.2.2.2.2.1,()),((([]:List Aa)++[r13]),()),(((([]:List Ae)++[((2:Int),a0.1,(0:Int),(([]:List YB)++u1.2.1),(([]:List YB)++u2.1),(0:Int),(0:Int),([]:List YB),([]:List YB),(0:Int),(0:Int),a1.1,())])++[r12]),()))) (
 H7 a2 r1 a0 a1)) (
 H7 a2 r1 a0 a1)) (
 H7 a2 r1 a0 a1))))
def Ez (a0:Ab) (a1:YI) (a2:Aa):Option (Ab×((List Aa)×Unit)×((List Ae)×Unit)):=(Qn a0 a1 a2).val
def Tt (a0:YI):Tree (YBs):=
 .ob (Bb a0 ((0:Int),()) ((4294967295:Int),())) fun r1=>
 .br (!r1.1) (
 .leaf (([]:List YB),())) (
 .ob (Fx (([]:List YB),()) a0 ((4:Int),())) fun r2=>
 .leaf r2)
def H0 (a0:YI):Option (YBs):=(Tt a0).val
def Agr (a0:A7) (a1:YI):Tree ((Bool×Unit)×A7):=
 .ob (Df a0 a1) fun r1=>
 .leaf (((r1.1.1==(0:Int)),()),(a0.1,r1.2.2.1,r1.2.2.2.1,()))
def Cg (a0:A7) (a1:YI):Option ((Bool×Unit)×A7):=(Agr a0 a1).val
def O5 (x3:(List YI)×Int×Int×(List YB)×Int×Int×Unit):Option (((List YI)×Int×Int×(List YB)×Int×Int×Unit)⊕(((List YI)×(List YB)×Int×Int×Unit))):=
 letI u1:=x3.2.2.2;Tree.val (α:=((List YI)×Int×Int×(List YB)×Int×Int×Unit)⊕(((List YI)×(List YB)×Int×Int×Unit))) <|
 .br (decide (x3.2.2.1>(0:Int))) (
 .ob (Cg (u1.1,u1.2.1,u1.2.2.1,()) ((6:Int),())) fun r4=>
 .br r4.1.1 (
 .ob (Dk (u1.1,r4.2.2.1,r4.2.2.2.1,()) ([((1:Int),()),((32:Int),()),((900:Int),()),((1023:Int),()),((1024:Int),()),((1025:Int),()),((3000:Int),())],())) fun r5=>
 .ob (Df (u1.1,r5.2.2.1,r5.2.2.2.1,()) ((40:Int),())) fun r6=>
 .ob (Dk (u1.1,r6.2.2.1,r6.2.2.2.1,()) ([((0:Int),()),((0:Int),()),((20:Int),()),((1000:Int),())],())) fun r7=>
 .chk (decide (x3.1.length+[((i64.wrap ((i64.wrap ((i64.wrap (x3.2.1+r5.1.1))+r6.1.1))-r7.1.1)),())].length≤4294967296)) <|
 .leaf (.inl ((x3.1++[((i64.wrap ((i64.wrap ((i64.wrap (x3.2.1+r5.1.1))+r6.1.1))-r7.1.1)),())]),(i64.wrap (x3.2.1+r5.1.1)),(i64.wrap (x3.2.2.1-(1:Int))),u1.1,r7.2.2.1,r7.2.2.2.1,()))) (
 .ob (Df (u1.1,r4.2.2.1,r4.2.2.2.1,()) ((40:Int),())) fun r8=>
 .ob (Dk (u1.1,r8.2.2.1,r8.2.2.2.1,()) ([((0:Int),()),((0:Int),()),((20:Int),()),((1000:Int),())],())) fun r9=>
 .chk (decide (x3.1.length+[((i64.wrap ((i64.wrap (x3.2.1+r8.1.1))-r9.1.1)),())].length≤4294967296)) <|
 .leaf (.inl ((x3.1++[((i64.wrap ((i64.wrap (x3.2.1+r8.1.1))-r9.1.1)),())]),x3.2.1,(i64.wrap (x3.2.2.1-(1:Int))),u1.1,r9.2.2.1,r9.2.2.2.1,())))) (
 .leaf (.inr (x3.1,u1.1,u1.2.1,u1.2.2.1,())))
def Ags (a0:A7) (a1:YI):Tree (((List YI)×Unit)×A7):=
 .ob (Dk a0 ([((0:Int),()),((0:Int),()),((0:Int),()),((1000:Int),()),((5000:Int),()),((281474976710000:Int),())],())) fun r1=>
 .ob (Df (a0.1,r1.2.2.1,r1.2.2.2.1,()) ((i64.wrap (a1.1+(1:Int))),())) fun r2=>
 .ob (Ay O5 (([]:List YI),r1.1.1,r2.1.1,a0.1,r2.2.2.1,r2.2.2.2.1,())) fun o10=>
 .ob (Cg (o10.2.1,o10.2.2.1,o10.2.2.2.1,()) ((5:Int),())) fun r11=>
 .br r11.1.1 (
 .ob (Dk (o10.2.1,r11.2.2.1,r11.2.2.2.1,()) ([((-1:Int),()),((281474976710655:Int),()),((281474976710656:Int),())],())) fun r12=>
 .chk (decide (o10.1.length+[r12.1].length≤4294967296)) <|
 .leaf (((o10.1++[r12.1]),()),(o10.2.1,r12.2.2.1,r12.2.2.2.1,()))) (
 .leaf ((o10.1,()),(o10.2.1,r11.2.2.1,r11.2.2.2.1,())))
def Aht (a0:A7) (a1:YI):Option (((List YI)×Unit)×A7):=(Ags a0 a1).val
def Mp (x2:(List YI)×Int×Int×(List YI)×Int×(List YI)×Unit):Option (((List YI)×Int×Int×(List YI)×Int×(List YI)×Unit)⊕((Int×(List YI)×Int×(List YI)×Unit))):=
 letI u1:=x2.2.2.2;Tree.val (α:=((List YI)×Int×Int×(List YI)×Int×(List YI)×Unit)⊕((Int×(List YI)×Int×(List YI)×Unit))) <|
 .br (decide (x2.2.1<(x2.1.length:Int))) (
 .ob (idx x2.1 x2.2.1) fun e3=>
 .ob (Pk (u1.2.1,u1.2.2.1,()) e3) fun r4=>
 .leaf (.inl (x2.1,(i64.wrap (x2.2.1+(1:Int))),x2.2.2.1,u1.1,r4.1.1,r4.1.2.1,()))) (
 .leaf (.inr (x2.2.2.1,u1.1,u1.2.1,u1.2.2.1,())))
def Abh (a0:(List YI)×Unit):Tree (Bn):=
 .ob W8 fun r1=>
 .ob (Ay Mp (a0.1,(0:Int),(0:Int),([]:List YI),r1.1,r1.2.1,())) fun o5=>
 .leaf (o5.2.2.1,o5.2.2.2.1,())
def S6 (a0:(List YI)×Unit):Option (Bn):=(Abh a0).val
def W5 (a0:A7):Tree (Bn×A7):=
 .ob (Aht a0 ((12:Int),())) fun r1=>
 .ob (S6 r1.1) fun r2=>
 .leaf (r2,(a0.1,r1.2.2.1,r1.2.2.2.1,()))
def Pm (a0:A7):Option (Bn×A7):=(W5 a0).val
def R3 (a0:A7) (a1:YI):Tree (Af×A7):=
 .ob (F6 a0 ((12:Int),())) fun r1=>
 .ob (F6 (a0.1,r1.2.2.1,r1.2.2.2.1,()) ((32:Int),())) fun r2=>
 .ob (Ir a1 r1.1 r2.1) fun r3=>letI u1:=r3.2.2.2;letI u2:=u1.2.2;letI u3:=u2.2.2;letI u4:=u3.2.2;letI u5:=u4.2.2;letI u6:=u5.2.2.2;
 .ob (Dk (a0.1,r2.2.2.1,r2.2.2.2.1,()) ([((0:Int),()),((0:Int),()),((3:Int),()),((281474976709656:Int),()),((281474976710656:Int),())],())) fun r4=>
 .ob (Cg (a0.1,r4.2.2.1,r4.2.2.2.1,()) ((3:Int),())) fun r5=>
 .br r5.1.1 (
 .ob (Pm (a0.1,r5.2.2.1,r5.2.2.2.1,())) fun r6=>
 .ob (Cg (a0.1,r6.2.2.1,r6.2.2.2.1,()) ((2:Int),())) fun r7=>letI u7:=r7.2.2;
 .br r7.1.1 (
 .ob (Dk (a0.1,u7.1,u7.2.1,()) ([((1:Int),()),((1:Int),()),((2:Int),()),((4294967295:Int),())],())) fun r8=>
 .ob (Bt (u1.1,()) ((Bq [114,101,107,101,121]),())) fun r9=>
 .ob (Ey r8.1 r9) fun r10=>letI u8:=r10.2.2;letI u9:=u8.2.2;
 .ob (Dk (a0.1,r8.2.2.1,r8.2.2.2.1,()) ([((-1:Int),()),((0:Int),()),((5:Int),()),((7:Int),()),((1000005:Int),())],())) fun r11=>letI u10:=r11.2.2;
 .br (a1.1==(0:Int)) (
 .br (decide (r11.1.1<(0:Int))) (
 .br (a1.1==(0:Int)) (
 .br (decide (r10.1<(4294967295:Int))) (
 .ob (Cg (a0.1,u10.1,u10.2.1,()) ((2:Int),())) fun r12=>
 .br r12.1.1 (
 .ob (Bt (r10.2.1,()) ((Bq [114,101,107,101,121]),())) fun r13=>
 .leaf ((r3.1,r3.2.1,r10.1,r10.2.1,u8.1,u8.2.1,u9.1,(i64.wrap (r10.1-(1:Int))),u1.1,r4.1.1,r6.1.1,r6.1.2.1,true,(5:Int),r13.1,()),(a0.1,r12.2.2.1,r12.2.2.2.1,()))) (
 .leaf ((r3.1,r3.2.1,r10.1,r10.2.1,u8.1,u8.2.1,u9.1,(i64.wrap (r10.1-(1:Int))),u1.1,r4.1.1,r6.1.1,r6.1.2.1,true,(5:Int),u6.1,()),(a0.1,r12.2.2.1,r12.2.2.2.1,())))) (
 .leaf ((r3.1,r3.2.1,r10.1,r10.2.1,u8.1,u8.2.1,u9.1,(i64.wrap (r10.1-(1:Int))),u1.1,r4.1.1,r6.1.1,r6.1.2.1,true,(5:Int),u6.1,()),(a0.1,u10.1,u10.2.1,())))) (
 .leaf ((r3.1,r3.2.1,r10.1,r10.2.1,u8.1,u8.2.1,u9.1,(i64.wrap (r10.1-(1:Int))),u1.1,r4.1.1,r6.1.1,r6.1.2.1,true,(5:Int),u6.1,()),(a0.1,u10.1,u10.2.1,())))) (
 .br (a1.1==(0:Int)) (
 .br (decide (r10.1<(4294967295:Int))) (
 .ob (Cg (a0.1,u10.1,u10.2.1,()) ((2:Int),())) fun r14=>
 .br r14.1.1 (
 .ob (Bt (r10.2.1,()) ((Bq [114,101,107,101,121]),())) fun r15=>
 .leaf ((r3.1,r3.2.1,r10.1,r10.2.1,u8.1,u8.2.1,u9.1,(i64.wrap (r10.1-(1:Int))),u1.1,r4.1.1,r6.1.1,r6.1.2.1,true,r11.1.1,r15.1,()),(a0.1,r14.2.2.1,r14.2.2.2.1,()))) (
 .leaf ((r3.1,r3.2.1,r10.1,r10.2.1,u8.1,u8.2.1,u9.1,(i64.wrap (r10.1-(1:Int))),u1.1,r4.1.1,r6.1.1,r6.1.2.1,true,r11.1.1,u6.1,()),(a0.1,r14.2.2.1,r14.2.2.2.1,())))) (
 .leaf ((r3.1,r3.2.1,r10.1,r10.2.1,u8.1,u8.2.1,u9.1,(i64.wrap (r10.1-(1:Int))),u1.1,r4.1.1,r6.1.1,r6.1.2.1,true,r11.1.1,u6.1,()),(a0.1,u10.1,u10.2.1,())))) (
 .leaf ((r3.1,r3.2.1,r10.1,r10.2.1,u8.1,u8.2.1,u9.1,(i64.wrap (r10.1-(1:Int))),u1.1,r4.1.1,r6.1.1,r6.1.2.1,true,r11.1.1,u6.1,()),(a0.1,u10.1,u10.2.1,()))))) (
 .br (a1.1==(0:Int)) (
 .br (decide (r10.1<(4294967295:Int))) (
 .ob (Cg (a0.1,u10.1,u10.2.1,()) ((2:Int),())) fun r16=>
 .br r16.1.1 (
 .ob (Bt (r10.2.1,()) ((Bq [114,101,107,101,121]),())) fun r17=>
 .leaf ((r3.1,r3.2.1,r10.1,r10.2.1,u8.1,u8.2.1,u9.1,(i64.wrap (r10.1-(1:Int))),u1.1,r4.1.1,r6.1.1,r6.1.2.1,true,r11.1.1,r17.1,()),(a0.1,r16.2.2.1,r16.2.2.2.1,()))) (
 .leaf ((r3.1,r3.2.1,r10.1,r10.2.1,u8.1,u8.2.1,u9.1,(i64.wrap (r10.1-(1:Int))),u1.1,r4.1.1,r6.1.1,r6.1.2.1,true,r11.1.1,u6.1,()),(a0.1,r16.2.2.1,r16.2.2.2.1,())))) (
 .leaf ((r3.1,r3.2.1,r10.1,r10.2.1,u8.1,u8.2.1,u9.1,(i64.wrap (r10.1-(1:Int))),u1.1,r4.1.1,r6.1.1,r6.1.2.1,true,r11.1.1,u6.1,()),(a0.1,u10.1,u10.2.1,())))) (
 .leaf ((r3.1,r3.2.1,r10.1,r10.2.1,u8.1,u8.2.1,u9.1,(i64.wrap (r10.1-(1:Int))),u1.1,r4.1.1,r6.1.1,r6.1.2.1,true,r11.1.1,u6.1,()),(a0.1,u10.1,u10.2.1,()))))) (
 .br (a1.1==(0:Int)) (
 .br (decide (r3.2.2.1<(4294967295:Int))) (
 .ob (Cg (a0.1,u7.1,u7.2.1,()) ((2:Int),())) fun r18=>
 .br r18.1.1 (
 .ob (Bt (u1.1,()) ((Bq [114,101,107,101,121]),())) fun r19=>
 .leaf ((r3.1,r3.2.1,r3.2.2.1,u1.1,r4.1.1,r6.1.1,r6.1.2.1,u3.1,u3.2.1,u4.1,u4.2.1,u5.1,u5.2.1,u5.2.2.1,r19.1,()),(a0.1,r18.2.2.1,r18.2.2.2.1,()))) (
 .leaf ((r3.1,r3.2.1,r3.2.2.1,u1.1,r4.1.1,r6.1.1,r6.1.2.1,u3.1,u3.2.1,u4.1,u4.2.1,u5.1,u5.2.1,u5.2.2.1,u6.1,()),(a0.1,r18.2.2.1,r18.2.2.2.1,())))) (
 .leaf ((r3.1,r3.2.1,r3.2.2.1,u1.1,r4.1.1,r6.1.1,r6.1.2.1,u3.1,u3.2.1,u4.1,u4.2.1,u5.1,u5.2.1,u5.2.2.1,u6.1,()),(a0.1,u7.1,u7.2.1,())))) (
 .leaf ((r3.1,r3.2.1,r3.2.2.1,u1.1,r4.1.1,r6.1.1,r6.1.2.1,u3.1,u3.2.1,u4.1,u4.2.1,u5.1,u5.2.1,u5.2.2.1,u6.1,()),(a0.1,u7.1,u7.2.1,()))))) (
 .ob (Cg (a0.1,r5.2.2.1,r5.2.2.2.1,()) ((2:Int),())) fun r20=>letI u11:=r20.2.2;
 .br r20.1.1 (
 .ob (Dk (a0.1,u11.1,u11.2.1,()) ([((1:Int),()),((1:Int),()),((2:Int),()),((4294967295:Int),())],())) fun r21=>
 .ob (Bt (u1.1,()) ((Bq [114,101,107,101,121]),())) fun r22=>
 .ob (Ey r21.1 r22) fun r23=>letI u12:=r23.2.2;letI u13:=u12.2.2;
 .ob (Dk (a0.1,r21.2.2.1,r21.2.2.2.1,()) ([((-1:Int),()),((0:Int),()),((5:Int),()),((7:Int),()),((1000005:Int),())],())) fun r24=>letI u14:=r24.2.2;
 .br (a1.1==(0:Int)) (
 .br (decide (r24.1.1<(0:Int))) (
 .br (a1.1==(0:Int)) (
 .br (decide (r23.1<(4294967295:Int))) (
 .ob (Cg (a0.1,u14.1,u14.2.1,()) ((2:Int),())) fun r25=>
 .br r25.1.1 (
 .ob (Bt (r23.2.1,()) ((Bq [114,101,107,101,121]),())) fun r26=>
 .leaf ((r3.1,r3.2.1,r23.1,r23.2.1,u12.1,u12.2.1,u13.1,(i64.wrap (r23.1-(1:Int))),u1.1,r4.1.1,u2.1,u2.2.1,true,(5:Int),r26.1,()),(a0.1,r25.2.2.1,r25.2.2.2.1,()))) (
 .leaf ((r3.1,r3.2.1,r23.1,r23.2.1,u12.1,u12.2.1,u13.1,(i64.wrap (r23.1-(1:Int))),u1.1,r4.1.1,u2.1,u2.2.1,true,(5:Int),u6.1,()),(a0.1,r25.2.2.1,r25.2.2.2.1,())))) (
 .leaf ((r3.1,r3.2.1,r23.1,r23.2.1,u12.1,u12.2.1,u13.1,(i64.wrap (r23.1-(1:Int))),u1.1,r4.1.1,u2.1,u2.2.1,true,(5:Int),u6.1,()),(a0.1,u14.1,u14.2.1,())))) (
 .leaf ((r3.1,r3.2.1,r23.1,r23.2.1,u12.1,u12.2.1,u13.1,(i64.wrap (r23.1-(1:Int))),u1.1,r4.1.1,u2.1,u2.2.1,true,(5:Int),u6.1,()),(a0.1,u14.1,u14.2.1,())))) (
 .br (a1.1==(0:Int)) (
 .br (decide (r23.1<(4294967295:Int))) (
 .ob (Cg (a0.1,u14.1,u14.2.1,()) ((2:Int),())) fun r27=>
 .br r27.1.1 (
 .ob (Bt (r23.2.1,()) ((Bq [114,101,107,101,121]),())) fun r28=>
 .leaf ((r3.1,r3.2.1,r23.1,r23.2.1,u12.1,u12.2.1,u13.1,(i64.wrap (r23.1-(1:Int))),u1.1,r4.1.1,u2.1,u2.2.1,true,r24.1.1,r28.1,()),(a0.1,r27.2.2.1,r27.2.2.2.1,()))) (
 .leaf ((r3.1,r3.2.1,r23.1,r23.2.1,u12.1,u12.2.1,u13.1,(i64.wrap (r23.1-(1:Int))),u1.1,r4.1.1,u2.1,u2.2.1,true,r24.1.1,u6.1,()),(a0.1,r27.2.2.1,r27.2.2.2.1,())))) (
 .leaf ((r3.1,r3.2.1,r23.1,r23.2.1,u12.1,u12.2.1,u13.1,(i64.wrap (r23.1-(1:Int))),u1.1,r4.1.1,u2.1,u2.2.1,true,r24.1.1,u6.1,()),(a0.1,u14.1,u14.2.1,())))) (
 .leaf ((r3.1,r3.2.1,r23.1,r23.2.1,u12.1,u12.2.1,u13.1,(i64.wrap (r23.1-(1:Int))),u1.1,r4.1.1,u2.1,u2.2.1,true,r24.1.1,u6.1,()),(a0.1,u14.1,u14.2.1,()))))) (
 .br (a1.1==(0:Int)) (
 .br (decide (r23.1<(4294967295:Int))) (
 .ob (Cg (a0.1,u14.1,u14.2.1,()) ((2:Int),())) fun r29=>
 .br r29.1.1 (
 .ob (Bt (r23.2.1,()) ((Bq [114,101,107,101,121]),())) fun r30=>
 .leaf ((r3.1,r3.2.1,r23.1,r23.2.1,u12.1,u12.2.1,u13.1,(i64.wrap (r23.1-(1:Int))),u1.1,r4.1.1,u2.1,u2.2.1,true,r24.1.1,r30.1,()),(a0.1,r29.2.2.1,r29.2.2.2.1,()))) (
 .leaf ((r3.1,r3.2.1,r23.1,r23.2.1,u12.1,u12.2.1,u13.1,(i64.wrap (r23.1-(1:Int))),u1.1,r4.1.1,u2.1,u2.2.1,true,r24.1.1,u6.1,()),(a0.1,r29.2.2.1,r29.2.2.2.1,())))) (
 .leaf ((r3.1,r3.2.1,r23.1,r23.2.1,u12.1,u12.2.1,u13.1,(i64.wrap (r23.1-(1:Int))),u1.1,r4.1.1,u2.1,u2.2.1,true,r24.1.1,u6.1,()),(a0.1,u14.1,u14.2.1,())))) (
 .leaf ((r3.1,r3.2.1,r23.1,r23.2.1,u12.1,u12.2.1,u13.1,(i64.wrap (r23.1-(1:Int))),u1.1,r4.1.1,u2.1,u2.2.1,true,r24.1.1,u6.1,()),(a0.1,u14.1,u14.2.1,()))))) (
 .br (a1.1==(0:Int)) (
 .br (decide (r3.2.2.1<(4294967295:Int))) (
 .ob (Cg (a0.1,u11.1,u11.2.1,()) ((2:Int),())) fun r31=>
 .br r31.1.1 (
 .ob (Bt (u1.1,()) ((Bq [114,101,107,101,121]),())) fun r32=>
 .leaf ((r3.1,r3.2.1,r3.2.2.1,u1.1,r4.1.1,u2.1,u2.2.1,u3.1,u3.2.1,u4.1,u4.2.1,u5.1,u5.2.1,u5.2.2.1,r32.1,()),(a0.1,r31.2.2.1,r31.2.2.2.1,()))) (
 .leaf ((r3.1,r3.2.1,r3.2.2.1,u1.1,r4.1.1,u2.1,u2.2.1,u3.1,u3.2.1,u4.1,u4.2.1,u5.1,u5.2.1,u5.2.2.1,u6.1,()),(a0.1,r31.2.2.1,r31.2.2.2.1,())))) (
 .leaf ((r3.1,r3.2.1,r3.2.2.1,u1.1,r4.1.1,u2.1,u2.2.1,u3.1,u3.2.1,u4.1,u4.2.1,u5.1,u5.2.1,u5.2.2.1,u6.1,()),(a0.1,u11.1,u11.2.1,())))) (
 .leaf ((r3.1,r3.2.1,r3.2.2.1,u1.1,r4.1.1,u2.1,u2.2.1,u3.1,u3.2.1,u4.1,u4.2.1,u5.1,u5.2.1,u5.2.2.1,u6.1,()),(a0.1,u11.1,u11.2.1,())))))
def Mx (a0:A7) (a1:YI):Option (Af×A7):=(R3 a0 a1).val
def Hw (x3:Int×(List YB)×Int×Int×Bool×Int×Int×Int×Bool×Int×Int×Int×Unit):Option ((Int×(List YB)×Int×Int×Bool×Int×Int×Int×Bool×Int×Int×Int×Unit)⊕(((List YB)×Int×Int×Bool×Int×Int×Int×Bool×Int×Int×Int×Unit))):=
 letI u1:=x3.2.2;letI u2:=u1.2.2;letI u3:=u2.2.2;letI u4:=u3.2.2.2;Tree.val (α:=(Int×(List YB)×Int×Int×Bool×Int×Int×Int×Bool×Int×Int×Int×Unit)⊕(((List YB)×Int×Int×Bool×Int×Int×Int×Bool×Int×Int×Int×Unit))) <|
 .br (decide (x3.1>(0:Int))) (
 .ob (D9 (u3.2.2.1,u4.1,u4.2.1,u4.2.2.1,()) (u4.1,())) fun r4=>
 .leaf (.inl ((i64.wrap (x3.1-(1:Int))),x3.2.1,u1.1,u1.2.1,u2.1,u2.2.1,u3.1,u3.2.1,r4.1.1,r4.1.2.1,r4.1.2.2.1,r4.1.2.2.2.1,()))) (
 .leaf (.inr (x3.2.1,u1.1,u1.2.1,u2.1,u2.2.1,u3.1,u3.2.1,u3.2.2.1,u4.1,u4.2.1,u4.2.2.1,())))
def R4 (a0:A7) (a1:YI):Tree (A9×A7):=
 .ob (Cn a1) fun r1=>
 .ob (Df a0 ((6:Int),())) fun r2=>
 .ob (Ay Hw (r2.1.1,a0.1,r2.2.2.1,r2.2.2.2.1,false,(0:Int),(0:Int),(0:Int),r1.1,r1.2.1,r1.2.2.1,r1.2.2.2.1,())) fun o5=>letI u1:=o5.2.2.2.2.2.2.2;
 .leaf ((u1.1,u1.2.1,u1.2.2.1,u1.2.2.2.1,()),(o5.1,o5.2.1,o5.2.2.1,()))
def My (a0:A7) (a1:YI):Option (A9×A7):=(R4 a0 a1).val
def Cm (x16:Int×Int×(List YB)×Int×Int×Int×(List YB)×Int×Int×Int×(List YB)×Int×Int×(List YB)×(List YB)×Int×(List YB)×(List YB)×Int×Int×(List YB)×(List YB)×Int×(List YB)×Int×(List YB)×Int×Int×(List YI)×Int×(List YB)×Int×Int×(List YI)×Bool×Int×(List YB)×Bool×Int×Int×Int×Bool×Int×Int×Int×Int×Int×(List YB)×Int×Int×Int×(List YB)×Int×Int×(List YB)×(List YB)×Int×(List YB)×(List YB)×Int×Int×(List YB)×(List YB)×Int×(List YB)×Int×(List YB)×Int×Int×(List YI)×Int×(List YB)×Int×Int×(List YI)×Bool×Int×(List YB)×Bool×Int×Int×Int×Bool×Int×Int×Int×Int×Unit):Option ((Int×Int×(List YB)×Int×Int×Int×(List YB)×Int×Int×Int×(List YB)×Int×Int×(List YB)×(List YB)×Int×(List YB)×(List YB)×Int×Int×(List YB)×(List YB)×Int×(List YB)×Int×(List YB)×Int×Int×(List YI)×Int×(List YB)×Int×Int×(List YI)×Bool×Int×(List YB)×Bool×Int×Int×Int×Bool×Int×Int×Int×Int×Int×(List YB)×Int×Int×Int×(List YB)×Int×Int×(List YB)×(List YB)×Int×(List YB)×(List YB)×Int×Int×(List YB)×(List YB)×Int×(List YB)×Int×(List YB)×Int×Int×(List YI)×Int×(List YB)×Int×Int×(List YI)×Bool×Int×(List YB)×Bool×Int×Int×Int×Bool×Int×Int×Int×Int×Unit)⊕((Int×(List YB)×Int×Int×Int×(List YB)×Int×Int×Int×(List YB)×Int×Int×(List YB)×(List YB)×Int×(List YB)×(List YB)×Int×Int×(List YB)×(List YB)×Int×(List YB)×Int×(List YB)×Int×Int×(List YI)×Int×(List YB)×Int×Int×(List YI)×Bool×Int×(List YB)×Bool×Int×Int×Int×Bool×Int×Int×Int×Int×Int×(List YB)×Int×Int×Int×(List YB)×Int×Int×(List YB)×(List YB)×Int×(List YB)×(List YB)×Int×Int×(List YB)×(List YB)×Int×(List YB)×Int×(List YB)×Int×Int×(List YI)×Int×(List YB)×Int×Int×(List YI)×Bool×Int×(List YB)×Bool×Int×Int×Int×Bool×Int×Int×Int×Int×Unit))):=
 letI u1:=x16.2.2;letI u2:=u1.2.2;letI u3:=u2.2.2;letI u4:=u3.2.2;letI u5:=u4.2.2;letI u6:=u5.2.2;letI u7:=u6.2.2;letI u8:=u7.2.2;letI u9:=u8.2.2;letI u10:=u9.2.2;letI u11:=u10.2.2;letI u12:=u11.2.2;letI u13:=u12.2.2;letI u14:=u13.2.2;letI u15:=u14.2.2;letI u16:=u15.2.2;letI u17:=u16.2.2;letI u18:=u17.2.2;letI u19:=u18.2.2;letI u20:=u19.2.2;letI u21:=u20.2.2;letI u22:=u21.2.2;letI u23:=u22.2.2;letI u24:=u23.2.2;letI u25:=u24.2.2;letI u26:=u25.2.2;letI u27:=u26.2.2;letI u28:=u27.2.2;letI u29:=u28.2.2;letI u30:=u29.2.2;letI u31:=u30.2.2;letI u32:=u31.2.2;letI u33:=u32.2.2;letI u34:=u33.2.2;letI u35:=u34.2.2;letI u36:=u35.2.2;letI u37:=u36.2.2;letI u38:=u37.2.2;letI u39:=u38.2.2.2;letI u40:=u39.2.2;letI u41:=u40.2.2.2;Tree.val (α:=(Int×Int×(List YB)×Int×Int×Int×(List YB)×Int×Int×Int×(List YB)×Int×Int×(List YB)×(List YB)×Int×(List YB)×(List YB)×Int×Int×(List YB)×(List YB)×Int×(List YB)×Int×(List YB)×Int×Int×(List YI)×Int×(List YB)×Int×Int×(List YI)×Bool×Int×(List YB)×Bool×Int×Int×Int×Bool×Int×Int×Int×Int×Int×(List YB)×Int×Int×Int×(List YB)×Int×Int×(List YB)×(List YB)×Int×(List YB)×(List YB)×Int×Int×(List YB)×(List YB)×Int×(List YB)×Int×(List YB)×Int×Int×(List YI)×Int×(List YB)×Int×Int×(List YI)×Bool×Int×(List YB)×Bool×Int×Int×Int×Bool×Int×Int×Int×Int×Unit)⊕((Int×(List YB)×Int×Int×Int×(List YB)×Int×Int×Int×(List YB)×Int×Int×(List YB)×(List YB)×Int×(List YB)×(List YB)×Int×Int×(List YB)×(List YB)×Int×(List YB)×Int×(List YB)×Int×Int×(List YI)×Int×(List YB)×Int×Int×(List YI)×Bool×Int×(List YB)×Bool×Int×Int×Int×Bool×Int×Int×Int×Int×Int×(List YB)×Int×Int×Int×(List YB)×Int×Int×(List YB)×(List YB)×Int×(List YB)×(List YB)×Int×Int×(List YB)×(List YB)×Int×(List YB)×Int×(List YB)×Int×Int×(List YI)×Int×(List YB)×Int×Int×(List YI)×Bool×Int×(List YB)×Bool×Int×Int×Int×Bool×Int×Int×Int×Int×Unit))) <|
 .br (decide (x16.2.1>(0:Int))) (
 .ob (D9 (u38.2.2.1,u39.1,u39.2.1,u40.1,()) (u39.1,())) fun r17=>
 .leaf (.inl (x16.1,(i64.wrap (x16.2.1-(1:Int))),u1.1,u1.2.1,u2.1,u2.2.1,u3.1,u3.2.1,u4.1,u4.2.1,u5.1,u5.2.1,u6.1,u6.2.1,u7.1,u7.2.1,u8.1,u8.2.1,u9.1,u9.2.1,u10.1,u10.2.1,u11.1,u11.2.1,u12.1,u12.2.1,u13.1,u13.2.1,u14.1,u14.2.1,u15.1,u15.2.1,u16.1,u16.2.1,u17.1,u17.2.1,u18.1,u18.2.1,u19.1,u19.2.1,u20.1,u20.2.1,u21.1,u21.2.1,u22.1,u22.2.1,u23.1,u23.2.1,u24.1,u24.2.1,u25.1,u25.2.1,u26.1,u26.2.1,u27.1,u27.2.1,u28.1,u28.2.1,u29.1,u29.2.1,u30.1,u30.2.1,u31.1,u31.2.1,u32.1,u32.2.1,u33.1,u33.2.1,u34.1,u34.2.1,u35.1,u35.2.1,u36.1,u36.2.1,u37.1,u37.2.1,u38.1,u38.2.1,r17.1.1,r17.1.2.1,r17.1.2.2.1,r17.1.2.2.2.1,u40.2.1,u40.2.2.1,u41.1,u41.2.1,u41.2.2.1,()))) (
 .leaf (.inr (x16.1,u1.1,u1.2.1,u2.1,u2.2.1,u3.1,u3.2.1,u4.1,u4.2.1,u5.1,u5.2.1,u6.1,u6.2.1,u7.1,u7.2.1,u8.1,u8.2.1,u9.1,u9.2.1,u10.1,u10.2.1,u11.1,u11.2.1,u12.1,u12.2.1,u13.1,u13.2.1,u14.1,u14.2.1,u15.1,u15.2.1,u16.1,u16.2.1,u17.1,u17.2.1,u18.1,u18.2.1,u19.1,u19.2.1,u20.1,u20.2.1,u21.1,u21.2.1,u22.1,u22.2.1,u23.1,u23.2.1,u24.1,u24.2.1,u25.1,u25.2.1,u26.1,u26.2.1,u27.1,u27.2.1,u28.1,u28.2.1,u29.1,u29.2.1,u30.1,u30.2.1,u31.1,u31.2.1,u32.1,u32.2.1,u33.1,u33.2.1,u34.1,u34.2.1,u35.1,u35.2.1,u36.1,u36.2.1,u37.1,u37.2.1,u38.1,u38.2.1,u38.2.2.1,u39.1,u39.2.1,u40.1,u40.2.1,u40.2.2.1,u41.1,u41.2.1,u41.2.2.1,())))
def Mq (a0:A7):Tree (Ab×A7):=
 .ob (Df a0 ((3:Int),())) fun r1=>
 .ob (Df (a0.1,r1.2.2.1,r1.2.2.2.1,()) ((32:Int),())) fun r2=>
 .ob (F6 (a0.1,r2.2.2.1,r2.2.2.2.1,()) ((i64.wrap ((1:Int)+r2.1.1)),())) fun r3=>
 .ob (Df (a0.1,r3.2.2.1,r3.2.2.2.1,()) ((5:Int),())) fun r4=>
 .ob (Zx ((i64.wrap ((1:Int)+r4.1.1)),())) fun r5=>
 .ob (Hy ((i64.wrap ((1:Int)+r1.1.1)),()) r3.1 r5) fun r6=>
 .ob (Dk (a0.1,r4.2.2.1,r4.2.2.2.1,()) ([((0:Int),()),((1:Int),()),((2:Int),()),((2:Int),()),((3:Int),()),((3:Int),()),((3:Int),()),((3:Int),())],())) fun r7=>
 .br (r7.1.1==(0:Int)) (
 .leaf (r6,(a0.1,r7.2.2.1,r7.2.2.2.1,()))) (
 .ob (Dk (a0.1,r7.2.2.1,r7.2.2.2.1,()) ([((0:Int),()),((0:Int),()),((5:Int),()),((90:Int),())],())) fun r8=>
 .ob (F6 (a0.1,r8.2.2.1,r8.2.2.2.1,()) ((12:Int),())) fun r9=>
 .ob (N0 r6 r8.1 r9.1) fun r10=>letI u1:=r10.1.2.2;letI u2:=u1.2.2.2;letI u3:=u2.2.2;letI u4:=u3.2.2;letI u5:=u4.2.2;letI u6:=u5.2.2;letI u7:=u6.2.2;letI u8:=u7.2.2;letI u9:=u8.2.2;letI u10:=u9.2.2;letI u11:=u10.2.2;letI u12:=u11.2.2;letI u13:=u12.2.2;letI u14:=u13.2.2.2;letI u15:=u14.2.2.2;letI u16:=u15.2.2.2;letI u17:=u16.2.2;
 .ob (Df (a0.1,r9.2.2.1,r9.2.2.2.1,()) ((3:Int),())) fun r11=>
 .ob (D9 (u14.2.2.1,u15.1,u15.2.1,u15.2.2.1,()) ((i64.wrap (r8.1.1+r11.1.1)),())) fun r12=>
 .br (r7.1.1==(1:Int)) (
 .leaf ((r10.1.1,r10.1.2.1,u1.1,u1.2.1,u1.2.2.1,u2.1,u2.2.1,u3.1,u3.2.1,u4.1,u4.2.1,u5.1,u5.2.1,u6.1,u6.2.1,u7.1,u7.2.1,u8.1,u8.2.1,u9.1,u9.2.1,u10.1,u10.2.1,u11.1,u11.2.1,u12.1,u12.2.1,u13.1,u13.2.1,u13.2.2.1,u14.1,u14.2.1,r12.1.1,r12.1.2.1,r12.1.2.2.1,r12.1.2.2.2.1,u16.1,u16.2.1,u17.1,u17.2.1,u17.2.2.1,()),(a0.1,r11.2.2.1,r11.2.2.2.1,()))) (
 .ob (Ka (a0.1,r11.2.2.1,r11.2.2.2.1,())) fun r13=>letI u18:=r13.1.2.2.2;letI u19:=u18.2.2.2;
 .ob (Ez (r10.1.1,r10.1.2.1,u1.1,u1.2.1,u1.2.2.1,u2.1,u2.2.1,u3.1,u3.2.1,u4.1,u4.2.1,u5.1,u5.2.1,u6.1,u6.2.1,u7.1,u7.2.1,u8.1,u8.2.1,u9.1,u9.2.1,u10.1,u10.2.1,u11.1,u11.2.1,u12.1,u12.2.1,u13.1,u13.2.1,u13.2.2.1,u14.1,u14.2.1,r12.1.1,r12.1.2.1,r12.1.2.2.1,r12.1.2.2.2.1,u16.1,u16.2.1,u17.1,u17.2.1,u17.2.2.1,()) r8.1 (r13.1.1,r13.1.2.1,u2.1,u18.1,u18.2.1,u18.2.2.1,u19.1,u19.2.1,u19.2.2.1,u19.2.2.2.1,u19.2.2.2.2.1,())) fun r14=>letI u20:=r14.1.2.2.2;letI u21:=u20.2.2.2;letI u22:=u21.2.2.2;letI u23:=u22.2.2.2;letI u24:=u23.2.2.2;letI u25:=u24.2.2.2;letI u26:=u25.2.2;letI u27:=u26.2.2.2;letI u28:=u27.2.2.2;letI u29:=u28.2.2.2;letI u30:=u29.2.2.2;letI u31:=u30.2.2.2.2;
 .br (r7.1.1==(2:Int)) (
 .ob (Df (a0.1,r13.2.2.1,r13.2.2.2.1,()) ((5:Int),())) fun r15=>
 .ob (Ay Cm (r8.1.1,r15.1.1,a0.1,r15.2.2.1,r15.2.2.2.1,(0:Int),([]:List YB),(0:Int),(0:Int),(0:Int),([]:List YB),(0:Int),(0:Int),([]:List YB),([]:List YB),(0:Int),([]:List YB),([]:List YB),(0:Int),(0:Int),([]:List YB),([]:List YB),(0:Int),([]:List YB),(0:Int),([]:List YB),(0:Int),(0:Int),([]:List YI),(0:Int),([]:List YB),(0:Int),(0:Int),([]:List YI),false,(0:Int),([]:List YB),false,(0:Int),(0:Int),(0:Int),false,(0:Int),(0:Int),(0:Int),(0:Int),r14.1.1,r14.1.2.1,r14.1.2.2.1,u20.1,u20.2.1,u20.2.2.1,u21.1,u21.2.1,u21.2.2.1,u22.1,u22.2.1,u22.2.2.1,u23.1,u23.2.1,u23.2.2.1,u24.1,u24.2.1,u24.2.2.1,u25.1,u25.2.1,u26.1,u26.2.1,u26.2.2.1,u27.1,u27.2.1,u27.2.2.1,u28.1,u28.2.1,u28.2.2.1,u29.1,u29.2.1,u29.2.2.1,u30.1,u30.2.1,u30.2.2.1,u30.2.2.2.1,u31.1,u31.2.1,u31.2.2.1,u31.2.2.2.1,u31.2.2.2.2.1,())) fun o18=>letI u32:=o18.2.2;letI u33:=u32.2.2.2.2.2.2.2.2.2.2.2.2.2.2.2.2.2.2.2.2.2.2.2.2.2.2.2.2.2.2.2.2.2.2.2.2.2.2.2.2.2.2.2;letI u34:=u33.2.2;letI u35:=u34.2.2;letI u36:=u35.2.2;letI u37:=u36.2.2;letI u38:=u37.2.2;letI u39:=u38.2.2;letI u40:=u39.2.2;letI u41:=u40.2.2;letI u42:=u41.2.2;letI u43:=u42.2.2;letI u44:=u43.2.2;letI u45:=u44.2.2;letI u46:=u45.2.2;letI u47:=u46.2.2;letI u48:=u47.2.2;letI u49:=u48.2.2;letI u50:=u49.2.2.2.2;letI u51:=u50.2.2;
 .br (!u49.1) (
 .ob (Cn (o18.1,())) fun r19=>
 .leaf ((u33.1,u33.2.1,u34.1,u34.2.1,u35.1,u35.2.1,u36.1,u36.2.1,u37.1,u37.2.1,u38.1,u38.2.1,u39.1,u39.2.1,u40.1,u40.2.1,u41.1,u41.2.1,u42.1,u42.2.1,u43.1,u43.2.1,u44.1,u44.2.1,u45.1,u45.2.1,u46.1,u46.2.1,u47.1,u47.2.1,u48.1,u48.2.1,r19.1,r19.2.1,r19.2.2.1,r19.2.2.2.1,u50.1,u50.2.1,u51.1,u51.2.1,u51.2.2.1,()),(o18.2.1,u32.1,u32.2.1,()))) (
 .leaf ((u33.1,u33.2.1,u34.1,u34.2.1,u35.1,u35.2.1,u36.1,u36.2.1,u37.1,u37.2.1,u38.1,u38.2.1,u39.1,u39.2.1,u40.1,u40.2.1,u41.1,u41.2.1,u42.1,u42.2.1,u43.1,u43.2.1,u44.1,u44.2.1,u45.1,u45.2.1,u46.1,u46.2.1,u47.1,u47.2.1,u48.1,u48.2.1,u49.1,u49.2.1,u49.2.2.1,u49.2.2.2.1,u50.1,u50.2.1,u51.1,u51.2.1,u51.2.2.1,()),(o18.2.1,u32.1,u32.2.1,())))) (
 .ob (H0 ((0:Int),())) fun r20=>
 .ob (Lf (u26.1,()) ((1:Int),()) (u25.1,()) ((0:Int),()) ((0:Int),()) ((8:Int),()) r20) fun r21=>
 .ob (Ez r14.1 r8.1 r21.1) fun r22=>letI u52:=r22.1.2.2;letI u53:=u52.2.2;letI u54:=u53.2.2;letI u55:=u54.2.2;letI u56:=u55.2.2;letI u57:=u56.2.2;letI u58:=u57.2.2;letI u59:=u58.2.2;letI u60:=u59.2.2.2.2.2.2.2.2.2.2.2.2.2.2.2.2;letI u61:=u60.2.2;letI u62:=u61.2.2.2.2;
 .ob (Cg (a0.1,r13.2.2.1,r13.2.2.2.1,()) ((2:Int),())) fun r23=>
 .br r23.1.1 (
 .ob (Mx (a0.1,r23.2.2.1,r23.2.2.2.1,()) ((0:Int),())) fun r24=>letI u63:=r24.1.2.2;letI u64:=u63.2.2;letI u65:=u64.2.2;letI u66:=u65.2.2;letI u67:=u66.2.2;letI u68:=u67.2.2;
 .br (decide ((r24.1.2.2.2.2.2.2.2.2.2.2.2.2.2.2.1.length:Int)>(0:Int))) (
 .ob (My (a0.1,r24.2.2.1,r24.2.2.2.1,()) r8.1) fun r25=>
 .br (!r25.1.1) (
 .ob (Cn r8.1) fun r26=>
 .leaf ((r22.1.1,r22.1.2.1,u52.1,u52.2.1,u53.1,u53.2.1,u54.1,u54.2.1,u55.1,u55.2.1,u56.1,u56.2.1,u57.1,u57.2.1,u58.1,u58.2.1,u59.1,r24.1.1,r24.1.2.1,u63.1,u63.2.1,u64.1,u64.2.1,u65.1,u65.2.1,u66.1,u66.2.1,u67.1,u67.2.1,u68.1,u68.2.1,u68.2.2.1,u60.1,u60.2.1,u61.1,u61.2.1,r26.1,r26.2.1,r26.2.2.1,r26.2.2.2.1,u62.2.2.1,()),(a0.1,r25.2.2.1,r25.2.2.2.1,()))) (
 .leaf ((r22.1.1,r22.1.2.1,u52.1,u52.2.1,u53.1,u53.2.1,u54.1,u54.2.1,u55.1,u55.2.1,u56.1,u56.2.1,u57.1,u57.2.1,u58.1,u58.2.1,u59.1,r24.1.1,r24.1.2.1,u63.1,u63.2.1,u64.1,u64.2.1,u65.1,u65.2.1,u66.1,u66.2.1,u67.1,u67.2.1,u68.1,u68.2.1,u68.2.2.1,u60.1,u60.2.1,u61.1,u61.2.1,r25.1.1,r25.1.2.1,r25.1.2.2.1,r25.1.2.2.2.1,u62.2.2.1,()),(a0.1,r25.2.2.1,r25.2.2.2.1,())))) (
 .leaf ((r22.1.1,r22.1.2.1,u52.1,u52.2.1,u53.1,u53.2.1,u54.1,u54.2.1,u55.1,u55.2.1,u56.1,u56.2.1,u57.1,u57.2.1,u58.1,u58.2.1,u59.1,r24.1.1,r24.1.2.1,u63.1,u63.2.1,u64.1,u64.2.1,u65.1,u65.2.1,u66.1,u66.2.1,u67.1,u67.2.1,u68.1,u68.2.1,u68.2.2.1,u60.1,u60.2.1,u61.1,u61.2.1,u61.2.2.1,u61.2.2.2.1,u62.1,u62.2.1,u62.2.2.1,()),(a0.1,r24.2.2.1,r24.2.2.2.1,())))) (
 .leaf (r22.1,(a0.1,r23.2.2.1,r23.2.2.2.1,()))))))
def Mz (a0:A7):Option (Ab×A7):=(Mq a0).val
def Qo (a0:YBs):Tree (Ab×YI):=
 .ob (Alg a0) fun r1=>
 .ob (Mz r1) fun r2=>
 .ob (Dk (r1.1,r2.2.2.1,r2.2.2.2.1,()) ([((0:Int),()),((1:Int),()),((2:Int),()),((5:Int),()),((9:Int),()),((60:Int),()),((61:Int),()),((70:Int),()),((152:Int),())],())) fun r3=>
 .leaf (r2.1,r3.1)
def Qy (a0:YBs):Option (Ab×YI):=(Qo a0).val
def Akw (a0:YBs):Tree (YBs):=
 .chk (decide (([]:List YB).length+a0.1.length≤4294967296)) <|
 .leaf ((([]:List YB)++a0.1),())
def A1 (a0:YBs):Option (YBs):=(Akw a0).val
def Tv (a0:Aa):Tree (Aa):=
 letI u1:=a0.2.2.2;letI u2:=u1.2.2.2;.ob (A1 (a0.2.2.1,())) fun r1=>
 .ob (A1 (u1.1,())) fun r2=>
 .ob (A1 (u1.2.2.1,())) fun r3=>
 .ob (A1 (u2.1,())) fun r4=>
 .ob (A1 (u2.2.2.2.1,())) fun r5=>
 .ob (A1 (u2.2.2.2.2.1,())) fun r6=>
 .leaf (a0.1,a0.2.1,r1.1,r2.1,u1.2.1,r3.1,r4.1,u2.2.1,u2.2.2.1,r5.1,r6.1,())
def Gm (a0:Aa):Option (Aa):=(Tv a0).val
def Ac4 (a0:Bn):Tree (Bn):=
 .chk (decide (([]:List YI).length+a0.2.1.length≤4294967296)) <|
 .leaf (a0.1,(([]:List YI)++a0.2.1),())
def Sa (a0:Bn):Option (Bn):=(Ac4 a0).val
def Agu (a0:YEp):Tree (YEp):=
 .ob (A1 (a0.2.1,())) fun r1=>
 .ob (Sa (a0.2.2.2.1,a0.2.2.2.2.1,())) fun r2=>
 .leaf (a0.1,r1.1,a0.2.2.1,r2.1,r2.2.1,())
def L7 (a0:YEp):Option (YEp):=(Agu a0).val
def Zb (a0:Af):Tree (Af):=
 letI u1:=a0.2.2.2;letI u2:=u1.2.2.2;letI u3:=u2.2.2.2.2;.ob (A1 (a0.2.1,())) fun r1=>
 .ob (A1 (u3.2.2.2.2.1,())) fun r2=>
 .ob (L7 (a0.2.2.1,u1.1,u1.2.1,u1.2.2.1,u2.1,())) fun r3=>
 .ob (L7 (u2.2.1,u2.2.2.1,u2.2.2.2.1,u3.1,u3.2.1,())) fun r4=>
 .leaf (a0.1,r1.1,r3.1,r3.2.1,r3.2.2.1,r3.2.2.2.1,r3.2.2.2.2.1,r4.1,r4.2.1,r4.2.2.1,r4.2.2.2.1,r4.2.2.2.2.1,u3.2.2.1,u3.2.2.2.1,r2.1,())
def Fd (a0:Af):Option (Af):=(Zb a0).val
def Qp (a0:Ab):Tree (Ab):=
 letI u1:=a0.2.2.2;letI u2:=u1.2.2.2;letI u3:=u2.2.2.2;letI u4:=u3.2.2.2;letI u5:=u4.2.2.2;letI u6:=u5.2.2.2;letI u7:=u6.2.2.2;letI u8:=u7.2.2.2;letI u9:=u8.2.2.2;letI u10:=u9.2.2.2;letI u11:=u10.2.2.2;letI u12:=u11.2.2.2;.ob (A1 (a0.2.1,())) fun r1=>
 .ob (A1 (u1.2.2.1,())) fun r2=>
 .ob (Gm (u2.1,u2.2.1,u2.2.2.1,u3.1,u3.2.1,u3.2.2.1,u4.1,u4.2.1,u4.2.2.1,u5.1,u5.2.1,())) fun r3=>letI u13:=r3.2.2.2;letI u14:=u13.2.2.2;
 .ob (Fd (u5.2.2.1,u6.1,u6.2.1,u6.2.2.1,u7.1,u7.2.1,u7.2.2.1,u8.1,u8.2.1,u8.2.2.1,u9.1,u9.2.1,u9.2.2.1,u10.1,u10.2.1,())) fun r4=>letI u15:=r4.2.2.2;letI u16:=u15.2.2.2;letI u17:=u16.2.2.2.2;
 .leaf (a0.1,r1.1,a0.2.2.1,u1.1,u1.2.1,r2.1,r3.1,r3.2.1,r3.2.2.1,u13.1,u13.2.1,u13.2.2.1,u14.1,u14.2.1,u14.2.2.1,u14.2.2.2.1,u14.2.2.2.2.1,r4.1,r4.2.1,r4.2.2.1,u15.1,u15.2.1,u15.2.2.1,u16.1,u16.2.1,u16.2.2.1,u16.2.2.2.1,u17.1,u17.2.1,u17.2.2.1,u17.2.2.2.1,u17.2.2.2.2.1,u10.2.2.1,u11.1,u11.2.1,u11.2.2.1,u12.1,u12.2.1,u12.2.2.1,u12.2.2.2.1,u12.2.2.2.2.1,())
def Bv (a0:Ab):Option (Ab):=(Qp a0).val
def Agv (a0:YI) (a1:YI) (a2:YI):Tree ((Bool×Unit)):=
 .br (decide (a0.1≥a1.1)) (
 .leaf ((decide (a0.1≤a2.1)),())) (
 .leaf (false,()))
def A3 (a0:YI) (a1:YI) (a2:YI):Option ((Bool×Unit)):=(Agv a0 a1 a2).val
def Akx (a0:YBs):Tree ((Bool×Unit)):=
 .ob (A3 ((a0.1.length:Int),()) ((1:Int),()) ((32:Int),())) fun r1=>
 .leaf r1
def S7 (a0:YBs):Option ((Bool×Unit)):=(Akx a0).val
def Agx (a0:Gv):Tree ((Bool×Unit)):=
 .ob (A3 (a0.1,()) ((0:Int),()) ((4294967295:Int),())) fun r1=>
 .br r1.1 (
 .ob (A3 (a0.2.1,()) ((0:Int),()) ((65535:Int),())) fun r2=>
 .leaf r2) (
 .leaf (false,()))
def Xb (a0:Gv):Option ((Bool×Unit)):=(Agx a0).val
def Ajh (a0:YBs) (a1:YBs):Tree ((Bool×Unit)):=
 .leaf ((decide ((Ko a0.1)=(Ko a1.1))),())
def Do (a0:YBs) (a1:YBs):Option ((Bool×Unit)):=(Ajh a0 a1).val
def Tx (a0:Aa) (a1:Aa):Tree ((Bool×Unit)):=
 letI u1:=a0.2.2.2;letI u2:=u1.2.2.2;letI u3:=a1.2.2.2;letI u4:=u3.2.2.2;.br (a0.1==a1.1) (
 .br (a0.2.1==a1.2.1) (
 .br (u1.2.1==u3.2.1) (
 .br (u2.2.1==u4.2.1) (
 .br (u2.2.2.1==u4.2.2.1) (
 .ob (Do (a0.2.2.1,()) (a1.2.2.1,())) fun r1=>
 .br r1.1 (
 .ob (Do (u1.1,()) (u3.1,())) fun r2=>
 .br r2.1 (
 .ob (Do (u1.2.2.1,()) (u3.2.2.1,())) fun r3=>
 .br r3.1 (
 .ob (Do (u2.1,()) (u4.1,())) fun r4=>
 .br r4.1 (
 .ob (Do (u2.2.2.2.1,()) (u4.2.2.2.1,())) fun r5=>
 .br r5.1 (
 .ob (Do (u2.2.2.2.2.1,()) (u4.2.2.2.2.1,())) fun r6=>
 .leaf r6) (
 .leaf (false,()))) (
 .leaf (false,()))) (
 .leaf (false,()))) (
 .leaf (false,()))) (
 .leaf (false,()))) (
 .leaf (false,()))) (
 .leaf (false,()))) (
 .leaf (false,()))) (
 .leaf (false,()))) (
 .leaf (false,()))
def Fm (a0:Aa) (a1:Aa):Option ((Bool×Unit)):=(Tx a0 a1).val
def Aet (x1:(List YI)×(List YI)×Int×Int×Unit):Option (((List YI)×(List YI)×Int×Int×Unit)⊕((Bool×Unit)⊕(Unit))):=
 letI u1:=x1.2.2;Tree.val (α:=((List YI)×(List YI)×Int×Int×Unit)⊕((Bool×Unit)⊕(Unit))) <|
 .br (decide (u1.2.1<u1.1)) (
 .ob (idx x1.2.1 u1.2.1) fun e2=>
 .ob (idx x1.1 u1.2.1) fun e3=>
 .br (e2.1 != e3.1) (
 .leaf (.inr (.inl (false,())))) (
 .leaf (.inl (x1.1,x1.2.1,u1.1,(i64.wrap (u1.2.1+(1:Int))),())))) (
 .leaf (.inr (.inr ())))
def Zc (a0:(List YI)×Unit) (a1:(List YI)×Unit):Tree ((Bool×Unit)):=
 .br ((a0.1.length:Int) != (a1.1.length:Int)) (
 .leaf (false,())) (
 .ob (Ay Aet (a1.1,a0.1,(a0.1.length:Int),(0:Int),())) fun o4=>
 .sm o4 (fun o5=>
 .leaf o5) (fun o6=>
 .leaf (true,())))
def Aac (a0:(List YI)×Unit) (a1:(List YI)×Unit):Option ((Bool×Unit)):=(Zc a0 a1).val
def Agz (a0:YEp) (a1:YEp):Tree ((Bool×Unit)):=
 .br (a0.1==a1.1) (
 .ob (Do (a0.2.1,()) (a1.2.1,())) fun r1=>
 .br r1.1 (
 .br (a0.2.2.1==a1.2.2.1) (
 .br (a0.2.2.2.1==a1.2.2.2.1) (
 .ob (Aac (a0.2.2.2.2.1,()) (a1.2.2.2.2.1,())) fun r2=>
 .leaf r2) (
 .leaf (false,()))) (
 .leaf (false,()))) (
 .leaf (false,()))) (
 .leaf (false,()))
def Pn (a0:YEp) (a1:YEp):Option ((Bool×Unit)):=(Agz a0 a1).val
end
end Go.Proofs.YtmhhajdeafijmaaGreat

/-
  What the functions of the seat answer, as plain terms (printed by a program, proved in the texts P); nothing is assumed.
-/
import Derived.Test.YtmhhajdeafijmaaGreatW0
namespace Go.Proofs.YtmhhajdeafijmaaGreat
open Go.RowKit IntKind
set_option linter.unusedVariables false
set_option maxRecDepth 100000
set_option maxHeartbeats 4000000
noncomputable section
def Jy (a0:YBs):Tree ((Bool×Unit)):=
 .ob (A04 a0) fun r1=>
 .br r1.1 (
 .leaf (true,())) (
 .ob (W9 a0) fun r2=>letI u1:=r2.2.2;letI u2:=r2.1.2.2.2.2.2.2.2.2.2.2.2.2.2.2.2.2.2.2;
 .ob (Mm r2.1 r2.2.1 u1.1 u1.2.1 u1.2.2) fun r3=>letI u3:=r3.1.2.2.2.2.2.2.2;letI u4:=u3.2.2.2.2.2.2.2.2.2.2.2;
 .ob (Q4 r2.1) fun r4=>
 .br (!r4.1) (
 .leaf (false,())) (
 .ob (Q4 r3.1) fun r5=>
 .br (!r5.1) (
 .leaf (false,())) (
 .ob (Afm r3.2.1) fun r6=>
 .br (!r6.1) (
 .leaf (false,())) (
 .ob (Abj r3.2.2.1) fun r7=>
 .br (!r7.1) (
 .leaf (false,())) (
 .br u2.2.2.2.2.2.1 (
 .leaf (false,())) (
 .br ((r3.2.2.1.1.length:Int)==(0:Int)) (
 .ob (Xg r3.1 r2.1) fun r8=>
 .br r8.1 (
 .br ((r3.2.1.1.length:Int)==(0:Int)) (
 .leaf ((!r3.2.2.2.1),())) (
 .leaf (false,()))) (
 .leaf (false,()))) (
 .br (u4.2.2.2.2.1 != r2.2.1.1) (
 .leaf (false,())) (
 .br (!(and (u4.1==u2.1) (and (u4.2.1==u2.2.1) true))) (
 .br (!(and (u4.1==u1.1.1) (and (u4.2.1==u1.1.2.1) true))) (
 .leaf (false,())) (
 .ob (Kp (u4.1,u4.2.1,u4.2.2.1,()) u1.1) fun r9=>
 .br r3.2.2.2.1 (
 .br (decide ((i64.wrap ((r3.2.1.1.length:Int)-(1:Int)))≥(0:Int))) (
 .br r9.2.1 (
 .ob (H4 (r9.1.2.2.1,()) u1.2.2) fun r10=>
 .br r10.1 (
 .ob (idx r3.2.1.1 (i64.wrap ((r3.2.1.1.length:Int)-(1:Int)))) fun e11=>
 .br (and (e11.1==u1.1.1) (and (e11.2.1==u1.1.2.1) true)) (
 .ob (idx r3.2.1.1 (i64.wrap ((r3.2.1.1.length:Int)-(1:Int)))) fun e12=>
 .br (e12.2.2.1==(5:Int)) (
 .leaf ((!(and (u4.1==u1.1.1) (and (u4.2.1==u1.1.2.1) true))),())) (
 .leaf (false,()))) (
 .leaf (false,()))) (
 .leaf (false,()))) (
 .leaf (false,()))) (
 .leaf (false,()))) (
 .br (and (u4.1==u1.1.1) (and (u4.2.1==u1.1.2.1) true)) (
 .leaf (true,())) (
 .br r9.2.1 (
 .leaf (true,())) (
 .br ((r3.1.2.2.2.2.2.2.2.2.2.2.2.2.2.2.2.2.2.2.2.2.1.length:Int)==(3:Int)) (
 .leaf (true,())) (
 .br (u3.1==(281474976710656:Int)) (
 .leaf (true,())) (
 .leaf ((decide ((r2.1.2.2.2.2.2.2.2.2.2.2.2.2.2.2.2.2.2.2.2.2.1.length:Int)>(0:Int))),())))))))) (
 .ob (Kp (u4.1,u4.2.1,u4.2.2.1,()) u1.1) fun r13=>
 .br r3.2.2.2.1 (
 .br (decide ((i64.wrap ((r3.2.1.1.length:Int)-(1:Int)))≥(0:Int))) (
 .br r13.2.1 (
 .ob (H4 (r13.1.2.2.1,()) u1.2.2) fun r14=>
 .br r14.1 (
 .ob (idx r3.2.1.1 (i64.wrap ((r3.2.1.1.length:Int)-(1:Int)))) fun e15=>
 .br (and (e15.1==u1.1.1) (and (e15.2.1==u1.1.2.1) true)) (
 .ob (idx r3.2.1.1 (i64.wrap ((r3.2.1.1.length:Int)-(1:Int)))) fun e16=>
 .br (e16.2.2.1==(5:Int)) (
 .leaf ((!(and (u4.1==u1.1.1) (and (u4.2.1==u1.1.2.1) true))),())) (
 .leaf (false,()))) (
 .leaf (false,()))) (
 .leaf (false,()))) (
 .leaf (false,()))) (
 .leaf (false,()))) (
 .br (and (u4.1==u1.1.1) (and (u4.2.1==u1.1.2.1) true)) (
 .leaf (true,())) (
 .br r13.2.1 (
 .leaf (true,())) (
 .br ((r3.1.2.2.2.2.2.2.2.2.2.2.2.2.2.2.2.2.2.2.2.2.1.length:Int)==(3:Int)) (
 .leaf (true,())) (
 .br (u3.1==(281474976710656:Int)) (
 .leaf (true,())) (
 .leaf ((decide ((r2.1.2.2.2.2.2.2.2.2.2.2.2.2.2.2.2.2.2.2.2.2.1.length:Int)>(0:Int))),())))))))))))))))
def Acv (a0:YBs):Option ((Bool×Unit)):=(Jy a0).val
def Apz (a0:YEp):Tree (YEp):=
 .chk (decide (([]:List YB).length+a0.2.1.length≤4294967296)) <|
 .ob (Afc (a0.2.2.2.1,a0.2.2.2.2.1,())) fun r1=>
 .leaf (a0.1,(([]:List YB)++a0.2.1),a0.2.2.1,r1.1,r1.2.1,())
def Nh (a0:YEp):Option (YEp):=(Apz a0).val
def Atu (a0:YEp) (a1:Bool×Unit):Tree (YEp):=
 .br (!a1.1) (
 .chk (decide (([]:List YB).length+a0.2.1.length≤4294967296)) <|
 .chk (decide (([]:List YI).length+a0.2.2.2.2.1.length≤4294967296)) <|
 .leaf (a0.1,(([]:List YB)++a0.2.1),a0.2.2.1,a0.2.2.2.1,(([]:List YI)++a0.2.2.2.2.1),())) (
 .ob (Nh a0) fun r1=>
 .leaf r1)
def Aja (a0:YEp) (a1:Bool×Unit):Option (YEp):=(Atu a0 a1).val
def Al5 (a0:Aj):Tree (Aj):=
 letI u1:=a0.2.2.2;letI u2:=u1.2.2.2;letI u3:=u2.2.2.2;letI u4:=u3.2.2.2;.chk (decide (([]:List YB).length+a0.2.1.length≤4294967296)) <|
 .ob (Nh (a0.2.2.1,u1.1,u1.2.1,u1.2.2.1,u2.1,())) fun r1=>
 .ob (Aja (u2.2.1,u2.2.2.1,u3.1,u3.2.1,u3.2.2.1,()) (u4.1,())) fun r2=>
 .chk (decide (([]:List YB).length+a0.2.2.2.2.2.2.2.2.2.2.2.2.2.2.1.length≤4294967296)) <|
 .leaf (a0.1,(([]:List YB)++a0.2.1),r1.1,r1.2.1,r1.2.2.1,r1.2.2.2.1,r1.2.2.2.2.1,r2.1,r2.2.1,r2.2.2.1,r2.2.2.2.1,r2.2.2.2.2.1,u4.1,u4.2.1,(([]:List YB)++u4.2.2.1),())
def Gd (a0:Aj):Option (Aj):=(Al5 a0).val
def Al6 (a0:YEp):Tree ((Bool×Unit)):=
 .br (a0.1==(0:Int)) (
 .br ((a0.2.1.length:Int)==(0:Int)) (
 .br (a0.2.2.1==(0:Int)) (
 .br (a0.2.2.2.1==(0:Int)) (
 .leaf (((a0.2.2.2.2.1.length:Int)==(0:Int)),())) (
 .leaf (false,()))) (
 .leaf (false,()))) (
 .leaf (false,()))) (
 .leaf (false,()))
def N9 (a0:YEp):Option ((Bool×Unit)):=(Al6 a0).val
def Ahh (a0:Aj):Tree ((Bool×Unit)):=
 letI u1:=a0.2.2.2;letI u2:=u1.2.2.2;letI u3:=u2.2.2.2;.br (a0.1==(0:Int)) (
 .br ((a0.2.1.length:Int)==(0:Int)) (
 .ob (N9 (a0.2.2.1,u1.1,u1.2.1,u1.2.2.1,u2.1,())) fun r1=>
 .br r1.1 (
 .ob (N9 (u2.2.1,u2.2.2.1,u3.1,u3.2.1,u3.2.2.1,())) fun r2=>
 .br r2.1 (
 .br (!u3.2.2.2.1) (
 .br (u3.2.2.2.2.1==(0:Int)) (
 .leaf (((a0.2.2.2.2.2.2.2.2.2.2.2.2.2.2.1.length:Int)==(0:Int)),())) (
 .leaf (false,()))) (
 .leaf (false,()))) (
 .leaf (false,()))) (
 .leaf (false,()))) (
 .leaf (false,()))) (
 .leaf (false,()))
def U0 (a0:Aj):Option ((Bool×Unit)):=(Ahh a0).val
def Awx (a0:YEp):Tree ((Bool×Unit)):=
 .ob (Bm (a0.1,()) ((0:Int),()) ((4294967295:Int),())) fun r1=>
 .br r1.1 (
 .br ((a0.2.1.length:Int)==(32:Int)) (
 .ob (Bm (a0.2.2.1,()) ((0:Int),()) ((281474976710656:Int),())) fun r2=>
 .br r2.1 (
 .ob (Zp (a0.2.2.2.1,a0.2.2.2.2.1,())) fun r3=>
 .leaf r3) (
 .leaf (false,()))) (
 .leaf (false,()))) (
 .leaf (false,()))
def O7 (a0:YEp):Option ((Bool×Unit)):=(Awx a0).val
def Ap0 (a0:Aj):Tree ((Bool×Unit)):=
 letI u1:=a0.2.2;letI u2:=u1.2.2;letI u3:=u2.2.2.2;letI u4:=u3.2.2;letI u5:=u4.2.2;.ob (Bm (a0.1,()) ((0:Int),()) ((1:Int),())) fun r1=>
 .br (!r1.1) (
 .leaf (false,())) (
 .br ((a0.2.1.length:Int) != (12:Int)) (
 .leaf (false,())) (
 .ob (O7 (u1.1,u1.2.1,u2.1,u2.2.1,u2.2.2.1,())) fun r2=>
 .br (!r2.1) (
 .leaf (false,())) (
 .br u5.2.1 (
 .br (a0.1==(0:Int)) (
 .ob (O7 (u3.1,u3.2.1,u4.1,u4.2.1,u5.1,())) fun r3=>
 .br (!r3.1) (
 .leaf (false,())) (
 .br (u3.1 != (i64.wrap (u1.1-(1:Int)))) (
 .leaf (false,())) (
 .ob (Bm (u5.2.2.1,()) ((0:Int),()) ((1000005:Int),())) fun r4=>
 .br (!r4.1) (
 .leaf (false,())) (
 .br ((a0.2.2.2.2.2.2.2.2.2.2.2.2.2.2.1.length:Int)==(0:Int)) (
 .leaf (true,())) (
 .br (a0.1==(0:Int)) (
 .br ((a0.2.2.2.2.2.2.2.2.2.2.2.2.2.2.1.length:Int)==(32:Int)) (
 .leaf ((decide (u1.1<(4294967295:Int))),())) (
 .leaf (false,()))) (
 .leaf (false,()))))))) (
 .ob (O7 (u3.1,u3.2.1,u4.1,u4.2.1,u5.1,())) fun r5=>
 .br (!r5.1) (
 .leaf (false,())) (
 .br (u3.1 != (i64.wrap (u1.1-(1:Int)))) (
 .leaf (false,())) (
 .ob (Bm (u5.2.2.1,()) ((-1:Int),()) ((1000005:Int),())) fun r6=>
 .br (!r6.1) (
 .leaf (false,())) (
 .br ((a0.2.2.2.2.2.2.2.2.2.2.2.2.2.2.1.length:Int)==(0:Int)) (
 .leaf (true,())) (
 .br (a0.1==(0:Int)) (
 .br ((a0.2.2.2.2.2.2.2.2.2.2.2.2.2.2.1.length:Int)==(32:Int)) (
 .leaf ((decide (u1.1<(4294967295:Int))),())) (
 .leaf (false,()))) (
 .leaf (false,())))))))) (
 .ob (N9 (u3.1,u3.2.1,u4.1,u4.2.1,u5.1,())) fun r7=>
 .br (!r7.1) (
 .leaf (false,())) (
 .br (u5.2.2.1 != (0:Int)) (
 .leaf (false,())) (
 .br ((a0.2.2.2.2.2.2.2.2.2.2.2.2.2.2.1.length:Int)==(0:Int)) (
 .leaf (true,())) (
 .br (a0.1==(0:Int)) (
 .br ((a0.2.2.2.2.2.2.2.2.2.2.2.2.2.2.1.length:Int)==(32:Int)) (
 .leaf ((decide (u1.1<(4294967295:Int))),())) (
 .leaf (false,()))) (
 .leaf (false,())))))))))
def Hi (a0:Aj):Option ((Bool×Unit)):=(Ap0 a0).val
def A2t (a0:YBs) (a1:YBs):Tree ((Bool×Unit)):=
 .leaf ((decide ((Ls a0.1)=(Ls a1.1))),())
def Rc (a0:YBs) (a1:YBs):Option ((Bool×Unit)):=(A2t a0 a1).val
def Awy (a0:YBs) (a1:YBs):Tree (A8):=
 .chk (decide (([]:List YB).length+a0.1.length≤4294967296)) <|
 .chk (decide (([]:List YB).length+a1.1.length≤4294967296)) <|
 .leaf ((15:Int),(0:Int),(0:Int),([]:List YB),([]:List YB),(0:Int),(0:Int),(([]:List YB)++a1.1),(([]:List YB)++a0.1),(0:Int),(0:Int),(0:Int),())
def Anl (a0:YBs) (a1:YBs):Option (A8):=(Awy a0 a1).val
def Vp (x1:(List YB)×(List YB)×Int×Int×Unit):Option (((List YB)×(List YB)×Int×Int×Unit)⊕(YI)):=
 letI u1:=x1.2.2;Tree.val (α:=((List YB)×(List YB)×Int×Int×Unit)⊕(YI)) <|
 .br (decide (u1.2.1<(x1.1.length:Int))) (
 .ob (idx x1.1 u1.2.1) fun e2=>
 .ob (idx x1.2.1 u1.2.1) fun e3=>
 .leaf (.inl (x1.1,x1.2.1,(i64.wrap ((BitVec.ofInt (i64.bits) (u1.1) ||| BitVec.ofInt (i64.bits) ((i64.wrap ((u8.wrap ((BitVec.ofInt (u8.bits) (e2.1) ^^^ BitVec.ofInt (u8.bits) (e3.1)).toNat:Nat)))))).toNat:Nat)),(i64.wrap (u1.2.1+(1:Int))),()))) (
 .leaf (.inr (u1.1,())))
def Awz (a0:YBs) (a1:YBs):Tree (YI):=
 .br ((a0.1.length:Int) != (a1.1.length:Int)) (
 .leaf ((-1:Int),())) (
 .ob (Ay Vp (a0.1,a1.1,(0:Int),(0:Int),())) fun o4=>
 .leaf o4)
def Anm (a0:YBs) (a1:YBs):Option (YI):=(Awz a0 a1).val
def Al7 (a0:YBs) (a1:YBs):Tree ((Bool×Unit)):=
 .br ((a0.1.length:Int)==(16:Int)) (
 .ob (Anm a0 a1) fun r1=>
 .leaf ((r1.1==(0:Int)),())) (
 .leaf (false,()))
def Abl (a0:YBs) (a1:YBs):Option ((Bool×Unit)):=(Al7 a0 a1).val
def Ap1 (a0:YBs) (a1:YI) (a2:Aq):Tree (YBs×(Bool×Unit)):=
 letI u1:=a2.2.2.2.2.2.2.2;.ob (H1 a1 a2) fun r1=>
 .br ((a0.1.length:Int) != (32:Int)) (
 .leaf ((([]:List YB),()),(false,()))) (
 .br ((r1.1.length:Int)==(0:Int)) (
 .leaf ((([]:List YB),()),(false,()))) (
 .ob (Acp a0 r1) fun r2=>
 .ob (Abl (u1.2.2.2.1,()) r2) fun r3=>
 .br (!r3.1) (
 .leaf ((([]:List YB),()),(false,()))) (
 .ob (Nb a1 (a2.2.2.2.1,()) (u1.1,()) (u1.2.1,())) fun r4=>
 .ob (Akl a0 r4 (u1.2.2.1,())) fun r5=>
 .leaf (r5,(true,())))))
def Afo (a0:YBs) (a1:YI) (a2:Aq):Option (YBs×(Bool×Unit)):=(Ap1 a0 a1 a2).val
def Ap2 (a0:YEp) (a1:YI) (a2:Aq):Tree (YEp×YBs×YI):=
 letI u1:=a0.2.2.2;letI u2:=a2.2.2.2.2.2.2.2;.ob (Nh a0) fun r1=>
 .ob (O7 a0) fun r2=>
 .br (!r2.1) (
 .leaf (r1,(([]:List YB),()),((1:Int),()))) (
 .ob (H1 a1 a2) fun r3=>
 .br ((r3.1.length:Int)==(0:Int)) (
 .leaf (r1,(([]:List YB),()),((1:Int),()))) (
 .br (u2.1 != a0.1) (
 .leaf (r1,(([]:List YB),()),((1:Int),()))) (
 .ob (Vj (u1.1,u1.2.1,()) (u2.2.1,())) fun r4=>
 .br (!r4.1) (
 .leaf (r1,(([]:List YB),()),((3:Int),()))) (
 .ob (Afo (a0.2.1,()) a1 a2) fun r5=>
 .br (!r5.2.1) (
 .leaf (r1,(([]:List YB),()),((2:Int),()))) (
 .ob (Qz (u1.1,u1.2.1,()) (u2.2.1,())) fun r6=>
 .leaf ((r1.1,r1.2.1,r1.2.2.1,r6.1.1,r6.1.2.1,()),r5.1,((0:Int),())))))))
def Iz (a0:YEp) (a1:YI) (a2:Aq):Option (YEp×YBs×YI):=(Ap2 a0 a1 a2).val
def Xh (a0:Aj) (a1:YI) (a2:Aq):Tree (Aj×YBs×YI):=
 letI u1:=a0.2.2;letI u2:=u1.2.2;letI u3:=u2.2.2.2;letI u4:=u3.2.2;letI u5:=u4.2.2;letI u6:=u5.2.2;letI u7:=a2.2.2.2.2.2.2.2;.ob (Gd a0) fun r1=>letI u8:=r1.2.2;letI u9:=u8.2.2;letI u10:=u9.2.2;letI u11:=u10.2.2;letI u12:=u11.2.2;letI u13:=u12.2.2;letI u14:=u13.2.2;
 .ob (Hi a0) fun r2=>
 .br (!r2.1) (
 .leaf (r1,(([]:List YB),()),((1:Int),()))) (
 .ob (Bm a1 ((0:Int),()) ((1000000:Int),())) fun r3=>
 .br (!r3.1) (
 .leaf (r1,(([]:List YB),()),((1:Int),()))) (
 .ob (Ll a2) fun r4=>
 .br (!r4.1) (
 .leaf (r1,(([]:List YB),()),((1:Int),()))) (
 .ob (Kl (a2.1,())) fun r5=>
 .br (!r5.1) (
 .leaf (r1,(([]:List YB),()),((1:Int),()))) (
 .ob (Rc (a2.2.2.2.1,()) (a0.2.1,())) fun r6=>
 .br (!r6.1) (
 .leaf (r1,(([]:List YB),()),((8:Int),()))) (
 .br (u7.1==u1.1) (
 .ob (Iz (u1.1,u1.2.1,u2.1,u2.2.1,u2.2.2.1,()) ((i64.wrap ((1:Int)-a0.1)),()) a2) fun r7=>letI u15:=r7.1.2.2;
 .br (r7.2.2.1 != (0:Int)) (
 .leaf (r1,(([]:List YB),()),r7.2.2)) (
 .br u5.2.1 (
 .br (u6.1==(-1:Int)) (
 .leaf ((r1.1,r1.2.1,r7.1.1,r7.1.2.1,u15.1,u15.2.1,u15.2.2.1,u10.2.1,u11.1,u11.2.1,u12.1,u12.2.1,u13.1,(i64.wrap (a1.1+(5:Int))),u14.1,()),r7.2.1,((0:Int),()))) (
 .leaf ((r1.1,r1.2.1,r7.1.1,r7.1.2.1,u15.1,u15.2.1,u15.2.2.1,u10.2.1,u11.1,u11.2.1,u12.1,u12.2.1,u13.1,u13.2.1,u14.1,()),r7.2.1,((0:Int),())))) (
 .leaf ((r1.1,r1.2.1,r7.1.1,r7.1.2.1,u15.1,u15.2.1,u15.2.2.1,u10.2.1,u11.1,u11.2.1,u12.1,u12.2.1,u13.1,u13.2.1,u14.1,()),r7.2.1,((0:Int),()))))) (
 .br u5.2.1 (
 .br (u7.1==u3.1) (
 .br (u6.1 != (-1:Int)) (
 .br (decide (a1.1>u6.1)) (
 .leaf (r1,(([]:List YB),()),((9:Int),()))) (
 .ob (Iz (u3.1,u3.2.1,u4.1,u4.2.1,u5.1,()) ((i64.wrap ((1:Int)-a0.1)),()) a2) fun r8=>
 .br (r8.2.2.1 != (0:Int)) (
 .leaf (r1,(([]:List YB),()),r8.2.2)) (
 .leaf ((r1.1,r1.2.1,u8.1,u8.2.1,u9.1,u9.2.1,u10.1,r8.1.1,r8.1.2.1,r8.1.2.2.1,r8.1.2.2.2.1,r8.1.2.2.2.2.1,u13.1,u13.2.1,u14.1,()),r8.2.1,((0:Int),()))))) (
 .ob (Iz (u3.1,u3.2.1,u4.1,u4.2.1,u5.1,()) ((i64.wrap ((1:Int)-a0.1)),()) a2) fun r9=>
 .br (r9.2.2.1 != (0:Int)) (
 .leaf (r1,(([]:List YB),()),r9.2.2)) (
 .leaf ((r1.1,r1.2.1,u8.1,u8.2.1,u9.1,u9.2.1,u10.1,r9.1.1,r9.1.2.1,r9.1.2.2.1,r9.1.2.2.2.1,r9.1.2.2.2.2.1,u13.1,u13.2.1,u14.1,()),r9.2.1,((0:Int),()))))) (
 .br (decide ((a0.2.2.2.2.2.2.2.2.2.2.2.2.2.2.1.length:Int)>(0:Int))) (
 .br (u7.1==(i64.wrap (u1.1+(1:Int)))) (
 .ob (Dz ((i64.wrap (u1.1+(1:Int))),()) (u6.2.1,())) fun r10=>
 .ob (Iz r10 ((i64.wrap ((1:Int)-a0.1)),()) a2) fun r11=>
 .br (r11.2.2.1 != (0:Int)) (
 .leaf (r1,(([]:List YB),()),r11.2.2)) (
 .leaf ((r1.1,r1.2.1,r11.1.1,r11.1.2.1,r11.1.2.2.1,r11.1.2.2.2.1,r11.1.2.2.2.2.1,u8.1,u8.2.1,u9.1,u9.2.1,u10.1,true,(i64.wrap (a1.1+(5:Int))),([]:List YB),()),r11.2.1,((0:Int),())))) (
 .leaf (r1,(([]:List YB),()),((8:Int),())))) (
 .leaf (r1,(([]:List YB),()),((8:Int),()))))) (
 .br (decide ((a0.2.2.2.2.2.2.2.2.2.2.2.2.2.2.1.length:Int)>(0:Int))) (
 .br (u7.1==(i64.wrap (u1.1+(1:Int)))) (
 .ob (Dz ((i64.wrap (u1.1+(1:Int))),()) (u6.2.1,())) fun r12=>
 .ob (Iz r12 ((i64.wrap ((1:Int)-a0.1)),()) a2) fun r13=>
 .br (r13.2.2.1 != (0:Int)) (
 .leaf (r1,(([]:List YB),()),r13.2.2)) (
 .leaf ((r1.1,r1.2.1,r13.1.1,r13.1.2.1,r13.1.2.2.1,r13.1.2.2.2.1,r13.1.2.2.2.2.1,u8.1,u8.2.1,u9.1,u9.2.1,u10.1,true,(i64.wrap (a1.1+(5:Int))),([]:List YB),()),r13.2.1,((0:Int),())))) (
 .leaf (r1,(([]:List YB),()),((8:Int),())))) (
 .leaf (r1,(([]:List YB),()),((8:Int),()))))))))))
def H5 (a0:Aj) (a1:YI) (a2:Aq):Option (Aj×YBs×YI):=(Xh a0 a1 a2).val
def Ap3 (a0:Aj) (a1:YI):Tree (YBs×(Bool×Unit)):=
 letI u1:=a0.2.2;letI u2:=u1.2.2.2.2.2;letI u3:=u2.2.2.2.2.2;.ob (Hi a0) fun r1=>
 .br (!r1.1) (
 .leaf ((([]:List YB),()),(false,()))) (
 .br u3.1 (
 .br (a1.1==u2.1) (
 .chk (decide (([]:List YB).length+a0.2.2.2.2.2.2.2.2.1.length≤4294967296)) <|
 .leaf (((([]:List YB)++u2.2.1),()),(true,()))) (
 .br (a1.1==u1.1) (
 .chk (decide (([]:List YB).length+a0.2.2.2.1.length≤4294967296)) <|
 .leaf (((([]:List YB)++u1.2.1),()),(true,()))) (
 .br (decide ((a0.2.2.2.2.2.2.2.2.2.2.2.2.2.2.1.length:Int)>(0:Int))) (
 .br (a1.1==(i64.wrap (u1.1+(1:Int)))) (
 .chk (decide (([]:List YB).length+a0.2.2.2.2.2.2.2.2.2.2.2.2.2.2.1.length≤4294967296)) <|
 .leaf (((([]:List YB)++u3.2.2.1),()),(true,()))) (
 .leaf ((([]:List YB),()),(false,())))) (
 .leaf ((([]:List YB),()),(false,())))))) (
 .br (a1.1==u1.1) (
 .chk (decide (([]:List YB).length+a0.2.2.2.1.length≤4294967296)) <|
 .leaf (((([]:List YB)++u1.2.1),()),(true,()))) (
 .br (decide ((a0.2.2.2.2.2.2.2.2.2.2.2.2.2.2.1.length:Int)>(0:Int))) (
 .br (a1.1==(i64.wrap (u1.1+(1:Int)))) (
 .chk (decide (([]:List YB).length+a0.2.2.2.2.2.2.2.2.2.2.2.2.2.2.1.length≤4294967296)) <|
 .leaf (((([]:List YB)++u3.2.2.1),()),(true,()))) (
 .leaf ((([]:List YB),()),(false,())))) (
 .leaf ((([]:List YB),()),(false,()))))))
def Vq (a0:Aj) (a1:YI):Option (YBs×(Bool×Unit)):=(Ap3 a0 a1).val
def Aw0 (a0:YBs) (a1:YBs) (a2:YBs):Tree (A8):=
 .chk (decide (([]:List YB).length+a0.1.length≤4294967296)) <|
 .chk (decide (([]:List YB).length+a1.1.length≤4294967296)) <|
 .chk (decide (([]:List YB).length+a2.1.length≤4294967296)) <|
 .leaf ((16:Int),(0:Int),(0:Int),([]:List YB),(([]:List YB)++a1.1),(0:Int),(0:Int),(([]:List YB)++a2.1),(([]:List YB)++a0.1),(0:Int),(0:Int),(0:Int),())
def Ann (a0:YBs) (a1:YBs) (a2:YBs):Option (A8):=(Aw0 a0 a1 a2).val
def Ap4 (a0:YEp) (a1:YI) (a2:YBs) (a3:YI) (a4:YBs):Tree (YEp×Aq×YI):=
 letI u1:=a0.2.2;.ob (Nh a0) fun r1=>letI u2:=r1.2.2.2;
 .ob (O7 a0) fun r2=>
 .br (!r2.1) (
 .leaf (r1,((0:Int),(0:Int),([]:List YB),([]:List YB),(0:Int),([]:List YB),([]:List YB),(0:Int),(0:Int),([]:List YB),([]:List YB),()),((1:Int),()))) (
 .ob (Nb a1 a2 (a0.1,()) ((0:Int),())) fun r3=>
 .br ((r3.1.length:Int)==(0:Int)) (
 .leaf (r1,((0:Int),(0:Int),([]:List YB),([]:List YB),(0:Int),([]:List YB),([]:List YB),(0:Int),(0:Int),([]:List YB),([]:List YB),()),((1:Int),()))) (
 .ob (Kl a3) fun r4=>
 .br (!r4.1) (
 .leaf (r1,((0:Int),(0:Int),([]:List YB),([]:List YB),(0:Int),([]:List YB),([]:List YB),(0:Int),(0:Int),([]:List YB),([]:List YB),()),((1:Int),()))) (
 .ob (Qw a3 ((a4.1.length:Int),())) fun r5=>
 .br (!r5.1) (
 .leaf (r1,((0:Int),(0:Int),([]:List YB),([]:List YB),(0:Int),([]:List YB),([]:List YB),(0:Int),(0:Int),([]:List YB),([]:List YB),()),((1:Int),()))) (
 .br (a3.1==(4:Int)) (
 .br (decide (u1.1≥(281474976709656:Int))) (
 .leaf (r1,((0:Int),(0:Int),([]:List YB),([]:List YB),(0:Int),([]:List YB),([]:List YB),(0:Int),(0:Int),([]:List YB),([]:List YB),()),((4:Int),()))) (
 .br (u1.1==(281474976710656:Int)) (
 .leaf (r1,((0:Int),(0:Int),([]:List YB),([]:List YB),(0:Int),([]:List YB),([]:List YB),(0:Int),(0:Int),([]:List YB),([]:List YB),()),((5:Int),()))) (
 .ob (Bh (a0.2.1,()) a1 a2 (a0.1,()) (u1.1,()) a3 a4) fun r6=>
 .leaf ((r1.1,r1.2.1,(i64.wrap (u1.1+(1:Int))),u2.1,u2.2.1,()),r6.1,((0:Int),()))))) (
 .br (u1.1==(281474976710656:Int)) (
 .leaf (r1,((0:Int),(0:Int),([]:List YB),([]:List YB),(0:Int),([]:List YB),([]:List YB),(0:Int),(0:Int),([]:List YB),([]:List YB),()),((5:Int),()))) (
 .ob (Bh (a0.2.1,()) a1 a2 (a0.1,()) (u1.1,()) a3 a4) fun r7=>
 .leaf ((r1.1,r1.2.1,(i64.wrap (u1.1+(1:Int))),u2.1,u2.2.1,()),r7.1,((0:Int),()))))))))
def Afp (a0:YEp) (a1:YI) (a2:YBs) (a3:YI) (a4:YBs):Option (YEp×Aq×YI):=(Ap4 a0 a1 a2 a3 a4).val
def Ajb (a0:Aj) (a1:YI) (a2:YBs):Tree (Aj×Aq×YI):=
 letI u1:=a0.2.2.2;.ob (Gd a0) fun r1=>letI u2:=r1.2.2.2.2.2.2.2;letI u3:=u2.2.2.2;
 .ob (Hi a0) fun r2=>
 .br (!r2.1) (
 .leaf (r1,((0:Int),(0:Int),([]:List YB),([]:List YB),(0:Int),([]:List YB),([]:List YB),(0:Int),(0:Int),([]:List YB),([]:List YB),()),((1:Int),()))) (
 .ob (Afp (a0.2.2.1,u1.1,u1.2.1,u1.2.2.1,u1.2.2.2.1,()) (a0.1,()) (a0.2.1,()) a1 a2) fun r3=>
 .br (r3.2.2.1==(0:Int)) (
 .leaf ((r1.1,r1.2.1,r3.1.1,r3.1.2.1,r3.1.2.2.1,r3.1.2.2.2.1,r3.1.2.2.2.2.1,u2.1,u2.2.1,u2.2.2.1,u3.1,u3.2.1,u3.2.2.1,u3.2.2.2.1,u3.2.2.2.2.1,()),r3.2.1,r3.2.2)) (
 .leaf (r1,r3.2.1,r3.2.2)))
def Ci (a0:Aj) (a1:YI) (a2:YBs):Option (Aj×Aq×YI):=(Ajb a0 a1 a2).val
def Al8 (a0:Aj) (a1:Aq):Tree (A8):=
 .ob (H1 (a0.1,()) a1) fun r1=>
 .ob (Anl (a0.2.2.2.1,()) r1) fun r2=>
 .leaf r2
def Fj (a0:Aj) (a1:Aq):Option (A8):=(Al8 a0 a1).val
def Atv (a0:YBs):Tree ((Bool×Unit)):=
 .ob (Be ((a0.1.length:Int),()) ((1:Int),()) ((32:Int),())) fun r1=>
 .leaf r1
def Ajc (a0:YBs):Option ((Bool×Unit)):=(Atv a0).val
def Al9 (a0:YBs) (a1:YBs):Tree (YBs):=
 .ob (Si a0 a1) fun r1=>
 .leaf r1
def Ama (a0:YBs) (a1:YBs):Option (YBs):=(Al9 a0 a1).val
def Ahi (a0:YBs):Tree (YBs):=
 .ob (Ajc a0) fun r1=>
 .br (!r1.1) (
 .leaf (([]:List YB),())) (
 .ob (Ama ([((114:Int),()),((111:Int),()),((97:Int),()),((109:Int),())],()) a0) fun r2=>
 .ob (Ra r2 ((Cy [102,105,110,105,115,104]),())) fun r3=>
 .leaf r3)
def U1 (a0:YBs):Option (YBs):=(Ahi a0).val
def Ahj (a0:YI) (a1:YBs) (a2:YBs) (a3:YI) (a4:YBs):Tree (YBs):=
 .ob (Be a0 ((1:Int),()) ((9:Int),())) fun r1=>
 .br (!r1.1) (
 .leaf (([]:List YB),())) (
 .ob (Dh a1) fun r2=>
 .br (!r2.1) (
 .leaf (([]:List YB),())) (
 .ob (Dh a2) fun r3=>
 .br (!r3.1) (
 .leaf (([]:List YB),())) (
 .ob (Be a3 ((0:Int),()) ((1000000:Int),())) fun r4=>
 .br (!r4.1) (
 .leaf (([]:List YB),())) (
 .br ((a4.1.length:Int) != (16:Int)) (
 .leaf (([]:List YB),())) (
 .ob (H2 (([]:List YB),()) a3 ((4:Int),())) fun r5=>
 .ob (Fp ([([((102:Int),()),((u8.wrap (a0.1)),())],()),a1,a2,r5,a4],())) fun r6=>
 .leaf r6)))))
def U2 (a0:YI) (a1:YBs) (a2:YBs) (a3:YI) (a4:YBs):Option (YBs):=(Ahj a0 a1 a2 a3 a4).val
def Atw (a0:YBs) (a1:YI) (a2:YBs) (a3:YBs) (a4:YI) (a5:YBs):Tree (YBs):=
 .ob (U1 a0) fun r1=>
 .ob (U2 a1 a2 a3 a4 a5) fun r2=>
 .br ((r1.1.length:Int)==(0:Int)) (
 .leaf (([]:List YB),())) (
 .br ((r2.1.length:Int)==(0:Int)) (
 .leaf (([]:List YB),())) (
 .ob (Acr r1 r2) fun r3=>
 .leaf r3))
def Ajd (a0:YBs) (a1:YI) (a2:YBs) (a3:YBs) (a4:YI) (a5:YBs):Option (YBs):=(Atw a0 a1 a2 a3 a4 a5).val
def Aje (a0:YBs) (a1:YI) (a2:Aq):Tree (Aq×(Bool×Unit)):=
 letI u1:=a2.2.2.2;.br (a2.1 != (2:Int)) (
 .leaf (((0:Int),(0:Int),([]:List YB),([]:List YB),(0:Int),([]:List YB),([]:List YB),(0:Int),(0:Int),([]:List YB),([]:List YB),()),(false,()))) (
 .ob (Jf a2) fun r1=>
 .br (!r1.1) (
 .leaf (((0:Int),(0:Int),([]:List YB),([]:List YB),(0:Int),([]:List YB),([]:List YB),(0:Int),(0:Int),([]:List YB),([]:List YB),()),(false,()))) (
 .ob (Ajd a0 a1 (a2.2.2.1,()) (u1.1,()) (u1.2.1,()) (u1.2.2.1,())) fun r2=>
 .br ((r2.1.length:Int)==(0:Int)) (
 .leaf (((0:Int),(0:Int),([]:List YB),([]:List YB),(0:Int),([]:List YB),([]:List YB),(0:Int),(0:Int),([]:List YB),([]:List YB),()),(false,()))) (
 .ob (Br (a2.2.2.1,())) fun r3=>
 .ob (Br (u1.1,())) fun r4=>
 .ob (Br (u1.2.2.1,())) fun r5=>
 .leaf (((3:Int),a1.1,r3.1,r4.1,u1.2.1,r5.1,r2.1,(0:Int),(0:Int),([]:List YB),([]:List YB),()),(true,())))))
def Ajf (a0:YBs) (a1:YI) (a2:Aq):Option (Aq×(Bool×Unit)):=(Aje a0 a1 a2).val
def Amb (a0:YI) (a1:YBs) (a2:YBs):Tree (Aj):=
 .ob (Kn a0) fun r1=>
 .br (!r1.1) (
 .leaf ((0:Int),([]:List YB),(0:Int),([]:List YB),(0:Int),(0:Int),([]:List YI),(0:Int),([]:List YB),(0:Int),(0:Int),([]:List YI),false,(0:Int),([]:List YB),())) (
 .ob (Dh a1) fun r2=>
 .br (!r2.1) (
 .leaf ((0:Int),([]:List YB),(0:Int),([]:List YB),(0:Int),(0:Int),([]:List YI),(0:Int),([]:List YB),(0:Int),(0:Int),([]:List YI),false,(0:Int),([]:List YB),())) (
 .br ((a2.1.length:Int) != (32:Int)) (
 .leaf ((0:Int),([]:List YB),(0:Int),([]:List YB),(0:Int),(0:Int),([]:List YI),(0:Int),([]:List YB),(0:Int),(0:Int),([]:List YI),false,(0:Int),([]:List YB),())) (
 .ob (Br a1) fun r3=>
 .ob (Ka ((0:Int),()) a2) fun r4=>
 .leaf (a0.1,r3.1,r4.1,r4.2.1,r4.2.2.1,r4.2.2.2.1,r4.2.2.2.2.1,(0:Int),([]:List YB),(0:Int),(0:Int),([]:List YI),false,(0:Int),([]:List YB),()))))
def Amc (a0:YI) (a1:YBs) (a2:YBs):Option (Aj):=(Amb a0 a1 a2).val
def Ap5 (a0:Bd):Tree ((Bool×Unit)):=
 letI u1:=a0.2.2.2;letI u2:=u1.2.2;letI u3:=u2.2.2;letI u4:=u3.2.2;letI u5:=u4.2.2;letI u6:=u5.2.2;letI u7:=u6.2.2;letI u8:=u7.2.2.2;letI u9:=u8.2.2.2;.ob (Bm (a0.1,()) ((1:Int),()) ((9:Int),())) fun r1=>
 .br (!r1.1) (
 .leaf (false,())) (
 .br ((a0.2.1.length:Int) != (12:Int)) (
 .leaf (false,())) (
 .br ((a0.2.2.1.length:Int) != (12:Int)) (
 .leaf (false,())) (
 .ob (Bm (u9.1,()) ((0:Int),()) ((1000000:Int),())) fun r2=>
 .br (!r2.1) (
 .leaf (false,())) (
 .ob (Bm (u9.2.1,()) ((0:Int),()) ((1000000:Int),())) fun r3=>
 .br (!r3.1) (
 .leaf (false,())) (
 .br u9.2.2.1 (
 .ob (U0 (u1.1,u1.2.1,u2.1,u2.2.1,u3.1,u3.2.1,u4.1,u4.2.1,u5.1,u5.2.1,u6.1,u6.2.1,u7.1,u7.2.1,u7.2.2.1,())) fun r4=>
 .br r4.1 (
 .ob (G4 ((-1:Int),())) fun r5=>
 .br (and (u8.1==r5.1) (and (u8.2.1==r5.2.1) true)) (
 .br ((a0.2.2.2.2.2.2.2.2.2.2.2.2.2.2.2.2.2.2.2.2.1.length:Int)==(0:Int)) (
 .leaf ((u9.2.1==(0:Int)),())) (
 .leaf (false,()))) (
 .leaf (false,()))) (
 .leaf (false,()))) (
 .ob (Hi (u1.1,u1.2.1,u2.1,u2.2.1,u3.1,u3.2.1,u4.1,u4.2.1,u5.1,u5.2.1,u6.1,u6.2.1,u7.1,u7.2.1,u7.2.2.1,())) fun r6=>
 .br r6.1 (
 .br (u1.1==(1:Int)) (
 .ob (Rc (u1.2.1,()) (a0.2.2.1,())) fun r7=>
 .br r7.1 (
 .ob (Lm (u8.1,u8.2.1,u8.2.2.1,())) fun r8=>
 .leaf r8) (
 .leaf (false,()))) (
 .leaf (false,()))) (
 .leaf (false,()))))))))
def Afq (a0:Bd):Option ((Bool×Unit)):=(Ap5 a0).val
def Amd (a0:Bd):Tree (Bd):=
 letI u1:=a0.2.2.2;letI u2:=u1.2.2.2;letI u3:=u2.2.2.2;letI u4:=u3.2.2.2;letI u5:=u4.2.2.2;letI u6:=u5.2.2.2.2;.chk (decide (([]:List YB).length+a0.2.1.length≤4294967296)) <|
 .chk (decide (([]:List YB).length+a0.2.2.1.length≤4294967296)) <|
 .ob (Gd (u1.1,u1.2.1,u1.2.2.1,u2.1,u2.2.1,u2.2.2.1,u3.1,u3.2.1,u3.2.2.1,u4.1,u4.2.1,u4.2.2.1,u5.1,u5.2.1,u5.2.2.1,())) fun r1=>letI u7:=r1.2.2.2;letI u8:=u7.2.2.2;letI u9:=u8.2.2.2.2;
 .ob (C5 (u5.2.2.2.1,u6.1,u6.2.1,())) fun r2=>
 .leaf (a0.1,(([]:List YB)++a0.2.1),(([]:List YB)++a0.2.2.1),r1.1,r1.2.1,r1.2.2.1,u7.1,u7.2.1,u7.2.2.1,u8.1,u8.2.1,u8.2.2.1,u8.2.2.2.1,u9.1,u9.2.1,u9.2.2.1,u9.2.2.2.1,u9.2.2.2.2.1,r2.1,r2.2.1,r2.2.2.1,u6.2.2.1,u6.2.2.2.1,u6.2.2.2.2.1,())
def Abm (a0:Bd):Option (Bd):=(Amd a0).val
def Mn (x2:Int×Int×Int×(List Al)×Int×Int×Int×Int×(List YB)×Int×Unit):Option ((Int×Int×Int×(List Al)×Int×Int×Int×Int×(List YB)×Int×Unit)⊕((Bool×Int×Int×(List YB)×Int×Unit)⊕Al)):=
 letI u1:=x2.2.2.2;letI u2:=u1.2.2;letI u3:=u2.2.2;Tree.val (α:=(Int×Int×Int×(List Al)×Int×Int×Int×Int×(List YB)×Int×Unit)⊕((Bool×Int×Int×(List YB)×Int×Unit)⊕Al)) <|
 .br (decide (x2.1<(x2.2.2.2.1.length:Int))) (
 .ob (idx u1.1 x2.1) fun e3=>
 .br (and (e3.1==u1.2.1) (and (e3.2.1==u2.1) true)) (
 .ob (idx u1.1 x2.1) fun e4=>
 .ob (Ln e4) fun r5=>
 .leaf (.inr (.inl (true,r5.1,r5.2.1,r5.2.2.1,r5.2.2.2.1,())))) (
 .leaf (.inl ((i64.wrap (x2.1+(1:Int))),x2.2.1,x2.2.2.1,u1.1,u1.2.1,u2.1,u2.2.1,u3.1,u3.2.1,u3.2.2.1,())))) (
 .leaf (.inr (.inr (u2.2.1,u3.1,u3.2.1,u3.2.2.1,()))))
def Ap6 (a0:A9) (a1:Bu):Tree (Al×(Bool×Unit)):=
 .ob (Lm a0) fun r1=>
 .br (!r1.1) (
 .leaf (((0:Int),(0:Int),([]:List YB),(0:Int),()),(false,()))) (
 .ob (Ay Mn ((0:Int),a0.1,a0.2.1,a0.2.2.1,a1.1,a1.2.1,(0:Int),(0:Int),([]:List YB),(0:Int),())) fun o6=>
 .sm o6 (fun o7=>
 .leaf ((o7.2.1,o7.2.2.1,o7.2.2.2.1,o7.2.2.2.2.1,()),(o7.1,()))) (fun o8=>
 .leaf (((0:Int),(0:Int),([]:List YB),(0:Int),()),(false,()))))
def Ap7 (a0:A9) (a1:Bu):Option (Al×(Bool×Unit)):=(Ap6 a0 a1).val
def Mo (x8:Int×Int×Int×(List Al)×Int×Int×Int×Int×(List Al)×Int×Int×(List Al)×Unit):Option ((Int×Int×Int×(List Al)×Int×Int×Int×Int×(List Al)×Int×Int×(List Al)×Unit)⊕((Int×Int×(List Al)×Int×Int×(List Al)×Unit))):=
 letI u1:=x8.2.2.2;letI u2:=u1.2.2;letI u3:=u2.2.2;letI u4:=u3.2.2;Tree.val (α:=(Int×Int×Int×(List Al)×Int×Int×Int×Int×(List Al)×Int×Int×(List Al)×Unit)⊕((Int×Int×(List Al)×Int×Int×(List Al)×Unit))) <|
 .br (decide (x8.1<(x8.2.2.2.1.length:Int))) (
 .ob (idx u1.1 x8.1) fun e9=>
 .br (!(and (e9.1==u1.2.1) (and (e9.2.1==u2.1) true))) (
 .ob (idx u1.1 x8.1) fun e10=>
 .ob (Ln e10) fun r11=>
 .chk (decide (x8.2.2.2.2.2.2.2.2.2.2.2.1.length+[r11].length≤4294967296)) <|
 .leaf (.inl ((i64.wrap (x8.1+(1:Int))),x8.2.1,x8.2.2.1,u1.1,u1.2.1,u2.1,u2.2.1,u3.1,u3.2.1,u4.1,u4.2.1,(u4.2.2.1++[r11]),()))) (
 .leaf (.inl ((i64.wrap (x8.1+(1:Int))),x8.2.1,x8.2.2.1,u1.1,u1.2.1,u2.1,u2.2.1,u3.1,u3.2.1,u4.1,u4.2.1,u4.2.2.1,())))) (
 .leaf (.inr (u2.2.1,u3.1,u3.2.1,u4.1,u4.2.1,u4.2.2.1,())))
def Ap8 (a0:A9) (a1:YI) (a2:Bu) (a3:YBs):Tree (A9×(Bool×Unit)):=
 .ob (Ap7 a0 a2) fun r1=>
 .br (!r1.2.1) (
 .ob (C5 a0) fun r2=>
 .leaf (r2,(false,()))) (
 .ob (Bm a1 ((0:Int),()) ((1000000:Int),())) fun r3=>
 .br (!r3.1) (
 .ob (C5 a0) fun r4=>
 .leaf (r4,(false,()))) (
 .ob (Rc (r1.1.2.2.1,()) a3) fun r5=>
 .br (!r5.1) (
 .ob (C5 a0) fun r6=>
 .leaf (r6,(false,()))) (
 .br (decide (a1.1>r1.1.2.2.2.1)) (
 .ob (C5 a0) fun r7=>
 .leaf (r7,(false,()))) (
 .ob (Ay Mo ((0:Int),a0.1,a0.2.1,a0.2.2.1,a2.1,a2.2.1,(0:Int),(0:Int),([]:List Al),a2.1,a2.2.1,([]:List Al),())) fun o12=>
 .leaf ((o12.2.2.2.1,o12.2.2.2.2.1,o12.2.2.2.2.2.1,()),(true,()))))))
def Vr (a0:A9) (a1:YI) (a2:Bu) (a3:YBs):Option (A9×(Bool×Unit)):=(Ap8 a0 a1 a2 a3).val
def Aw1 (a0:Aj):Tree (Aj×(Bool×Unit)):=
 .ob (Gd a0) fun r1=>letI u1:=r1.2.2.2;
 .ob (Hi a0) fun r2=>
 .br (!r2.1) (
 .leaf (r1,(false,()))) (
 .br (a0.1 != (1:Int)) (
 .leaf (r1,(false,()))) (
 .br (a0.2.2.1==(4294967295:Int)) (
 .leaf (r1,(false,()))) (
 .ob (Cs (a0.2.2.2.1,()) ((Cy [114,101,107,101,121]),())) fun r3=>
 .ob (Dz ((i64.wrap (a0.2.2.1+(1:Int))),()) r3) fun r4=>
 .leaf ((r1.1,r1.2.1,r4.1,r4.2.1,r4.2.2.1,r4.2.2.2.1,r4.2.2.2.2.1,r1.2.2.1,u1.1,u1.2.1,u1.2.2.1,u1.2.2.2.1,true,(-1:Int),u1.2.2.2.2.2.2.2.2.2.2.2.1,()),(true,())))))
def Ano (a0:Aj):Option (Aj×(Bool×Unit)):=(Aw1 a0).val
def Ahk (a0:Aj) (a1:YI) (a2:YBs):Tree (Aj×YI):=
 .ob (Gd a0) fun r1=>
 .ob (Hi a0) fun r2=>
 .br (!r2.1) (
 .leaf (r1,((6:Int),()))) (
 .br (a0.1 != (1:Int)) (
 .leaf (r1,((6:Int),()))) (
 .ob (Bm a1 ((0:Int),()) ((4294967294:Int),())) fun r3=>
 .br (!r3.1) (
 .leaf (r1,((6:Int),()))) (
 .ob (Ds ((i64.wrap (a1.1+(1:Int))),())) fun r4=>
 .ob (Rc a2 r4) fun r5=>
 .br (!r5.1) (
 .leaf (r1,((6:Int),()))) (
 .br (a1.1==a0.2.2.1) (
 .ob (Ano a0) fun r6=>
 .br (!r6.2.1) (
 .leaf (r1,((6:Int),()))) (
 .leaf (r6.1,((0:Int),())))) (
 .br (a1.1==(i64.wrap (a0.2.2.1-(1:Int)))) (
 .leaf (r1,((0:Int),()))) (
 .leaf (r1,((6:Int),()))))))))
def Ou (a0:Aj) (a1:YI) (a2:YBs):Option (Aj×YI):=(Ahk a0 a1 a2).val
def A06 (a0:Aj):Tree (Aj×Aq×YI):=
 .ob (Hi a0) fun r1=>
 .br (!r1.1) (
 .ob (Gd a0) fun r2=>
 .leaf (r2,((0:Int),(0:Int),([]:List YB),([]:List YB),(0:Int),([]:List YB),([]:List YB),(0:Int),(0:Int),([]:List YB),([]:List YB),()),((6:Int),()))) (
 .br (a0.1 != (1:Int)) (
 .ob (Gd a0) fun r3=>
 .leaf (r3,((0:Int),(0:Int),([]:List YB),([]:List YB),(0:Int),([]:List YB),([]:List YB),(0:Int),(0:Int),([]:List YB),([]:List YB),()),((6:Int),()))) (
 .ob (Ds (a0.2.2.1,())) fun r4=>
 .ob (Ci a0 ((8:Int),()) r4) fun r5=>
 .leaf (r5.1,r5.2.1,r5.2.2)))
def Ako (a0:Aj):Option (Aj×Aq×YI):=(A06 a0).val
def Acw (r7:A8) (r17:A8) (r1:Bd) (r16:Aj×Aq×YI) (r15:A9×(Bool×Unit)) (a1:YI) (a2:Bu):Tree (Bd×((List Bl)×Unit)×((List A8)×Unit)×(Bool×Unit)):=
 letI u1:=r1.2.2.2.2.2.2.2.2.2.2.2.2.2.2.2.2.2.2.2.2.2;letI u2:=r16.1.2.2.2;letI u3:=u2.2.2.2;letI u4:=u3.2.2.2.2;.chk (decide ((([]:List A8)++[r7]).length+[r17].length≤4294967296)) <|
 .leaf ((r1.1,r1.2.1,r1.2.2.1,r16.1.1,r16.1.2.1,r16.1.2.2.1,u2.1,u2.2.1,u2.2.2.1,u3.1,u3.2.1,u3.2.2.1,u3.2.2.2.1,u4.1,u4.2.1,u4.2.2.1,u4.2.2.2.1,u4.2.2.2.2.1,r15.1.1,r15.1.2.1,r15.1.2.2.1,u1.1,a1.1,u1.2.2.1,()),((([]:List Bl)++[(a2.1,a2.2.1,r16.2.1.1,r16.2.1.2.1,r16.2.1.2.2.1,r16.2.1.2.2.2.1,r16.2.1.2.2.2.2.1,r16.2.1.2.2.2.2.2.1,r16.2.1.2.2.2.2.2.2.1,r16.2.1.2.2.2.2.2.2.2.1,r16.2.1.2.2.2.2.2.2.2.2.1,r16.2.1.2.2.2.2.2.2.2.2.2.1,r16.2.1.2.2.2.2.2.2.2.2.2.2.1,())]),()),(((([]:List A8)++[r7])++[r17]),()),(true,()))
def Acx (r16:Aj×Aq×YI) (r7:A8) (r1:Bd) (r15:A9×(Bool×Unit)) (a1:YI) (a2:Bu):Tree (Bd×((List Bl)×Unit)×((List A8)×Unit)×(Bool×Unit)):=
 .ob (Fj r16.1 r16.2.1) fun r17=>
 Acw r7 r17 r1 r16 r15 a1 a2
def So (a2:Bu) (r16:Aj×Aq×YI) (r7:A8) (r1:Bd) (r15:A9×(Bool×Unit)) (a1:YI):Tree (Bd×((List Bl)×Unit)×((List A8)×Unit)×(Bool×Unit)):=
 .chk (decide (([]:List Bl).length+[(a2.1,a2.2.1,r16.2.1.1,r16.2.1.2.1,r16.2.1.2.2.1,r16.2.1.2.2.2.1,r16.2.1.2.2.2.2.1,r16.2.1.2.2.2.2.2.1,r16.2.1.2.2.2.2.2.2.1,r16.2.1.2.2.2.2.2.2.2.1,r16.2.1.2.2.2.2.2.2.2.2.1,r16.2.1.2.2.2.2.2.2.2.2.2.1,r16.2.1.2.2.2.2.2.2.2.2.2.2.1,())].length≤4294967296)) <|
 Acx r16 r7 r1 r15 a1 a2
def Acy (r16:Aj×Aq×YI) (r1:Bd) (r4:Aj×YBs×YI) (a1:YI) (r7:A8) (a2:Bu) (r15:A9×(Bool×Unit)):Tree (Bd×((List Bl)×Unit)×((List A8)×Unit)×(Bool×Unit)):=
 letI u1:=r1.2.2.2.2.2.2.2.2.2.2.2.2.2.2.2.2.2.2;letI u2:=r4.1.2.2.2;letI u3:=u2.2.2.2;letI u4:=u3.2.2.2.2;.br (r16.2.2.1 != (0:Int)) (
 .leaf ((r1.1,r1.2.1,r1.2.2.1,r4.1.1,r4.1.2.1,r4.1.2.2.1,u2.1,u2.2.1,u2.2.2.1,u3.1,u3.2.1,u3.2.2.1,u3.2.2.2.1,u4.1,u4.2.1,u4.2.2.1,u4.2.2.2.1,u4.2.2.2.2.1,u1.1,u1.2.1,u1.2.2.1,u1.2.2.2.1,a1.1,u1.2.2.2.2.2.1,()),(([]:List Bl),()),((([]:List A8)++[r7]),()),(false,()))) (
 So a2 r16 r7 r1 r15 a1)
def Acz (r15:A9×(Bool×Unit)) (r1:Bd) (r4:Aj×YBs×YI) (a1:YI) (r7:A8) (r16:Aj×Aq×YI) (a2:Bu):Tree (Bd×((List Bl)×Unit)×((List A8)×Unit)×(Bool×Unit)):=
 letI u1:=r1.2.2.2.2.2.2.2.2.2.2.2.2.2.2.2.2.2.2;letI u2:=r4.1.2.2.2;letI u3:=u2.2.2.2;letI u4:=u3.2.2.2.2;.br (!r15.2.1) (
 .leaf ((r1.1,r1.2.1,r1.2.2.1,r4.1.1,r4.1.2.1,r4.1.2.2.1,u2.1,u2.2.1,u2.2.2.1,u3.1,u3.2.1,u3.2.2.1,u3.2.2.2.1,u4.1,u4.2.1,u4.2.2.1,u4.2.2.2.1,u4.2.2.2.2.1,u1.1,u1.2.1,u1.2.2.1,u1.2.2.2.1,a1.1,u1.2.2.2.2.2.1,()),(([]:List Bl),()),((([]:List A8)++[r7]),()),(false,()))) (
 Acy r16 r1 r4 a1 r7 a2 r15)
def Ac0 (r4:Aj×YBs×YI) (a4:YBs) (r15:A9×(Bool×Unit)) (r1:Bd) (a1:YI) (r7:A8) (a2:Bu):Tree (Bd×((List Bl)×Unit)×((List A8)×Unit)×(Bool×Unit)):=
 .ob (Ci r4.1 ((5:Int),()) a4) fun r16=>
 Acz r15 r1 r4 a1 r7 r16 a2
def Ni (r1:Bd) (a1:YI) (a2:Bu) (a4:YBs) (r4:Aj×YBs×YI) (r7:A8):Tree (Bd×((List Bl)×Unit)×((List A8)×Unit)×(Bool×Unit)):=
 letI u1:=r1.2.2.2.2.2.2.2.2.2.2.2.2.2.2.2.2.2.2;.ob (Df (u1.1,u1.2.1,u1.2.2.1,()) a1 a2 a4) fun r15=>
 Ac0 r4 a4 r15 r1 a1 r7 a2
def Ajg (a0:Bd) (a1:YI) (a2:Bu) (a3:Aq) (a4:YBs):Tree (Bd×((List Bl)×Unit)×((List A8)×Unit)×(Bool×Unit)):=
 letI u1:=a0.2.2;letI u2:=u1.2.2;letI u3:=u2.2.2;letI u4:=u3.2.2;letI u5:=u4.2.2;letI u6:=u5.2.2;letI u7:=u6.2.2;letI u8:=u7.2.2;letI u9:=a3.2.2.2.2.2.2.2;.ob (Abm a0) fun r1=>letI u10:=r1.2.2;letI u11:=u10.2.2.2.2.2.2.2.2.2.2.2.2.2.2.2.2;letI u12:=u11.2.2;letI u13:=u12.2.2.2;
 .ob (Afq a0) fun r2=>
 .br (!r2.1) (
 .leaf (r1,(([]:List Bl),()),(([]:List A8),()),(false,()))) (
 .br u8.2.2.2.2.2.2.2.1 (
 .leaf (r1,(([]:List Bl),()),(([]:List A8),()),(false,()))) (
 .ob (Iw a2) fun r3=>
 .br (!r3.1) (
 .leaf (r1,(([]:List Bl),()),(([]:List A8),()),(false,()))) (
 .ob (H5 (u1.2.1,u2.1,u2.2.1,u3.1,u3.2.1,u4.1,u4.2.1,u5.1,u5.2.1,u6.1,u6.2.1,u7.1,u7.2.1,u8.1,u8.2.1,()) a1 a3) fun r4=>letI u14:=r4.1.2.2;letI u15:=u14.2.2;letI u16:=u15.2.2;letI u17:=u16.2.2;letI u18:=u17.2.2;letI u19:=u18.2.2;
 .br (r4.2.2.1 != (0:Int)) (
 .leaf (r1,(([]:List Bl),()),(([]:List A8),()),(false,()))) (
 .ob (Vq (u1.2.1,u2.1,u2.2.1,u3.1,u3.2.1,u4.1,u4.2.1,u5.1,u5.2.1,u6.1,u6.2.1,u7.1,u7.2.1,u8.1,u8.2.1,()) (u9.1,())) fun r5=>
 .ob (H1 ((0:Int),()) a3) fun r6=>
 .ob (Ann r5.1 (u1.1,()) r6) fun r7=>
 .chk (decide (([]:List A8).length+[r7].length≤4294967296)) <|
 .br (a3.1==(4:Int)) (
 .chk (decide (([]:List YB).length+a0.2.2.1.length≤4294967296)) <|
 .chk (decide (([]:List YB).length+r4.2.1.1.length≤4294967296)) <|
 .chk (decide ((([]:List A8)++[r7]).length+[((6:Int),(0:Int),(0:Int),([]:List YB),(([]:List YB)++u1.1),u9.1,u9.2.1,(([]:List YB)++r4.2.1.1),([]:List YB),(0:Int),(0:Int),a1.1,())].length≤4294967296)) <|
 .ob (Df (u11.1,u11.2.1,u12.1,()) a1 a2 a4) fun r8=>
 .ob (Ci r4.1 ((5:Int),()) a4) fun r9=>letI u20:=r9.1.2.2.2;letI u21:=u20.2.2.2;letI u22:=u21.2.2.2.2;
 .br (!r8.2.1) (
 .leaf ((r1.1,r1.2.1,u10.1,r4.1.1,r4.1.2.1,u14.1,u14.2.1,u15.1,u15.2.1,u16.1,u16.2.1,u17.1,u17.2.1,u18.1,u18.2.1,u19.1,u19.2.1,u19.2.2.1,u11.1,u11.2.1,u12.1,u12.2.1,a1.1,u13.1,()),(([]:List Bl),()),(((([]:List A8)++[r7])++[((6:Int),(0:Int),(0:Int),([]:List YB),(([]:List YB)++u1.1),u9.1,u9.2.1,(([]:List YB)++r4.2.1.1),([]:List YB),(0:Int),(0:Int),a1.1,())]),()),(false,()))) (
 .br (r9.2.2.1 != (0:Int)) (
 .leaf ((r1.1,r1.2.1,u10.1,r4.1.1,r4.1.2.1,u14.1,u14.2.1,u15.1,u15.2.1,u16.1,u16.2.1,u17.1,u17.2.1,u18.1,u18.2.1,u19.1,u19.2.1,u19.2.2.1,u11.1,u11.2.1,u12.1,u12.2.1,a1.1,u13.1,()),(([]:List Bl),()),(((([]:List A8)++[r7])++[((6:Int),(0:Int),(0:Int),([]:List YB),(([]:List YB)++u1.1),u9.1,u9.2.1,(([]:List YB)++r4.2.1.1),([]:List YB),(0:Int),(0:Int),a1.1,())]),()),(false,()))) (
 .chk (decide (([]:List Bl).length+[(a2.1,a2.2.1,r9.2.1.1,r9.2.1.2.1,r9.2.1.2.2.1,r9.2.1.2.2.2.1,r9.2.1.2.2.2.2.1,r9.2.1.2.2.2.2.2.1,r9.2.1.2.2.2.2.2.2.1,r9.2.1.2.2.2.2.2.2.2.1,r9.2.1.2.2.2.2.2.2.2.2.1,r9.2.1.2.2.2.2.2.2.2.2.2.1,r9.2.1.2.2.2.2.2.2.2.2.2.2.1,())].length≤4294967296)) <|
 .ob (Fj r9.1 r9.2.1) fun r10=>
 .chk (decide (((([]:List A8)++[r7])++[((6:Int),(0:Int),(0:Int),([]:List YB),(([]:List YB)++u1.1),u9.1,u9.2.1,(([]:List YB)++r4.2.1.1),([]:List YB),(0:Int),(0:Int),a1.1,())]).length+[r10].length≤4294967296)) <|
 .leaf ((r1.1,r1.2.1,u10.1,r9.1.1,r9.1.2.1,r9.1.2.2.1,u20.1,u20.2.1,u20.2.2.1,u21.1,u21.2.1,u21.2.2.1,u21.2.2.2.1,u22.1,u22.2.1,u22.2.2.1,u22.2.2.2.1,u22.2.2.2.2.1,r8.1.1,r8.1.2.1,r8.1.2.2.1,u12.2.1,a1.1,u13.1,()),((([]:List Bl)++[(a2.1,a2.2.1,r9.2.1.1,r9.2.1.2.1,r9.2.1.2.2.1,r9.2.1.2.2.2.1,r9.2.1.2.2.2.2.1,r9.2.1.2.2.2.2.2.1,r9.2.1.2.2.2.2.2.2.1,r9.2.1.2.2.2.2.2.2.2.1,r9.2.1.2.2.2.2.2.2.2.2.1,r9.2.1.2.2.2.2.2.2.2.2.2.1,r9.2.1.2.2.2.2.2.2.2.2.2.2.1,())]),()),((((([]:List A8)++[r7])++[((6:Int),(0:Int),(0:Int),([]:List YB),(([]:List YB)++u1.1),u9.1,u9.2.1,(([]:List YB)++r4.2.1.1),([]:List YB),(0:Int),(0:Int),a1.1,())])++[r10]),()),(true,()))))) (
 .br (a3.1==(6:Int)) (
 .ob (Vr (u11.1,u11.2.1,u12.1,()) a1 a2 r4.2.1) fun r11=>
 .br r11.2.1 (
 .chk (decide (([]:List YB).length+a0.2.2.1.length≤4294967296)) <|
 .chk (decide (([]:List YB).length+r4.2.1.1.length≤4294967296)) <|
 .chk (decide ((([]:List A8)++[r7]).length+[((9:Int),(0:Int),(0:Int),([]:List YB),(([]:List YB)++u1.1),(0:Int),(0:Int),(([]:List YB)++r4.2.1.1),([]:List YB),a2.1,a2.2.1,a1.1,())].length≤4294967296)) <|
 .ob (Df r11.1 a1 a2 a4) fun r12=>
 .ob (Ci r4.1 ((5:Int),()) a4) fun r13=>letI u23:=r13.1.2.2.2;letI u24:=u23.2.2.2;letI u25:=u24.2.2.2.2;
 .br (!r12.2.1) (
 .leaf ((r1.1,r1.2.1,u10.1,r4.1.1,r4.1.2.1,u14.1,u14.2.1,u15.1,u15.2.1,u16.1,u16.2.1,u17.1,u17.2.1,u18.1,u18.2.1,u19.1,u19.2.1,u19.2.2.1,r11.1.1,r11.1.2.1,r11.1.2.2.1,u12.2.1,a1.1,u13.1,()),(([]:List Bl),()),(((([]:List A8)++[r7])++[((9:Int),(0:Int),(0:Int),([]:List YB),(([]:List YB)++u1.1),(0:Int),(0:Int),(([]:List YB)++r4.2.1.1),([]:List YB),a2.1,a2.2.1,a1.1,())]),()),(false,()))) (
 .br (r13.2.2.1 != (0:Int)) (
 .leaf ((r1.1,r1.2.1,u10.1,r4.1.1,r4.1.2.1,u14.1,u14.2.1,u15.1,u15.2.1,u16.1,u16.2.1,u17.1,u17.2.1,u18.1,u18.2.1,u19.1,u19.2.1,u19.2.2.1,r11.1.1,r11.1.2.1,r11.1.2.2.1,u12.2.1,a1.1,u13.1,()),(([]:List Bl),()),(((([]:List A8)++[r7])++[((9:Int),(0:Int),(0:Int),([]:List YB),(([]:List YB)++u1.1),(0:Int),(0:Int),(([]:List YB)++r4.2.1.1),([]:List YB),a2.1,a2.2.1,a1.1,())]),()),(false,()))) (
 .chk (decide (([]:List Bl).length+[(a2.1,a2.2.1,r13.2.1.1,r13.2.1.2.1,r13.2.1.2.2.1,r13.2.1.2.2.2.1,r13.2.1.2.2.2.2.1,r13.2.1.2.2.2.2.2.1,r13.2.1.2.2.2.2.2.2.1,r13.2.1.2.2.2.2.2.2.2.1,r13.2.1.2.2.2.2.2.2.2.2.1,r13.2.1.2.2.2.2.2.2.2.2.2.1,r13.2.1.2.2.2.2.2.2.2.2.2.2.1,())].length≤4294967296)) <|
 .ob (Fj r13.1 r13.2.1) fun r14=>
 .chk (decide (((([]:List A8)++[r7])++[((9:Int),(0:Int),(0:Int),([]:List YB),(([]:List YB)++u1.1),(0:Int),(0:Int),(([]:List YB)++r4.2.1.1),([]:List YB),a2.1,a2.2.1,a1.1,())]).length+[r14].length≤4294967296)) <|
 .leaf ((r1.1,r1.2.1,u10.1,r13.1.1,r13.1.2.1,r13.1.2.2.1,u23.1,u23.2.1,u23.2.2.1,u24.1,u24.2.1,u24.2.2.1,u24.2.2.2.1,u25.1,u25.2.1,u25.2.2.1,u25.2.2.2.1,u25.2.2.2.2.1,r12.1.1,r12.1.2.1,r12.1.2.2.1,u12.2.1,a1.1,u13.1,()),((([]:List Bl)++[(a2.1,a2.2.1,r13.2.1.1,r13.2.1.2.1,r13.2.1.2.2.1,r13.2.1.2.2.2.1,r13.2.1.2.2.2.2.1,r13.2.1.2.2.2.2.2.1,r13.2.1.2.2.2.2.2.2.1,r13.2.1.2.2.2.2.2.2.2.1,r13.2.1.2.2.2.2.2.2.2.2.1,r13.2.1.2.2.2.2.2.2.2.2.2.1,r13.2.1.2.2.2.2.2.2.2.2.2.2.1,())]),()),((((([]:List A8)++[r7])++[((9:Int),(0:Int),(0:Int),([]:List YB),(([]:List YB)++u1.1),(0:Int),(0:Int),(([]:List YB)++r4.2.1.1),([]:List YB),a2.1,a2.2.1,a1.1,())])++[r14]),()),(true,()))))) (
 Ni r1 a1 a2 a4 r4 r7)) (
 .br (a3.1==(7:Int)) (
 .ob (Ou r4.1 (u9.1,()) r4.2.1) fun r18=>letI u26:=r18.1.2.2;letI u27:=u26.2.2;letI u28:=u27.2.2;letI u29:=u28.2.2;letI u30:=u29.2.2;letI u31:=u30.2.2;
 .br (r18.2.1==(0:Int)) (
 .br (u26.1 != u14.1) (
 .chk (decide (([]:List YB).length+a0.2.2.1.length≤4294967296)) <|
 .chk (decide (([]:List YB).length+r18.1.2.2.2.1.length≤4294967296)) <|
 .chk (decide ((([]:List A8)++[r7]).length+[((10:Int),(0:Int),(1:Int),([]:List YB),(([]:List YB)++u1.1),u26.1,(0:Int),([]:List YB),(([]:List YB)++u26.2.1),(0:Int),(0:Int),(0:Int),())].length≤4294967296)) <|
 .ob (Ako r18.1) fun r19=>letI u32:=r19.1.2.2;letI u33:=u32.2.2;letI u34:=u33.2.2;letI u35:=u34.2.2;letI u36:=u35.2.2;letI u37:=u36.2.2;
 .br (r19.2.2.1==(0:Int)) (
 .chk (decide (([]:List Bl).length+[(u11.1,u11.2.1,r19.2.1.1,r19.2.1.2.1,r19.2.1.2.2.1,r19.2.1.2.2.2.1,r19.2.1.2.2.2.2.1,r19.2.1.2.2.2.2.2.1,r19.2.1.2.2.2.2.2.2.1,r19.2.1.2.2.2.2.2.2.2.1,r19.2.1.2.2.2.2.2.2.2.2.1,r19.2.1.2.2.2.2.2.2.2.2.2.1,r19.2.1.2.2.2.2.2.2.2.2.2.2.1,())].length≤4294967296)) <|
 .ob (Fj r19.1 r19.2.1) fun r20=>
 .chk (decide (((([]:List A8)++[r7])++[((10:Int),(0:Int),(1:Int),([]:List YB),(([]:List YB)++u1.1),u26.1,(0:Int),([]:List YB),(([]:List YB)++u26.2.1),(0:Int),(0:Int),(0:Int),())]).length+[r20].length≤4294967296)) <|
 .ob (Df (u11.1,u11.2.1,u12.1,()) a1 a2 a4) fun r21=>
 .ob (Ci r19.1 ((5:Int),()) a4) fun r22=>letI u38:=r22.1.2.2.2;letI u39:=u38.2.2.2;letI u40:=u39.2.2.2.2;
 .br (!r21.2.1) (
 .leaf ((r1.1,r1.2.1,u10.1,r19.1.1,r19.1.2.1,u32.1,u32.2.1,u33.1,u33.2.1,u34.1,u34.2.1,u35.1,u35.2.1,u36.1,u36.2.1,u37.1,u37.2.1,u37.2.2.1,u11.1,u11.2.1,u12.1,u12.2.1,a1.1,u13.1,()),((([]:List Bl)++[(u11.1,u11.2.1,r19.2.1.1,r19.2.1.2.1,r19.2.1.2.2.1,r19.2.1.2.2.2.1,r19.2.1.2.2.2.2.1,r19.2.1.2.2.2.2.2.1,r19.2.1.2.2.2.2.2.2.1,r19.2.1.2.2.2.2.2.2.2.1,r19.2.1.2.2.2.2.2.2.2.2.1,r19.2.1.2.2.2.2.2.2.2.2.2.1,r19.2.1.2.2.2.2.2.2.2.2.2.2.1,())]),()),((((([]:List A8)++[r7])++[((10:Int),(0:Int),(1:Int),([]:List YB),(([]:List YB)++u1.1),u26.1,(0:Int),([]:List YB),(([]:List YB)++u26.2.1),(0:Int),(0:Int),(0:Int),())])++[r20]),()),(false,()))) (
 .br (r22.2.2.1 != (0:Int)) (
 .leaf ((r1.1,r1.2.1,u10.1,r19.1.1,r19.1.2.1,u32.1,u32.2.1,u33.1,u33.2.1,u34.1,u34.2.1,u35.1,u35.2.1,u36.1,u36.2.1,u37.1,u37.2.1,u37.2.2.1,u11.1,u11.2.1,u12.1,u12.2.1,a1.1,u13.1,()),((([]:List Bl)++[(u11.1,u11.2.1,r19.2.1.1,r19.2.1.2.1,r19.2.1.2.2.1,r19.2.1.2.2.2.1,r19.2.1.2.2.2.2.1,r19.2.1.2.2.2.2.2.1,r19.2.1.2.2.2.2.2.2.1,r19.2.1.2.2.2.2.2.2.2.1,r19.2.1.2.2.2.2.2.2.2.2.1,r19.2.1.2.2.2.2.2.2.2.2.2.1,r19.2.1.2.2.2.2.2.2.2.2.2.2.1,())]),()),((((([]:List A8)++[r7])++[((10:Int),(0:Int),(1:Int),([]:List YB),(([]:List YB)++u1.1),u26.1,(0:Int),([]:List YB),(([]:List YB)++u26.2.1),(0:Int),(0:Int),(0:Int),())])++[r20]),()),(false,()))) (
 .chk (decide ((([]:List Bl)++[(u11.1,u11.2.1,r19.2.1.1,r19.2.1.2.1,r19.2.1.2.2.1,r19.2.1.2.2.2.1,r19.2.1.2.2.2.2.1,r19.2.1.2.2.2.2.2.1,r19.2.1.2.2.2.2.2.2.1,r19.2.1.2.2.2.2.2.2.2.1,r19.2.1.2.2.2.2.2.2.2.2.1,r19.2.1.2.2.2.2.2.2.2.2.2.1,r19.2.1.2.2.2.2.2.2.2.2.2.2.1,())]).length+[(a2.1,a2.2.1,r22.2.1.1,r22.2.1.2.1,r22.2.1.2.2.1,r22.2.1.2.2.2.1,r22.2.1.2.2.2.2.1,r22.2.1.2.2.2.2.2.1,r22.2.1.2.2.2.2.2.2.1,r22.2.1.2.2.2.2.2.2.2.1,r22.2.1.2.2.2.2.2.2.2.2.1,r22.2.1.2.2.2.2.2.2.2.2.2.1,r22.2.1.2.2.2.2.2.2.2.2.2.2.1,())].length≤4294967296)) <|
 .ob (Fj r22.1 r22.2.1) fun r23=>
 .chk (decide ((((([]:List A8)++[r7])++[((10:Int),(0:Int),(1:Int),([]:List YB),(([]:List YB)++u1.1),u26.1,(0:Int),([]:List YB),(([]:List YB)++u26.2.1),(0:Int),(0:Int),(0:Int),())])++[r20]).length+[r23].length≤4294967296)) <|
 .leaf ((r1.1,r1.2.1,u10.1,r22.1.1,r22.1.2.1,r22.1.2.2.1,u38.1,u38.2.1,u38.2.2.1,u39.1,u39.2.1,u39.2.2.1,u39.2.2.2.1,u40.1,u40.2.1,u40.2.2.1,u40.2.2.2.1,u40.2.2.2.2.1,r21.1.1,r21.1.2.1,r21.1.2.2.1,u12.2.1,a1.1,u13.1,()),(((([]:List Bl)++[(u11.1,u11.2.1,r19.2.1.1,r19.2.1.2.1,r19.2.1.2.2.1,r19.2.1.2.2.2.1,r19.2.1.2.2.2.2.1,r19.2.1.2.2.2.2.2.1,r19.2.1.2.2.2.2.2.2.1,r19.2.1.2.2.2.2.2.2.2.1,r19.2.1.2.2.2.2.2.2.2.2.1,r19.2.1.2.2.2.2.2.2.2.2.2.1,r19.2.1.2.2.2.2.2.2.2.2.2.2.1,())])++[(a2.1,a2.2.1,r22.2.1.1,r22.2.1.2.1,r22.2.1.2.2.1,r22.2.1.2.2.2.1,r22.2.1.2.2.2.2.1,r22.2.1.2.2.2.2.2.1,r22.2.1.2.2.2.2.2.2.1,r22.2.1.2.2.2.2.2.2.2.1,r22.2.1.2.2.2.2.2.2.2.2.1,r22.2.1.2.2.2.2.2.2.2.2.2.1,r22.2.1.2.2.2.2.2.2.2.2.2.2.1,())]),()),(((((([]:List A8)++[r7])++[((10:Int),(0:Int),(1:Int),([]:List YB),(([]:List YB)++u1.1),u26.1,(0:Int),([]:List YB),(([]:List YB)++u26.2.1),(0:Int),(0:Int),(0:Int),())])++[r20])++[r23]),()),(true,()))))) (
 .ob (Df (u11.1,u11.2.1,u12.1,()) a1 a2 a4) fun r24=>
 .ob (Ci r18.1 ((5:Int),()) a4) fun r25=>letI u41:=r25.1.2.2.2;letI u42:=u41.2.2.2;letI u43:=u42.2.2.2.2;
 .br (!r24.2.1) (
 .leaf ((r1.1,r1.2.1,u10.1,r18.1.1,r18.1.2.1,u26.1,u26.2.1,u27.1,u27.2.1,u28.1,u28.2.1,u29.1,u29.2.1,u30.1,u30.2.1,u31.1,u31.2.1,u31.2.2.1,u11.1,u11.2.1,u12.1,u12.2.1,a1.1,u13.1,()),(([]:List Bl),()),(((([]:List A8)++[r7])++[((10:Int),(0:Int),(1:Int),([]:List YB),(([]:List YB)++u1.1),u26.1,(0:Int),([]:List YB),(([]:List YB)++u26.2.1),(0:Int),(0:Int),(0:Int),())]),()),(false,()))) (
 .br (r25.2.2.1 != (0:Int)) (
 .leaf ((r1.1,r1.2.1,u10.1,r18.1.1,r18.1.2.1,u26.1,u26.2.1,u27.1,u27.2.1,u28.1,u28.2.1,u29.1,u29.2.1,u30.1,u30.2.1,u31.1,u31.2.1,u31.2.2.1,u11.1,u11.2.1,u12.1,u12.2.1,a1.1,u13.1,()),(([]:List Bl),()),(((([]:List A8)++[r7])++[((10:Int),(0:Int),(1:Int),([]:List YB),(([]:List YB)++u1.1),u26.1,(0:Int),([]:List YB),(([]:List YB)++u26.2.1),(0:Int),(0:Int),(0:Int),())]),()),(false,()))) (
 .chk (decide (([]:List Bl).length+[(a2.1,a2.2.1,r25.2.1.1,r25.2.1.2.1,r25.2.1.2.2.1,r25.2.1.2.2.2.1,r25.2.1.2.2.2.2.1,r25.2.1.2.2.2.2.2.1,r25.2.1.2.2.2.2.2.2.1,r25.2.1.2.2.2.2.2.2.2.1,r25.2.1.2.2.2.2.2.2.2.2.1,r25.2.1.2.2.2.2.2.2.2.2.2.1,r25.2.1.2.2.2.2.2.2.2.2.2.2.1,())].length≤4294967296)) <|
 .ob (Fj r25.1 r25.2.1) fun r26=>
 .chk (decide (((([]:List A8)++[r7])++[((10:Int),(0:Int),(1:Int),([]:List YB),(([]:List YB)++u1.1),u26.1,(0:Int),([]:List YB),(([]:List YB)++u26.2.1),(0:Int),(0:Int),(0:Int),())]).length+[r26].length≤4294967296)) <|
 .leaf ((r1.1,r1.2.1,u10.1,r25.1.1,r25.1.2.1,r25.1.2.2.1,u41.1,u41.2.1,u41.2.2.1,u42.1,u42.2.1,u42.2.2.1,u42.2.2.2.1,u43.1,u43.2.1,u43.2.2.1,u43.2.2.2.1,u43.2.2.2.2.1,r24.1.1,r24.1.2.1,r24.1.2.2.1,u12.2.1,a1.1,u13.1,()),((([]:List Bl)++[(a2.1,a2.2.1,r25.2.1.1,r25.2.1.2.1,r25.2.1.2.2.1,r25.2.1.2.2.2.1,r25.2.1.2.2.2.2.1,r25.2.1.2.2.2.2.2.1,r25.2.1.2.2.2.2.2.2.1,r25.2.1.2.2.2.2.2.2.2.1,r25.2.1.2.2.2.2.2.2.2.2.1,r25.2.1.2.2.2.2.2.2.2.2.2.1,r25.2.1.2.2.2.2.2.2.2.2.2.2.1,())]),()),((((([]:List A8)++[r7])++[((10:Int),(0:Int),(1:Int),([]:List YB),(([]:List YB)++u1.1),u26.1,(0:Int),([]:List YB),(([]:List YB)++u26.2.1),(0:Int),(0:Int),(0:Int),())])++[r26]),()),(true,())))))) (
 .ob (Ako r18.1) fun r27=>letI u44:=r27.1.2.2;letI u45:=u44.2.2;letI u46:=u45.2.2;letI u47:=u46.2.2;letI u48:=u47.2.2;letI u49:=u48.2.2;
 .br (r27.2.2.1==(0:Int)) (
 .chk (decide (([]:List Bl).length+[(u11.1,u11.2.1,r27.2.1.1,r27.2.1.2.1,r27.2.1.2.2.1,r27.2.1.2.2.2.1,r27.2.1.2.2.2.2.1,r27.2.1.2.2.2.2.2.1,r27.2.1.2.2.2.2.2.2.1,r27.2.1.2.2.2.2.2.2.2.1,r27.2.1.2.2.2.2.2.2.2.2.1,r27.2.1.2.2.2.2.2.2.2.2.2.1,r27.2.1.2.2.2.2.2.2.2.2.2.2.1,())].length≤4294967296)) <|
 .ob (Fj r27.1 r27.2.1) fun r28=>
 .chk (decide ((([]:List A8)++[r7]).length+[r28].length≤4294967296)) <|
 .ob (Df (u11.1,u11.2.1,u12.1,()) a1 a2 a4) fun r29=>
 .ob (Ci r27.1 ((5:Int),()) a4) fun r30=>letI u50:=r30.1.2.2.2;letI u51:=u50.2.2.2;letI u52:=u51.2.2.2.2;
 .br (!r29.2.1) (
 .leaf ((r1.1,r1.2.1,u10.1,r27.1.1,r27.1.2.1,u44.1,u44.2.1,u45.1,u45.2.1,u46.1,u46.2.1,u47.1,u47.2.1,u48.1,u48.2.1,u49.1,u49.2.1,u49.2.2.1,u11.1,u11.2.1,u12.1,u12.2.1,a1.1,u13.1,()),((([]:List Bl)++[(u11.1,u11.2.1,r27.2.1.1,r27.2.1.2.1,r27.2.1.2.2.1,r27.2.1.2.2.2.1,r27.2.1.2.2.2.2.1,r27.2.1.2.2.2.2.2.1,r27.2.1.2.2.2.2.2.2.1,r27.2.1.2.2.2.2.2.2.2.1,r27.2.1.2.2.2.2.2.2.2.2.1,r27.2.1.2.2.2.2.2.2.2.2.2.1,r27.2.1.2.2.2.2.2.2.2.2.2.2.1,())]),()),(((([]:List A8)++[r7])++[r28]),()),(false,()))) (
 .br (r30.2.2.1 != (0:Int)) (
 .leaf ((r1.1,r1.2.1,u10.1,r27.1.1,r27.1.2.1,u44.1,u44.2.1,u45.1,u45.2.1,u46.1,u46.2.1,u47.1,u47.2.1,u48.1,u48.2.1,u49.1,u49.2.1,u49.2.2.1,u11.1,u11.2.1,u12.1,u12.2.1,a1.1,u13.1,()),((([]:List Bl)++[(u11.1,u11.2.1,r27.2.1.1,r27.2.1.2.1,r27.2.1.2.2.1,r27.2.1.2.2.2.1,r27.2.1.2.2.2.2.1,r27.2.1.2.2.2.2.2.1,r27.2.1.2.2.2.2.2.2.1,r27.2.1.2.2.2.2.2.2.2.1,r27.2.1.2.2.2.2.2.2.2.2.1,r27.2.1.2.2.2.2.2.2.2.2.2.1,r27.2.1.2.2.2.2.2.2.2.2.2.2.1,())]),()),(((([]:List A8)++[r7])++[r28]),()),(false,()))) (
 .chk (decide ((([]:List Bl)++[(u11.1,u11.2.1,r27.2.1.1,r27.2.1.2.1,r27.2.1.2.2.1,r27.2.1.2.2.2.1,r27.2.1.2.2.2.2.1,r27.2.1.2.2.2.2.2.1,r27.2.1.2.2.2.2.2.2.1,r27.2.1.2.2.2.2.2.2.2.1,r27.2.1.2.2.2.2.2.2.2.2.1,r27.2.1.2.2.2.2.2.2.2.2.2.1,r27.2.1.2.2.2.2.2.2.2.2.2.2.1,())]).length+[(a2.1,a2.2.1,r30.2.1.1,r30.2.1.2.1,r30.2.1.2.2.1,r30.2.1.2.2.2.1,r30.2.1.2.2.2.2.1,r30.2.1.2.2.2.2.2.1,r30.2.1.2.2.2.2.2.2.1,r30.2.1.2.2.2.2.2.2.2.1,r30.2.1.2.2.2.2.2.2.2.2.1,r30.2.1.2.2.2.2.2.2.2.2.2.1,r30.2.1.2.2.2.2.2.2.2.2.2.2.1,())].length≤4294967296)) <|
 .ob (Fj r30.1 r30.2.1) fun r31=>
 .chk (decide (((([]:List A8)++[r7])++[r28]).length+[r31].length≤4294967296)) <|
 .leaf ((r1.1,r1.2.1,u10.1,r30.1.1,r30.1.2.1,r30.1.2.2.1,u50.1,u50.2.1,u50.2.2.1,u51.1,u51.2.1,u51.2.2.1,u51.2.2.2.1,u52.1,u52.2.1,u52.2.2.1,u52.2.2.2.1,u52.2.2.2.2.1,r29.1.1,r29.1.2.1,r29.1.2.2.1,u12.2.1,a1.1,u13.1,()),(((([]:List Bl)++[(u11.1,u11.2.1,r27.2.1.1,r27.2.1.2.1,r27.2.1.2.2.1,r27.2.1.2.2.2.1,r27.2.1.2.2.2.2.1,r27.2.1.2.2.2.2.2.1,r27.2.1.2.2.2.2.2.2.1,r27.2.1.2.2.2.2.2.2.2.1,r27.2.1.2.2.2.2.2.2.2.2.1,r27.2.1.2.2.2.2.2.2.2.2.2.1,r27.2.1.2.2.2.2.2.2.2.2.2.2.1,())])++[(a2.1,a2.2.1,r30.2.1.1,r30.2.1.2.1,r30.2.1.2.2.1,r30.2.1.2.2.2.1,r30.2.1.2.2.2.2.1,r30.2.1.2.2.2.2.2.1,r30.2.1.2.2.2.2.2.2.1,r30.2.1.2.2.2.2.2.2.2.1,r30.2.1.2.2.2.2.2.2.2.2.1,r30.2.1.2.2.2.2.2.2.2.2.2.1,r30.2.1.2.2.2.2.2.2.2.2.2.2.1,())]),()),((((([]:List A8)++[r7])++[r28])++[r31]),()),(true,()))))) (
 .ob (Df (u11.1,u11.2.1,u12.1,()) a1 a2 a4) fun r32=>
 .ob (Ci r18.1 ((5:Int),()) a4) fun r33=>
 .br (!r32.2.1) (
 .leaf ((r1.1,r1.2.1,u10.1,r18.1.1,r18.1.2.1,u26.1,u26.2.1,u27.1,u27.2.1,u28.1,u28.2.1,u29.1,u29.2.1,u30.1,u30.2.1,u31.1,u31.2.1,u31.2.2.1,u11.1,u11.2.1,u12.1,u12.2.1,a1.1,u13.1,()),(([]:List Bl),()),((([]:List A8)++[r7]),()),(false,()))) (
 .br (r33.2.2.1 != (0:Int)) (
 .leaf ((r1.1,r1.2.1,u10.1,r18.1.1,r18.1.2.1,u26.1,u26.2.1,u27.1,u27.2.1,u28.1,u28.2.1,u29.1,u29.2.1,u30.1,u30.2.1,u31.1,u31.2.1,u31.2.2.1,u11.1,u11.2.1,u12.1,u12.2.1,a1.1,u13.1,()),(([]:List Bl),()),((([]:List A8)++[r7]),()),(false,()))) (
 So a2 r33 r7 r1 r32 a1))))) (
 Ni r1 a1 a2 a4 r4 r7)) (
 Ni r1 a1 a2 a4 r4 r7)))))))
def Ajh (a0:Bd) (a1:YI) (a2:Bu) (a3:Aq) (a4:YBs):Option (Bd×((List Bl)×Unit)×((List A8)×Unit)×(Bool×Unit)):=(Ajg a0 a1 a2 a3 a4).val
end
end Go.Proofs.YtmhhajdeafijmaaGreat

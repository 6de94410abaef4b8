/-
  What the functions of the seat answer, as plain terms (printed by a program, proved in the texts P); nothing is assumed.
-/
import Derived.Test.YtfljmgnghlpapaaGreatW0
namespace Go.Proofs.YtfljmgnghlpapaaGreat
open Go.RowKit IntKind
set_option linter.unusedVariables false
set_option maxRecDepth 100000
set_option maxHeartbeats 4000000
noncomputable section
def F3 (x5:(List A6)×(List Ad)×Int×Int×(List YBs)×(List YB)×(List YB)×Int×Int×(List Ad)×(List Ak)×(List YBs)×(List YB)×(List YB)×Int×Int×(List Ad)×(List Ak)×Unit):Option (((List A6)×(List Ad)×Int×Int×(List YBs)×(List YB)×(List YB)×Int×Int×(List Ad)×(List Ak)×(List YBs)×(List YB)×(List YB)×Int×Int×(List Ad)×(List Ak)×Unit)⊕(((List A6)×(List YBs)×(List YB)×(List YB)×Int×Int×(List Ad)×(List Ak)×(List YBs)×(List YB)×(List YB)×Int×Int×(List Ad)×(List Ak)×Unit))):=
 letI u1:=x5.2.2;letI u2:=u1.2.2;letI u3:=u2.2.2;letI u4:=u3.2.2;letI u5:=u4.2.2;letI u6:=u5.2.2;letI u7:=u6.2.2;letI u8:=u7.2.2;Tree.val (α:=((List A6)×(List Ad)×Int×Int×(List YBs)×(List YB)×(List YB)×Int×Int×(List Ad)×(List Ak)×(List YBs)×(List YB)×(List YB)×Int×Int×(List Ad)×(List Ak)×Unit)⊕(((List A6)×(List YBs)×(List YB)×(List YB)×Int×Int×(List Ad)×(List Ak)×(List YBs)×(List YB)×(List YB)×Int×Int×(List Ad)×(List Ak)×Unit))) <|
 .br (decide (u1.2.1<u1.1)) (
 .ob (idx x5.2.1 u1.2.1) fun e6=>
 .ob (Qj (u7.2.1,u8.1,()) (e6.2.2.1,())) fun r7=>
 .br (!e6.2.2.2.2.2.2.2.2.2.2.2.2.2.2.2.2.2.2.2.2.2.2.2.1) (
 .br (decide (r7.1<(0:Int))) (
 .ob (Pa (e6.1,()) ((1:Int),()) (e6.2.2.1,())) fun r8=>
 .chk (decide (x5.1.length+[r8].length≤4294967296)) <|
 .leaf (.inl ((x5.1++[r8]),x5.2.1,u1.1,(i64.wrap (u1.2.1+(1:Int))),u2.1,u2.2.1,u3.1,u3.2.1,u4.1,u4.2.1,u5.1,u5.2.1,u6.1,u6.2.1,u7.1,u7.2.1,u8.1,u8.2.1,()))) (
 .ob (idx u8.1 r7.1) fun e9=>
 .br e9.2.2.2.2.2.2.2.2.2.2.2.2.2.2.2.2.2.2.2.2.2.2.2.1 (
 .ob (Pa (e6.1,()) ((1:Int),()) (e6.2.2.1,())) fun r10=>
 .chk (decide (x5.1.length+[r10].length≤4294967296)) <|
 .leaf (.inl ((x5.1++[r10]),x5.2.1,u1.1,(i64.wrap (u1.2.1+(1:Int))),u2.1,u2.2.1,u3.1,u3.2.1,u4.1,u4.2.1,u5.1,u5.2.1,u6.1,u6.2.1,u7.1,u7.2.1,u8.1,u8.2.1,()))) (
 .leaf (.inl (x5.1,x5.2.1,u1.1,(i64.wrap (u1.2.1+(1:Int))),u2.1,u2.2.1,u3.1,u3.2.1,u4.1,u4.2.1,u5.1,u5.2.1,u6.1,u6.2.1,u7.1,u7.2.1,u8.1,u8.2.1,()))))) (
 .leaf (.inl (x5.1,x5.2.1,u1.1,(i64.wrap (u1.2.1+(1:Int))),u2.1,u2.2.1,u3.1,u3.2.1,u4.1,u4.2.1,u5.1,u5.2.1,u6.1,u6.2.1,u7.1,u7.2.1,u8.1,u8.2.1,())))) (
 .leaf (.inr (x5.1,u2.1,u2.2.1,u3.1,u3.2.1,u4.1,u4.2.1,u5.1,u5.2.1,u6.1,u6.2.1,u7.1,u7.2.1,u8.1,u8.2.1,())))
def Mw (a0:Az) (a1:YI):Tree (Az×((List A6)×Unit)):=
 letI u1:=a0.2.2.2.2;.ob (Ho a0) fun r1=>
 .ob (Eb a0) fun r2=>
 .br (!r2.1) (
 .leaf (r1,(([]:List A6),()))) (
 .ob (A0 a1 ((0:Int),()) ((1000000:Int),())) fun r3=>
 .br (!r3.1) (
 .leaf (r1,(([]:List A6),()))) (
 .ob (Ac7 (u1.1,u1.2.1,()) a1) fun r4=>
 .ob (As F3 (([]:List A6),u1.2.1,(a0.2.2.2.2.2.1.length:Int),(0:Int),([]:List YBs),([]:List YB),([]:List YB),(0:Int),(0:Int),([]:List Ad),([]:List Ak),r1.1,r1.2.1,r1.2.2.1,r1.2.2.2.1,r4.1,r4.2.1,r1.2.2.2.2.2.2.1,())) fun o11=>letI u2:=o11.2.2.2.2.2.2.2.2;letI u3:=u2.2.2.2;
 .leaf ((u2.1,u2.2.1,u2.2.2.1,u3.1,u3.2.1,u3.2.2.1,u3.2.2.2.1,()),(o11.1,()))))
def Hp (a0:Az) (a1:YI):Option (Az×((List A6)×Unit)):=(Mw a0 a1).val
def Acs (a0:YBs) (a1:YI):Tree ((Bool×Unit)):=
 .br ((a0.1.length:Int)==(0:Int)) (
 .leaf (true,())) (
 .leaf (((a0.1.length:Int)==a1.1),()))
def N3 (a0:YBs) (a1:YI):Option ((Bool×Unit)):=(Acs a0 a1).val
def Ag2 (a0:A6):Tree ((Bool×Unit)):=
 letI u1:=a0.2.2.2;letI u2:=u1.2.2.2.2.2;.ob (A0 (a0.1,()) ((1:Int),()) ((17:Int),())) fun r1=>
 .br r1.1 (
 .ob (A0 (a0.2.1,()) ((0:Int),()) ((9:Int),())) fun r2=>
 .br r2.1 (
 .ob (A0 (a0.2.2.1,()) ((0:Int),()) ((1:Int),())) fun r3=>
 .br r3.1 (
 .ob (A0 (u1.2.2.1,()) ((0:Int),()) ((4294967295:Int),())) fun r4=>
 .br r4.1 (
 .ob (A0 (u1.2.2.2.1,()) ((0:Int),()) ((281474976710655:Int),())) fun r5=>
 .br r5.1 (
 .ob (A0 (u2.2.2.2.1,()) ((0:Int),()) ((1000000:Int),())) fun r6=>
 .br r6.1 (
 .ob (N3 (u1.1,()) ((12:Int),())) fun r7=>
 .br r7.1 (
 .ob (N3 (u1.2.1,()) ((12:Int),())) fun r8=>
 .br r8.1 (
 .br (decide ((a0.2.2.2.2.2.2.2.1.length:Int)≤(100:Int))) (
 .ob (N3 (u2.1,()) ((32:Int),())) fun r9=>
 .br r9.1 (
 .ob (F9 (u2.2.1,u2.2.2.1,())) fun r10=>
 .leaf r10) (
 .leaf (false,()))) (
 .leaf (false,()))) (
 .leaf (false,()))) (
 .leaf (false,()))) (
 .leaf (false,()))) (
 .leaf (false,()))) (
 .leaf (false,()))) (
 .leaf (false,()))) (
 .leaf (false,()))) (
 .leaf (false,()))
def Ahu (a0:A6):Option ((Bool×Unit)):=(Ag2 a0).val
def Ie (x1:(List A6)×Int×Unit):Option (((List A6)×Int×Unit)⊕((Bool×Unit)⊕(Unit))):=
 Tree.val (α:=((List A6)×Int×Unit)⊕((Bool×Unit)⊕(Unit))) <|
 .br (decide (x1.2.1<(x1.1.length:Int))) (
 .ob (idx x1.1 x1.2.1) fun e2=>
 .ob (Ahu e2) fun r3=>
 .br (!r3.1) (
 .leaf (.inr (.inl (false,())))) (
 .leaf (.inl (x1.1,(i64.wrap (x1.2.1+(1:Int))),())))) (
 .leaf (.inr (.inr ())))
def Acu (a0:(List A6)×Unit):Tree ((Bool×Unit)):=
 .ob (As Ie (a0.1,(0:Int),())) fun o4=>
 .sm o4 (fun o5=>
 .leaf o5) (fun o6=>
 .leaf (true,()))
def S6 (a0:(List A6)×Unit):Option ((Bool×Unit)):=(Acu a0).val
def Atq (a0:YI) (a1:YBs) (a2:YI) (a3:YI):Tree (YBs):=
 .ob (Mz a0) fun r1=>
 .br (!r1.1) (
 .leaf (([]:List YB),())) (
 .ob (Di a1) fun r2=>
 .br (!r2.1) (
 .leaf (([]:List YB),())) (
 .ob (A0 a2 ((0:Int),()) ((4294967295:Int),())) fun r3=>
 .br (!r3.1) (
 .leaf (([]:List YB),())) (
 .ob (A0 a3 ((0:Int),()) ((281474976710655:Int),())) fun r4=>
 .br (!r4.1) (
 .leaf (([]:List YB),())) (
 .ob (Fj (([]:List YB),()) a2 ((4:Int),())) fun r5=>
 .ob (Fj (([]:List YB),()) a3 ((6:Int),())) fun r6=>
 .ob (Fk ([([((u8.wrap (a0.1)),())],()),a1,r5,r6],())) fun r7=>
 .leaf r7))))
def Atz (a0:YI) (a1:YBs) (a2:YI) (a3:YI):Option (YBs):=(Atq a0 a1 a2 a3).val
def Apl (a0:YBs) (a1:YBs) (a2:YI):Tree (YBs):=
 .ob (A0 a2 ((0:Int),()) ((6:Int),())) fun r1=>
 .br (!r1.1) (
 .leaf (([]:List YB),())) (
 .br (decide ((a1.1.length:Int)>(100:Int))) (
 .leaf (([]:List YB),())) (
 .ob (Fk ([([((115:Int),())],()),a1],())) fun r2=>
 .ob (Fj r2 a2 ((4:Int),())) fun r3=>
 .ob (Rr a0 r3) fun r4=>
 .leaf r4))
def A5f (a0:YBs) (a1:YBs) (a2:YI):Option (YBs):=(Apl a0 a1 a2).val
def Al4 (x2:(List YB)×(List YB)×Int×(List YB)×Int×Unit):Option (((List YB)×(List YB)×Int×(List YB)×Int×Unit)⊕((Int×(List YB)×Unit))):=
 letI u1:=x2.2.2;Tree.val (α:=((List YB)×(List YB)×Int×(List YB)×Int×Unit)⊕((Int×(List YB)×Unit))) <|
 .br (decide ((x2.2.2.2.1.length:Int)<u1.1)) (
 .ob (A5f (x2.1,()) (x2.2.1,()) (u1.2.2.1,())) fun r3=>
 .chk (decide (x2.2.2.2.1.length+r3.1.length≤4294967296)) <|
 .leaf (.inl (x2.1,x2.2.1,u1.1,(u1.2.1++r3.1),(i64.wrap (u1.2.2.1+(1:Int))),()))) (
 .leaf (.inr (u1.1,u1.2.1,())))
def Ats (a0:YBs) (a1:YBs) (a2:YI):Tree (YBs):=
 .ob (A0 a2 ((0:Int),()) ((200:Int),())) fun r1=>
 .br (!r1.1) (
 .leaf (([]:List YB),())) (
 .br (decide ((a1.1.length:Int)>(100:Int))) (
 .leaf (([]:List YB),())) (
 .br (decide ((a0.1.length:Int)>(1048576:Int))) (
 .leaf (([]:List YB),())) (
 .ob (As Al4 (a0.1,a1.1,a2.1,([]:List YB),(0:Int),())) fun o4=>
 .chk (decide ((0:Int)≤o4.1)) <|
 .chk (decide (o4.1≤(o4.2.1.length:Int))) <|
 .ob (Br (((o4.2.1.take (o4.1).toNat).drop ((0:Int)).toNat),())) fun r5=>
 .leaf r5)))
def A7z (a0:YBs) (a1:YBs) (a2:YI):Option (YBs):=(Ats a0 a1 a2).val
def Ax0 (x2:(List YB)×(List YB)×(List YB)×Int×Int×Unit):Option (((List YB)×(List YB)×(List YB)×Int×Int×Unit)⊕(YBs)):=
 letI u1:=x2.2.2.2;Tree.val (α:=((List YB)×(List YB)×(List YB)×Int×Int×Unit)⊕(YBs)) <|
 .br (decide (u1.2.1<u1.1)) (
 .ob (idx x2.2.2.1 u1.2.1) fun e3=>
 .ob (idx x2.1 u1.2.1) fun e4=>
 .chk (decide (x2.2.1.length+[((u8.wrap ((BitVec.ofInt (u8.bits) (e3.1) ^^^ BitVec.ofInt (u8.bits) (e4.1)).toNat:Nat)),())].length≤4294967296)) <|
 .leaf (.inl (x2.1,(x2.2.1++[((u8.wrap ((BitVec.ofInt (u8.bits) (e3.1) ^^^ BitVec.ofInt (u8.bits) (e4.1)).toNat:Nat)),())]),x2.2.2.1,u1.1,(i64.wrap (u1.2.1+(1:Int))),()))) (
 .leaf (.inr (x2.2.1,())))
def A6g (a0:YBs) (a1:YBs) (a2:YBs):Tree (YBs):=
 .br (decide ((a2.1.length:Int)>(200:Int))) (
 .leaf (([]:List YB),())) (
 .br (decide ((a1.1.length:Int)>(100:Int))) (
 .leaf (([]:List YB),())) (
 .br (decide ((a0.1.length:Int)>(1048576:Int))) (
 .leaf (([]:List YB),())) (
 .ob (A7z a0 a1 ((a2.1.length:Int),())) fun r1=>
 .ob (As Ax0 (a2.1,([]:List YB),r1.1,(r1.1.length:Int),(0:Int),())) fun o5=>
 .leaf o5)))
def Be3 (a0:YBs) (a1:YBs) (a2:YBs):Option (YBs):=(A6g a0 a1 a2).val
def Al5 (a0:YI) (a1:Ch):Tree (YBs):=
 letI u1:=a1.2.2.2.2.2.2.2;.ob (Mz a0) fun r1=>
 .br (!r1.1) (
 .leaf (([]:List YB),())) (
 .ob (Qn (a1.1,())) fun r2=>
 .br (!r2.1) (
 .leaf (([]:List YB),())) (
 .ob (N0 a1) fun r3=>
 .br (!r3.1) (
 .leaf (([]:List YB),())) (
 .ob (Atz a0 (a1.2.2.2.1,()) (u1.1,()) (u1.2.1,())) fun r4=>
 .ob (Fk ([([((116:Int),())],()),r4,([((u8.wrap (a1.1)),())],()),(u1.2.2.1,())],())) fun r5=>
 .leaf r5)))
def Amk (a0:YI) (a1:Ch):Option (YBs):=(Al5 a0 a1).val
def A1t (a0:YBs) (a1:YI) (a2:YBs) (a3:YI) (a4:YI) (a5:YI) (a6:YBs):Tree (Ch×(Bool×Unit)):=
 .ob (Br a2) fun r1=>
 .ob (Br a6) fun r2=>
 .br ((a0.1.length:Int) != (32:Int)) (
 .leaf (((0:Int),(0:Int),([]:List YB),([]:List YB),(0:Int),([]:List YB),([]:List YB),(0:Int),(0:Int),([]:List YB),([]:List YB),()),(false,()))) (
 .ob (Mz a1) fun r3=>
 .br (!r3.1) (
 .leaf (((0:Int),(0:Int),([]:List YB),([]:List YB),(0:Int),([]:List YB),([]:List YB),(0:Int),(0:Int),([]:List YB),([]:List YB),()),(false,()))) (
 .ob (Qn a5) fun r4=>
 .br (!r4.1) (
 .leaf (((0:Int),(0:Int),([]:List YB),([]:List YB),(0:Int),([]:List YB),([]:List YB),(0:Int),(0:Int),([]:List YB),([]:List YB),()),(false,()))) (
 .ob (N0 (a5.1,(0:Int),([]:List YB),r1.1,(0:Int),([]:List YB),([]:List YB),a3.1,a4.1,r2.1,(List.replicate ((16:Int)).toNat ((0:Int),())),())) fun r5=>
 .br (!r5.1) (
 .leaf (((0:Int),(0:Int),([]:List YB),([]:List YB),(0:Int),([]:List YB),([]:List YB),(0:Int),(0:Int),([]:List YB),([]:List YB),()),(false,()))) (
 .ob (Atz a1 a2 a3 a4) fun r6=>
 .ob (Be3 a0 r6 a6) fun r7=>
 .ob (Amk a1 (a5.1,(0:Int),([]:List YB),r1.1,(0:Int),([]:List YB),([]:List YB),a3.1,a4.1,r7.1,(List.replicate ((16:Int)).toNat ((0:Int),())),())) fun r8=>
 .ob (Anv a0 r8) fun r9=>
 .leaf ((a5.1,(0:Int),([]:List YB),r1.1,(0:Int),([]:List YB),([]:List YB),a3.1,a4.1,r7.1,r9.1,()),(true,()))))))
def Arc (a0:YBs) (a1:YI) (a2:YBs) (a3:YI) (a4:YI) (a5:YI) (a6:YBs):Option (Ch×(Bool×Unit)):=(A1t a0 a1 a2 a3 a4 a5 a6).val
def Atu (a0:YEp) (a1:YI) (a2:YBs) (a3:YI) (a4:YBs):Tree (YEp×Ch×YI):=
 letI u1:=a0.2.2;.ob (Qf a0) fun r1=>letI u2:=r1.2.2;
 .ob (Xp a0) fun r2=>
 .br (!r2.1) (
 .leaf (r1,((0:Int),(0:Int),([]:List YB),([]:List YB),(0:Int),([]:List YB),([]:List YB),(0:Int),(0:Int),([]:List YB),([]:List YB),()),((1:Int),()))) (
 .ob (Arc (a0.2.1,()) a1 a2 (a0.1,()) ((0:Int),()) a3 a4) fun r3=>
 .br (!r3.2.1) (
 .leaf (r1,((0:Int),(0:Int),([]:List YB),([]:List YB),(0:Int),([]:List YB),([]:List YB),(0:Int),(0:Int),([]:List YB),([]:List YB),()),((1:Int),()))) (
 .br (a3.1==(4:Int)) (
 .br (decide (u1.1≥(281474976709656:Int))) (
 .leaf (r1,((0:Int),(0:Int),([]:List YB),([]:List YB),(0:Int),([]:List YB),([]:List YB),(0:Int),(0:Int),([]:List YB),([]:List YB),()),((4:Int),()))) (
 .br (u1.1==(281474976710656:Int)) (
 .leaf (r1,((0:Int),(0:Int),([]:List YB),([]:List YB),(0:Int),([]:List YB),([]:List YB),(0:Int),(0:Int),([]:List YB),([]:List YB),()),((5:Int),()))) (
 .ob (Arc (a0.2.1,()) a1 a2 (a0.1,()) (u1.1,()) a3 a4) fun r4=>
 .leaf ((r1.1,r1.2.1,(i64.wrap (u2.1+(1:Int))),u2.2.1,u2.2.2.1,()),r4.1,((0:Int),()))))) (
 .br (u1.1==(281474976710656:Int)) (
 .leaf (r1,((0:Int),(0:Int),([]:List YB),([]:List YB),(0:Int),([]:List YB),([]:List YB),(0:Int),(0:Int),([]:List YB),([]:List YB),()),((5:Int),()))) (
 .ob (Arc (a0.2.1,()) a1 a2 (a0.1,()) (u1.1,()) a3 a4) fun r5=>
 .leaf ((r1.1,r1.2.1,(i64.wrap (u2.1+(1:Int))),u2.2.1,u2.2.2.1,()),r5.1,((0:Int),()))))))
def A70 (a0:YEp) (a1:YI) (a2:YBs) (a3:YI) (a4:YBs):Option (YEp×Ch×YI):=(Atu a0 a1 a2 a3 a4).val
def Al7 (a0:Bt) (a1:YI) (a2:YBs):Tree (Bt×Ch×YI):=
 letI u1:=a0.2.2.2;.ob (Lz a0) fun r1=>letI u2:=r1.2.2.2.2.2.2.2;letI u3:=u2.2.2.2;
 .ob (Qi a0) fun r2=>
 .br (!r2.1) (
 .leaf (r1,((0:Int),(0:Int),([]:List YB),([]:List YB),(0:Int),([]:List YB),([]:List YB),(0:Int),(0:Int),([]:List YB),([]:List YB),()),((1:Int),()))) (
 .ob (A70 (a0.2.2.1,u1.1,u1.2.1,u1.2.2.1,u1.2.2.2.1,()) (a0.1,()) (a0.2.1,()) a1 a2) fun r3=>
 .leaf ((r1.1,r1.2.1,r3.1.1,r3.1.2.1,r3.1.2.2.1,r3.1.2.2.2.1,r3.1.2.2.2.2.1,u2.1,u2.2.1,u2.2.2.1,u3.1,u3.2.1,u3.2.2.1,u3.2.2.2.1,u3.2.2.2.2.1,()),r3.2.1,r3.2.2))
def A1y (a0:Bt) (a1:YI) (a2:YBs):Option (Bt×Ch×YI):=(Al7 a0 a1 a2).val
def A1v (a0:YBs) (a1:YBs):Tree (A6):=
 .ob (Br a0) fun r1=>
 .ob (Br a1) fun r2=>
 .leaf ((15:Int),(0:Int),(0:Int),([]:List YB),([]:List YB),(0:Int),(0:Int),r2.1,r1.1,(0:Int),(0:Int),(0:Int),())
def Bc2 (a0:YBs) (a1:YBs):Option (A6):=(A1v a0 a1).val
def Atw (a0:Bt) (a1:Ch):Tree (A6):=
 .ob (Amk (a0.1,()) a1) fun r1=>
 .ob (Bc2 (a0.2.2.2.1,()) r1) fun r2=>
 .leaf r2
def A71 (a0:Bt) (a1:Ch):Option (A6):=(Atw a0 a1).val
def Xc (a0:Ad) (a1:YBs):Tree (Ad×((List Ou)×Unit)×((List A6)×Unit)×YI):=
 letI u1:=a0.2.2.2;letI u2:=u1.2.2.2;letI u3:=u2.2.2.2;letI u4:=u3.2.2.2;letI u5:=u4.2.2.2.2;.ob (Gd a0) fun r1=>letI u6:=r1.2.2.2.2.2.2.2.2.2.2.2.2.2.2.2.2.2.2;
 .ob (J5 a0) fun r2=>
 .br (!r2.1) (
 .leaf (r1,(([]:List Ou),()),(([]:List A6),()),((1:Int),()))) (
 .br (decide ((a1.1.length:Int)>(40:Int))) (
 .leaf (r1,(([]:List Ou),()),(([]:List A6),()),((1:Int),()))) (
 .br u5.2.2.2.2.2.2.2.1 (
 .leaf (r1,(([]:List Ou),()),(([]:List A6),()),((6:Int),()))) (
 .ob (A1y (u1.1,u1.2.1,u1.2.2.1,u2.1,u2.2.1,u2.2.2.1,u3.1,u3.2.1,u3.2.2.1,u4.1,u4.2.1,u4.2.2.1,u4.2.2.2.1,u5.1,u5.2.1,()) ((4:Int),()) a1) fun r3=>letI u7:=r3.1.2.2.2;letI u8:=u7.2.2.2;letI u9:=u8.2.2.2.2;
 .br (r3.2.2.1 != (0:Int)) (
 .leaf (r1,(([]:List Ou),()),(([]:List A6),()),r3.2.2)) (
 .ob (Br (r3.2.1.2.2.2.1,())) fun r4=>
 .ob (Br a1) fun r5=>
 .ob (A71 r3.1 r3.2.1) fun r6=>
 .leaf ((r1.1,r1.2.1,r1.2.2.1,r3.1.1,r3.1.2.1,r3.1.2.2.1,u7.1,u7.2.1,u7.2.2.1,u8.1,u8.2.1,u8.2.2.1,u8.2.2.2.1,u9.1,u9.2.1,u9.2.2.1,u9.2.2.2.1,u9.2.2.2.2.1,u6.1,u6.2.1,u6.2.2.1,u6.2.2.2.1,u6.2.2.2.2.1,u6.2.2.2.2.2.1,()),([(u5.2.2.1,u5.2.2.2.1,r3.2.1.1,r3.2.1.2.1,r3.2.1.2.2.1,r3.2.1.2.2.2.1,r3.2.1.2.2.2.2.1,r3.2.1.2.2.2.2.2.1,r3.2.1.2.2.2.2.2.2.1,r3.2.1.2.2.2.2.2.2.2.1,r3.2.1.2.2.2.2.2.2.2.2.1,r3.2.1.2.2.2.2.2.2.2.2.2.1,r3.2.1.2.2.2.2.2.2.2.2.2.2.1,())],()),([r6,((5:Int),(0:Int),(1:Int),([]:List YB),r4.1,r3.2.1.2.2.2.2.2.2.2.1,r3.2.1.2.2.2.2.2.2.2.2.1,r5.1,([]:List YB),(0:Int),(0:Int),(0:Int),())],()),((0:Int),()))))))
def X1 (a0:Ad) (a1:YBs):Option (Ad×((List Ou)×Unit)×((List A6)×Unit)×YI):=(Xc a0 a1).val
def Ro (a0:Az) (a1:YI) (a2:YI) (a3:YBs):Tree (Az×((List Ou)×Unit)×((List A6)×Unit)×YI):=
 letI u1:=a0.2.2.2.2;.ob (Ho a0) fun r1=>
 .ob (Eb a0) fun r2=>
 .br (!r2.1) (
 .leaf (r1,(([]:List Ou),()),(([]:List A6),()),((1:Int),()))) (
 .ob (A0 a1 ((0:Int),()) ((1000000:Int),())) fun r3=>
 .br (!r3.1) (
 .leaf (r1,(([]:List Ou),()),(([]:List A6),()),((1:Int),()))) (
 .br (decide (a2.1<(0:Int))) (
 .leaf (r1,(([]:List Ou),()),(([]:List A6),()),((8:Int),()))) (
 .br (decide (a2.1≥(a0.2.2.2.2.2.1.length:Int))) (
 .leaf (r1,(([]:List Ou),()),(([]:List A6),()),((8:Int),()))) (
 .ob (idx u1.2.1 a2.1) fun e4=>
 .ob (X1 e4 a3) fun r5=>
 .br (r5.2.2.2.1 != (0:Int)) (
 .leaf (r1,(([]:List Ou),()),(([]:List A6),()),r5.2.2.2)) (
 .ob (S5 (u1.1,u1.2.1,()) a2 r5.1) fun r6=>
 .leaf ((r1.1,r1.2.1,r1.2.2.1,r1.2.2.2.1,r6.1.1,r6.1.2.1,r1.2.2.2.2.2.2.1,()),r5.2.1,r5.2.2.1,((0:Int),())))))))
def Jk (a0:Az) (a1:YI) (a2:YI) (a3:YBs):Option (Az×((List Ou)×Unit)×((List A6)×Unit)×YI):=(Ro a0 a1 a2 a3).val
def Lv (a0:YBs):Tree ((Bool×Unit)):=
 .ob (Ant a0) fun r1=>
 .br r1.1 (
 .leaf (true,())) (
 .ob (K0 a0) fun r2=>letI u1:=r2.1.2.2.2.2;
 .ob (It r2.1 r2.2) fun r3=>letI u2:=r3.1.2.2.2.2;
 .ob (Qo r2.1 r2.2) fun r4=>
 .ob (L5 a0) fun r5=>
 .ob (Hp r5.1 r5.2) fun r6=>
 .br (r3.2.2.1 != r4.2.2.1) (
 .leaf (false,())) (
 .ob (Fa r3.1 r4.1) fun r7=>
 .br (!r7.1) (
 .leaf (false,())) (
 .ob (Ok r3.2.1 r4.2.1) fun r8=>
 .br (!r8.1) (
 .leaf (false,())) (
 .ob (Eb r5.1) fun r9=>
 .br r9.1 (
 .ob (Eb r6.1) fun r10=>
 .br (!r10.1) (
 .leaf (false,())) (
 .ob (S6 r6.2) fun r11=>
 .br (!r11.1) (
 .leaf (false,())) (
 .ob (Ea (r5.1.2.2.2.2.1,r5.1.2.2.2.2.2.1,())) fun r12=>
 .ob (Ea (r6.1.2.2.2.2.1,r6.1.2.2.2.2.2.1,())) fun r13=>
 .br ((r6.2.1.length:Int) != (i64.wrap (r12.1-r13.1))) (
 .leaf (false,())) (
 .br (r3.2.2.1 != (0:Int)) (
 .ob (Fa r3.1 r2.1) fun r14=>
 .br r14.1 (
 .leaf (((r3.2.1.1.length:Int)==(0:Int)),())) (
 .leaf (false,()))) (
 .ob (Jk r3.1 ((0:Int),()) r2.2 ([((1:Int),())],())) fun r15=>
 .ob (idx u2.2.1 r2.2.1) fun e16=>
 .br e16.2.2.2.2.2.2.2.2.2.2.2.2.2.2.2.2.2.2.2.2.2.2.2.1 (
 .ob (Ea (u2.1,u2.2.1,())) fun r17=>
 .ob (Ea (u1.1,u1.2.1,())) fun r18=>
 .br (r17.1==(i64.wrap (r18.1-(1:Int)))) (
 .br (r15.2.2.2.1==(6:Int)) (
 .leaf (((r3.2.1.1.length:Int)==(1:Int)),())) (
 .leaf (false,()))) (
 .leaf (false,()))) (
 .leaf (false,()))))))) (
 .br (r3.2.2.1 != (0:Int)) (
 .ob (Fa r3.1 r2.1) fun r19=>
 .br r19.1 (
 .leaf (((r3.2.1.1.length:Int)==(0:Int)),())) (
 .leaf (false,()))) (
 .ob (Jk r3.1 ((0:Int),()) r2.2 ([((1:Int),())],())) fun r20=>
 .ob (idx u2.2.1 r2.2.1) fun e21=>
 .br e21.2.2.2.2.2.2.2.2.2.2.2.2.2.2.2.2.2.2.2.2.2.2.2.1 (
 .ob (Ea (u2.1,u2.2.1,())) fun r22=>
 .ob (Ea (u1.1,u1.2.1,())) fun r23=>
 .br (r22.1==(i64.wrap (r23.1-(1:Int)))) (
 .br (r20.2.2.2.1==(6:Int)) (
 .leaf (((r3.2.1.1.length:Int)==(1:Int)),())) (
 .leaf (false,()))) (
 .leaf (false,()))) (
 .leaf (false,()))))))))
def Aml (a0:YBs):Option ((Bool×Unit)):=(Lv a0).val
def Ac8 (a0:Bp) (a1:Ad):Tree (Bp×YI):=
 .ob (He a0) fun r1=>
 .ob (L3 a0) fun r2=>
 .br (!r2.1) (
 .leaf (r1,((1:Int),()))) (
 .ob (J5 a1) fun r3=>
 .br (!r3.1) (
 .leaf (r1,((1:Int),()))) (
 .br a1.2.2.2.2.2.2.2.2.2.2.2.2.2.2.2.2.2.2.2.2.2.2.2.1 (
 .leaf (r1,((1:Int),()))) (
 .ob (Qj a0 (a1.2.2.1,())) fun r4=>
 .br (decide (r4.1≥(0:Int))) (
 .leaf (r1,((3:Int),()))) (
 .ob (Ea a0) fun r5=>
 .br (r5.1==a0.1) (
 .leaf (r1,((7:Int),()))) (
 .br ((a0.2.1.length:Int)==(12:Int)) (
 .leaf (r1,((7:Int),()))) (
 .ob (Gd a1) fun r6=>
 .chk (decide (r1.2.1.length+[r6].length≤4294967296)) <|
 .leaf ((r1.1,(r1.2.1++[r6]),()),((0:Int),()))))))))
def S7 (a0:Bp) (a1:Ad):Option (Bp×YI):=(Ac8 a0 a1).val
def At0:Tree (Cj):=
 .leaf ((-1:Int),(List.replicate ((32:Int)).toNat ((0:Int),())),())
def Vr:Option (Cj):=(At0).val
def Ax3 (a0:YI) (a1:YBs):Tree (YEp):=
 .ob (A0 a0 ((0:Int),()) ((4294967295:Int),())) fun r1=>
 .br (!r1.1) (
 .leaf ((0:Int),([]:List YB),(0:Int),(0:Int),([]:List YI),())) (
 .br ((a1.1.length:Int) != (32:Int)) (
 .leaf ((0:Int),([]:List YB),(0:Int),(0:Int),([]:List YI),())) (
 .ob (Br a1) fun r2=>
 .ob Vr fun r3=>
 .leaf (a0.1,r2.1,(0:Int),r3.1,r3.2.1,())))
def Ax4 (a0:YI) (a1:YBs):Option (YEp):=(Ax3 a0 a1).val
def Qq (x1:(List Ap)×Int×Int×Int×Int×Unit):Option (((List Ap)×Int×Int×Int×Int×Unit)⊕(YI⊕(Unit))):=
 letI u1:=x1.2.2;Tree.val (α:=((List Ap)×Int×Int×Int×Int×Unit)⊕(YI⊕(Unit))) <|
 .br (decide (u1.1<x1.2.1)) (
 .ob (idx x1.1 u1.1) fun e2=>
 .br (and (e2.1==u1.2.1) (and (e2.2.1==u1.2.2.1) true)) (
 .leaf (.inr (.inl (u1.1,())))) (
 .leaf (.inl (x1.1,x1.2.1,(i64.wrap (u1.1+(1:Int))),u1.2.1,u1.2.2.1,())))) (
 .leaf (.inr (.inr ())))
def At1 (a0:Bb) (a1:Bi):Tree (YI):=
 .ob (As Qq (a0.2.2.1,(a0.2.2.1.length:Int),(0:Int),a1.1,a1.2.1,())) fun o3=>
 .sm o3 (fun o4=>
 .leaf o4) (fun o5=>
 .leaf ((-1:Int),()))
def Ahv (a0:Bb) (a1:Bi):Option (YI):=(At1 a0 a1).val
def Ax5 (a0:Bb) (a1:YI) (a2:Bi) (a3:YBs):Tree (Bb×(Bool×Unit)):=
 .ob (Nz a0) fun r1=>
 .br (!r1.1) (
 .ob (Dk a0) fun r2=>
 .leaf (r2,(false,()))) (
 .ob (A0 a1 ((0:Int),()) ((1000000:Int),())) fun r3=>
 .br (!r3.1) (
 .ob (Dk a0) fun r4=>
 .leaf (r4,(false,()))) (
 .ob (F9 a2) fun r5=>
 .br (!r5.1) (
 .ob (Dk a0) fun r6=>
 .leaf (r6,(false,()))) (
 .ob (Di a3) fun r7=>
 .br (!r7.1) (
 .ob (Dk a0) fun r8=>
 .leaf (r8,(false,()))) (
 .br (and (a2.1==a0.1) (and (a2.2.1==a0.2.1) true)) (
 .ob (Dk a0) fun r9=>
 .leaf (r9,(false,()))) (
 .ob (Iu a0 a1) fun r10=>
 .ob (Ahv r10 a2) fun r11=>
 .br (decide (r11.1≥(0:Int))) (
 .ob (Dk a0) fun r12=>
 .leaf (r12,(false,()))) (
 .br ((r10.2.2.1.length:Int)==(3:Int)) (
 .ob (Dk a0) fun r13=>
 .leaf (r13,(false,()))) (
 .ob (Br a3) fun r14=>
 .chk (decide (r10.2.2.1.length+[(a2.1,a2.2.1,r14.1,(i64.wrap (a1.1+(6:Int))),())].length≤4294967296)) <|
 .leaf ((r10.1,r10.2.1,(r10.2.2.1++[(a2.1,a2.2.1,r14.1,(i64.wrap (a1.1+(6:Int))),())]),()),(true,())))))))))
def Ax6 (a0:Bb) (a1:YI) (a2:Bi) (a3:YBs):Option (Bb×(Bool×Unit)):=(Ax5 a0 a1 a2 a3).val
def Vs (x1:(List YB)×(List YB)×Int×Int×Unit):Option (((List YB)×(List YB)×Int×Int×Unit)⊕(YI)):=
 letI u1:=x1.2.2;Tree.val (α:=((List YB)×(List YB)×Int×Int×Unit)⊕(YI)) <|
 .br (decide (u1.2.1<(x1.1.length:Int))) (
 .ob (idx x1.1 u1.2.1) fun e2=>
 .ob (idx x1.2.1 u1.2.1) fun e3=>
 .leaf (.inl (x1.1,x1.2.1,(i64.wrap ((BitVec.ofInt (i64.bits) (u1.1) ||| BitVec.ofInt (i64.bits) ((i64.wrap ((u8.wrap ((BitVec.ofInt (u8.bits) (e2.1) ^^^ BitVec.ofInt (u8.bits) (e3.1)).toNat:Nat)))))).toNat:Nat)),(i64.wrap (u1.2.1+(1:Int))),()))) (
 .leaf (.inr (u1.1,())))
def A1z (a0:YBs) (a1:YBs):Tree (YI):=
 .br ((a0.1.length:Int) != (a1.1.length:Int)) (
 .leaf ((-1:Int),())) (
 .ob (As Vs (a0.1,a1.1,(0:Int),(0:Int),())) fun o4=>
 .leaf o4)
def A10 (a0:YBs) (a1:YBs):Option (YI):=(A1z a0 a1).val
end
end Go.Proofs.YtfljmgnghlpapaaGreat

/-
  What the functions of the seat answer, as plain terms (printed by a program, proved in the texts P); nothing is assumed.
-/
import Derived.Test.YtjlblagmjlmglaaGreatW0
namespace Go.Proofs.YtjlblagmjlmglaaGreat
open Go.RowKit IntKind
set_option linter.unusedVariables false
set_option maxRecDepth 100000
set_option maxHeartbeats 4000000
noncomputable section
def Akh (a0:Aw):Tree (Aa×Aw):=
 .ob (Ag9 a0) fun r1=>letI u1:=r1.1.2.2;letI u2:=u1.2.2;letI u3:=u2.2.2;letI u4:=u3.2.2;letI u5:=u4.2.2;
 .ob (Bi (a0.1,r1.2.2.1,r1.2.2.2.1,()) ((22:Int),())) fun r2=>letI u6:=r2.2.2;
 .br (r2.1.1==(0:Int)) (
 .ob (Bi (a0.1,u6.1,u6.2.1,()) ((11:Int),())) fun r3=>
 .leaf (((i64.wrap (r3.1.1-(1:Int))),r1.1.2.1,u1.1,u1.2.1,u2.1,u2.2.1,u3.1,u3.2.1,u4.1,u4.2.1,u5.1,()),(a0.1,r3.2.2.1,r3.2.2.2.1,()))) (
 .br (r2.1.1==(1:Int)) (
 .ob (A6 (a0.1,u6.1,u6.2.1,()) ([((0:Int),()),((1:Int),()),((10:Int),()),((-1:Int),())],())) fun r4=>
 .leaf ((r1.1.1,r4.1.1,u1.1,u1.2.1,u2.1,u2.2.1,u3.1,u3.2.1,u4.1,u4.2.1,u5.1,()),(a0.1,r4.2.2.1,r4.2.2.2.1,()))) (
 .br (r2.1.1==(2:Int)) (
 .ob (A6 (a0.1,u6.1,u6.2.1,()) ([((0:Int),()),((11:Int),()),((12:Int),()),((13:Int),())],())) fun r5=>
 .ob (A9 (a0.1,r5.2.2.1,r5.2.2.2.1,()) r5.1) fun r6=>
 .leaf ((r1.1.1,r1.1.2.1,r6.1.1,u1.2.1,u2.1,u2.2.1,u3.1,u3.2.1,u4.1,u4.2.1,u5.1,()),(a0.1,r6.2.2.1,r6.2.2.2.1,()))) (
 .br (r2.1.1==(3:Int)) (
 .ob (A6 (a0.1,u6.1,u6.2.1,()) ([((0:Int),()),((11:Int),()),((12:Int),()),((13:Int),())],())) fun r7=>
 .ob (A9 (a0.1,r7.2.2.1,r7.2.2.2.1,()) r7.1) fun r8=>
 .leaf ((r1.1.1,r1.1.2.1,u1.1,r8.1.1,u2.1,u2.2.1,u3.1,u3.2.1,u4.1,u4.2.1,u5.1,()),(a0.1,r8.2.2.1,r8.2.2.2.1,()))) (
 .br (r2.1.1==(4:Int)) (
 .ob (A6 (a0.1,u6.1,u6.2.1,()) ([((-1:Int),()),((0:Int),()),((1000001:Int),())],())) fun r9=>
 .leaf ((r1.1.1,r1.1.2.1,u1.1,u1.2.1,r9.1.1,u2.2.1,u3.1,u3.2.1,u4.1,u4.2.1,u5.1,()),(a0.1,r9.2.2.1,r9.2.2.2.1,()))) (
 .br (r2.1.1==(5:Int)) (
 .ob (A6 (a0.1,u6.1,u6.2.1,()) ([((0:Int),()),((15:Int),()),((16:Int),())],())) fun r10=>
 .ob (A9 (a0.1,r10.2.2.1,r10.2.2.2.1,()) r10.1) fun r11=>
 .leaf ((r1.1.1,r1.1.2.1,u1.1,u1.2.1,u2.1,r11.1.1,u3.1,u3.2.1,u4.1,u4.2.1,u5.1,()),(a0.1,r11.2.2.1,r11.2.2.2.1,()))) (
 .br (r2.1.1==(6:Int)) (
 .ob (A6 (a0.1,u6.1,u6.2.1,()) ([((0:Int),()),((15:Int),()),((16:Int),())],())) fun r12=>
 .ob (A9 (a0.1,r12.2.2.1,r12.2.2.2.1,()) r12.1) fun r13=>
 .leaf ((r1.1.1,r1.1.2.1,u1.1,u1.2.1,u2.1,u2.2.1,r13.1.1,u3.2.1,u4.1,u4.2.1,u5.1,()),(a0.1,r13.2.2.1,r13.2.2.2.1,()))) (
 .br (r2.1.1==(7:Int)) (
 .ob (A6 (a0.1,u6.1,u6.2.1,()) ([((-1:Int),()),((0:Int),()),((4294967296:Int),())],())) fun r14=>
 .leaf ((r1.1.1,r1.1.2.1,u1.1,u1.2.1,u2.1,u2.2.1,u3.1,r14.1.1,u4.1,u4.2.1,u5.1,()),(a0.1,r14.2.2.1,r14.2.2.2.1,()))) (
 .br (r2.1.1==(8:Int)) (
 .ob (A6 (a0.1,u6.1,u6.2.1,()) ([((-1:Int),()),((0:Int),()),((281474976710656:Int),())],())) fun r15=>
 .leaf ((r1.1.1,r1.1.2.1,u1.1,u1.2.1,u2.1,u2.2.1,u3.1,u3.2.1,r15.1.1,u4.2.1,u5.1,()),(a0.1,r15.2.2.1,r15.2.2.2.1,()))) (
 .br (r2.1.1==(9:Int)) (
 .ob (A6 (a0.1,u6.1,u6.2.1,()) ([((0:Int),()),((4:Int),()),((12:Int),()),((41:Int),())],())) fun r16=>
 .ob (A9 (a0.1,r16.2.2.1,r16.2.2.2.1,()) r16.1) fun r17=>
 .leaf ((r1.1.1,r1.1.2.1,u1.1,u1.2.1,u2.1,u2.2.1,u3.1,u3.2.1,u4.1,r17.1.1,u5.1,()),(a0.1,r17.2.2.1,r17.2.2.2.1,()))) (
 .br (r2.1.1==(10:Int)) (
 .ob (A6 (a0.1,u6.1,u6.2.1,()) ([((0:Int),()),((15:Int),()),((17:Int),())],())) fun r18=>
 .ob (A9 (a0.1,r18.2.2.1,r18.2.2.2.1,()) r18.1) fun r19=>
 .leaf ((r1.1.1,r1.1.2.1,u1.1,u1.2.1,u2.1,u2.2.1,u3.1,u3.2.1,u4.1,u4.2.1,r19.1.1,()),(a0.1,r19.2.2.1,r19.2.2.2.1,()))) (
 .leaf (r1.1,(a0.1,u6.1,u6.2.1,())))))))))))))
def Alc (a0:Aw):Option (Aa×Aw):=(Akh a0).val
def Apg (a0:Aw):Tree (YEp×Aw):=
 .ob (A6 a0 ([((0:Int),()),((0:Int),()),((1:Int),()),((2:Int),()),((4294967295:Int),())],())) fun r1=>
 .ob (A9 (a0.1,r1.2.2.1,r1.2.2.2.1,()) ((32:Int),())) fun r2=>
 .ob (Fe r1.1 r2.1) fun r3=>
 .ob (A6 (a0.1,r2.2.2.1,r2.2.2.2.1,()) ([((0:Int),()),((0:Int),()),((1:Int),()),((5:Int),()),((281474976709655:Int),()),((281474976709656:Int),()),((281474976710655:Int),()),((281474976710656:Int),())],())) fun r4=>
 .ob (Cn (a0.1,r4.2.2.1,r4.2.2.2.1,()) ((3:Int),())) fun r5=>
 .br r5.1.1 (
 .ob (O0 (a0.1,r5.2.2.1,r5.2.2.2.1,())) fun r6=>
 .leaf ((r3.1,r3.2.1,r4.1.1,r6.1.1,r6.1.2.1,()),(a0.1,r6.2.2.1,r6.2.2.2.1,()))) (
 .leaf ((r3.1,r3.2.1,r4.1.1,r3.2.2.2.1,r3.2.2.2.2.1,()),(a0.1,r5.2.2.1,r5.2.2.2.1,())))
def Apv (a0:Aw):Option (YEp×Aw):=(Apg a0).val
def Aki (a0:Aw):Tree (Bp×Aw):=
 .ob (O0 a0) fun r1=>
 .ob (Bi (a0.1,r1.2.2.1,r1.2.2.2.1,()) ((12:Int),())) fun r2=>letI u1:=r2.2.2;
 .br (r2.1.1==(0:Int)) (
 .ob (A6 (a0.1,u1.1,u1.2.1,()) ([((-2:Int),()),((-1:Int),()),((0:Int),()),((700:Int),()),((281474976710656:Int),())],())) fun r3=>
 .leaf ((r3.1.1,r1.1.2.1,()),(a0.1,r3.2.2.1,r3.2.2.2.1,()))) (
 .br (r2.1.1==(1:Int)) (
 .ob (Bi (a0.1,u1.1,u1.2.1,()) ((32:Int),())) fun r4=>
 .ob (A6 (a0.1,r4.2.2.1,r4.2.2.2.1,()) ([((-1:Int),()),((0:Int),()),((1:Int),()),((4294967295:Int),()),((4294967296:Int),())],())) fun r5=>
 .ob (idx r1.1.2.1 r4.1.1) fun e6=>
 let q7:=(r1.1.2.1.set (r4.1.1).toNat r5.1)
 .leaf ((r1.1.1,q7,()),(a0.1,r5.2.2.1,r5.2.2.2.1,()))) (
 .br (r2.1.1==(2:Int)) (
 .ob (Bi (a0.1,u1.1,u1.2.1,()) ((32:Int),())) fun r8=>
 .chk (decide ((0:Int)≤r8.1.1)) <|
 .chk (decide (r8.1.1≤(r1.1.2.1.length:Int))) <|
 .leaf ((r1.1.1,((r1.1.2.1.take (r8.1.1).toNat).drop ((0:Int)).toNat),()),(a0.1,r8.2.2.1,r8.2.2.2.1,()))) (
 .leaf (r1.1,(a0.1,u1.1,u1.2.1,())))))
def Ald (a0:Aw):Option (Bp×Aw):=(Aki a0).val
def Akj (a0:Aw):Tree (YEp×Aw):=
 .ob (Apv a0) fun r1=>letI u1:=r1.1.2.2;
 .ob (Bi (a0.1,r1.2.2.1,r1.2.2.2.1,()) ((14:Int),())) fun r2=>letI u2:=r2.2.2;
 .br (r2.1.1==(0:Int)) (
 .ob (A6 (a0.1,u2.1,u2.2.1,()) ([((-1:Int),()),((4294967296:Int),())],())) fun r3=>
 .leaf ((r3.1.1,r1.1.2.1,u1.1,u1.2.1,u1.2.2.1,()),(a0.1,r3.2.2.1,r3.2.2.2.1,()))) (
 .br (r2.1.1==(1:Int)) (
 .ob (A6 (a0.1,u2.1,u2.2.1,()) ([((0:Int),()),((31:Int),()),((33:Int),())],())) fun r4=>
 .ob (A9 (a0.1,r4.2.2.1,r4.2.2.2.1,()) r4.1) fun r5=>
 .leaf ((r1.1.1,r5.1.1,u1.1,u1.2.1,u1.2.2.1,()),(a0.1,r5.2.2.1,r5.2.2.2.1,()))) (
 .br (r2.1.1==(2:Int)) (
 .ob (A6 (a0.1,u2.1,u2.2.1,()) ([((-1:Int),()),((281474976710657:Int),())],())) fun r6=>
 .leaf ((r1.1.1,r1.1.2.1,r6.1.1,u1.2.1,u1.2.2.1,()),(a0.1,r6.2.2.1,r6.2.2.2.1,()))) (
 .br (r2.1.1==(3:Int)) (
 .ob (Ald (a0.1,u2.1,u2.2.1,())) fun r7=>
 .leaf ((r1.1.1,r1.1.2.1,u1.1,r7.1.1,r7.1.2.1,()),(a0.1,r7.2.2.1,r7.2.2.2.1,()))) (
 .leaf (r1.1,(a0.1,u2.1,u2.2.1,()))))))
def Aav (a0:Aw):Option (YEp×Aw):=(Akj a0).val
def Af9 (a0:Aw):Tree (Af×Aw):=
 .ob (Bi a0 ((2:Int),())) fun r1=>
 .ob (Rp (a0.1,r1.2.2.1,r1.2.2.2.1,()) r1.1) fun r2=>letI u1:=r2.1.2.2;letI u2:=u1.2.2;letI u3:=u2.2.2;letI u4:=u3.2.2;letI u5:=u4.2.2;letI u6:=u5.2.2;letI u7:=u6.2.2;
 .ob (Bi (a0.1,r2.2.2.1,r2.2.2.2.1,()) ((20:Int),())) fun r3=>letI u8:=r3.2.2;
 .br (r3.1.1==(0:Int)) (
 .ob (A6 (a0.1,u8.1,u8.2.1,()) ([((-1:Int),()),((0:Int),()),((1:Int),()),((2:Int),())],())) fun r4=>
 .leaf ((r4.1.1,r2.1.2.1,u1.1,u1.2.1,u2.1,u2.2.1,u3.1,u3.2.1,u4.1,u4.2.1,u5.1,u5.2.1,u6.1,u6.2.1,u7.1,()),(a0.1,r4.2.2.1,r4.2.2.2.1,()))) (
 .br (r3.1.1==(1:Int)) (
 .ob (A9 (a0.1,u8.1,u8.2.1,()) ((11:Int),())) fun r5=>
 .leaf ((r2.1.1,r5.1.1,u1.1,u1.2.1,u2.1,u2.2.1,u3.1,u3.2.1,u4.1,u4.2.1,u5.1,u5.2.1,u6.1,u6.2.1,u7.1,()),(a0.1,r5.2.2.1,r5.2.2.2.1,()))) (
 .br (r3.1.1==(2:Int)) (
 .ob (Aav (a0.1,u8.1,u8.2.1,())) fun r6=>
 .leaf ((r2.1.1,r2.1.2.1,r6.1.1,r6.1.2.1,r6.1.2.2.1,r6.1.2.2.2.1,r6.1.2.2.2.2.1,u3.2.1,u4.1,u4.2.1,u5.1,u5.2.1,u6.1,u6.2.1,u7.1,()),(a0.1,r6.2.2.1,r6.2.2.2.1,()))) (
 .br (r3.1.1==(3:Int)) (
 .ob (Aav (a0.1,u8.1,u8.2.1,())) fun r7=>
 .leaf ((r2.1.1,r2.1.2.1,u1.1,u1.2.1,u2.1,u2.2.1,u3.1,r7.1.1,r7.1.2.1,r7.1.2.2.1,r7.1.2.2.2.1,r7.1.2.2.2.2.1,u6.1,u6.2.1,u7.1,()),(a0.1,r7.2.2.1,r7.2.2.2.1,()))) (
 .br (r3.1.1==(4:Int)) (
 .leaf ((r2.1.1,r2.1.2.1,u1.1,u1.2.1,u2.1,u2.2.1,u3.1,u3.2.1,u4.1,u4.2.1,u5.1,u5.2.1,(!u6.1),u6.2.1,u7.1,()),(a0.1,u8.1,u8.2.1,()))) (
 .br (r3.1.1==(5:Int)) (
 .ob (A6 (a0.1,u8.1,u8.2.1,()) ([((-2:Int),()),((-1:Int),()),((1:Int),()),((1000006:Int),())],())) fun r8=>
 .leaf ((r2.1.1,r2.1.2.1,u1.1,u1.2.1,u2.1,u2.2.1,u3.1,u3.2.1,u4.1,u4.2.1,u5.1,u5.2.1,u6.1,r8.1.1,u7.1,()),(a0.1,r8.2.2.1,r8.2.2.2.1,()))) (
 .br (r3.1.1==(6:Int)) (
 .ob (A6 (a0.1,u8.1,u8.2.1,()) ([((0:Int),()),((31:Int),()),((32:Int),())],())) fun r9=>
 .ob (A9 (a0.1,r9.2.2.1,r9.2.2.2.1,()) r9.1) fun r10=>
 .leaf ((r2.1.1,r2.1.2.1,u1.1,u1.2.1,u2.1,u2.2.1,u3.1,u3.2.1,u4.1,u4.2.1,u5.1,u5.2.1,u6.1,u6.2.1,r10.1.1,()),(a0.1,r10.2.2.1,r10.2.2.2.1,()))) (
 .leaf (r2.1,(a0.1,u8.1,u8.2.1,())))))))))
def Aha (a0:Aw):Option (Af×Aw):=(Af9 a0).val
def Aga (a0:Aw):Tree (Bg×Aw):=
 .ob (A6 a0 ([((0:Int),()),((5:Int),()),((999990:Int),()),((1000000:Int),())],())) fun r1=>
 .ob (Rq (a0.1,r1.2.2.1,r1.2.2.2.1,()) r1.1) fun r2=>letI u1:=r2.1.2.2;
 .ob (Bi (a0.1,r2.2.2.1,r2.2.2.2.1,()) ((10:Int),())) fun r3=>letI u2:=r3.2.2;
 .br (r3.1.1==(0:Int)) (
 .ob (A6 (a0.1,u2.1,u2.2.1,()) ([((-1:Int),()),((1000008:Int),()),((1000009:Int),())],())) fun r4=>
 .leaf ((r2.1.1,r4.1.1,u1.1,u1.2.1,()),(a0.1,r4.2.2.1,r4.2.2.2.1,()))) (
 .br (r3.1.1==(1:Int)) (
 .ob (A6 (a0.1,u2.1,u2.2.1,()) ([((0:Int),()),((1:Int),()),((3:Int),()),((8:Int),()),((16:Int),())],())) fun r5=>
 .leaf ((r2.1.1,r2.1.2.1,r5.1.1,u1.2.1,()),(a0.1,r5.2.2.1,r5.2.2.2.1,()))) (
 .br (r3.1.1==(2:Int)) (
 .ob (A6 (a0.1,u2.1,u2.2.1,()) ([((0:Int),()),((1:Int),()),((5:Int),()),((6:Int),())],())) fun r6=>
 .leaf ((r2.1.1,r2.1.2.1,u1.1,r6.1.1,()),(a0.1,r6.2.2.1,r6.2.2.2.1,()))) (
 .br (r3.1.1==(3:Int)) (
 .leaf (((!r2.1.1),r2.1.2.1,u1.1,u1.2.1,()),(a0.1,u2.1,u2.2.1,()))) (
 .leaf (r2.1,(a0.1,u2.1,u2.2.1,()))))))
def Wo (a0:Aw):Option (Bg×Aw):=(Aga a0).val
def Agb (a0:Aw):Tree (Ab×Aw):=
 .ob (Acx a0) fun r1=>letI u1:=r1.1.2.2;letI u2:=u1.2.2;letI u3:=u2.2.2;letI u4:=u3.2.2;letI u5:=u4.2.2;letI u6:=u5.2.2;letI u7:=u6.2.2;letI u8:=u7.2.2;letI u9:=u8.2.2;letI u10:=u9.2.2;letI u11:=u10.2.2;letI u12:=u11.2.2;letI u13:=u12.2.2;letI u14:=u13.2.2;letI u15:=u14.2.2;letI u16:=u15.2.2;letI u17:=u16.2.2;letI u18:=u17.2.2;letI u19:=u18.2.2;letI u20:=u19.2.2;
 .ob (Bi (a0.1,r1.2.2.1,r1.2.2.2.1,()) ((26:Int),())) fun r2=>letI u21:=r2.2.2;
 .br (r2.1.1==(0:Int)) (
 .ob (A6 (a0.1,u21.1,u21.2.1,()) ([((0:Int),()),((10:Int),()),((4:Int),())],())) fun r3=>
 .leaf ((r3.1.1,r1.1.2.1,u1.1,u1.2.1,u2.1,u2.2.1,u3.1,u3.2.1,u4.1,u4.2.1,u5.1,u5.2.1,u6.1,u6.2.1,u7.1,u7.2.1,u8.1,u8.2.1,u9.1,u9.2.1,u10.1,u10.2.1,u11.1,u11.2.1,u12.1,u12.2.1,u13.1,u13.2.1,u14.1,u14.2.1,u15.1,u15.2.1,u16.1,u16.2.1,u17.1,u17.2.1,u18.1,u18.2.1,u19.1,u19.2.1,u20.1,()),(a0.1,r3.2.2.1,r3.2.2.2.1,()))) (
 .br (r2.1.1==(1:Int)) (
 .ob (A6 (a0.1,u21.1,u21.2.1,()) ([((0:Int),()),((33:Int),()),((1:Int),())],())) fun r4=>
 .ob (A9 (a0.1,r4.2.2.1,r4.2.2.2.1,()) r4.1) fun r5=>
 .leaf ((r1.1.1,r5.1.1,u1.1,u1.2.1,u2.1,u2.2.1,u3.1,u3.2.1,u4.1,u4.2.1,u5.1,u5.2.1,u6.1,u6.2.1,u7.1,u7.2.1,u8.1,u8.2.1,u9.1,u9.2.1,u10.1,u10.2.1,u11.1,u11.2.1,u12.1,u12.2.1,u13.1,u13.2.1,u14.1,u14.2.1,u15.1,u15.2.1,u16.1,u16.2.1,u17.1,u17.2.1,u18.1,u18.2.1,u19.1,u19.2.1,u20.1,()),(a0.1,r5.2.2.1,r5.2.2.2.1,()))) (
 .br (r2.1.1==(2:Int)) (
 .ob (Alb (a0.1,u21.1,u21.2.1,())) fun r6=>
 .leaf ((r1.1.1,r1.1.2.1,r6.1.1,r6.1.2.1,u2.1,u2.2.1,u3.1,u3.2.1,u4.1,u4.2.1,u5.1,u5.2.1,u6.1,u6.2.1,u7.1,u7.2.1,u8.1,u8.2.1,u9.1,u9.2.1,u10.1,u10.2.1,u11.1,u11.2.1,u12.1,u12.2.1,u13.1,u13.2.1,u14.1,u14.2.1,u15.1,u15.2.1,u16.1,u16.2.1,u17.1,u17.2.1,u18.1,u18.2.1,u19.1,u19.2.1,u20.1,()),(a0.1,r6.2.2.1,r6.2.2.2.1,()))) (
 .br (r2.1.1==(3:Int)) (
 .ob (Bi (a0.1,u21.1,u21.2.1,()) ((6:Int),())) fun r7=>
 .leaf ((r1.1.1,r1.1.2.1,u1.1,u1.2.1,(i64.wrap (r7.1.1-(1:Int))),u2.2.1,u3.1,u3.2.1,u4.1,u4.2.1,u5.1,u5.2.1,u6.1,u6.2.1,u7.1,u7.2.1,u8.1,u8.2.1,u9.1,u9.2.1,u10.1,u10.2.1,u11.1,u11.2.1,u12.1,u12.2.1,u13.1,u13.2.1,u14.1,u14.2.1,u15.1,u15.2.1,u16.1,u16.2.1,u17.1,u17.2.1,u18.1,u18.2.1,u19.1,u19.2.1,u20.1,()),(a0.1,r7.2.2.1,r7.2.2.2.1,()))) (
 .br (r2.1.1==(4:Int)) (
 .ob (A6 (a0.1,u21.1,u21.2.1,()) ([((0:Int),()),((11:Int),()),((12:Int),())],())) fun r8=>
 .ob (A9 (a0.1,r8.2.2.1,r8.2.2.2.1,()) r8.1) fun r9=>
 .leaf ((r1.1.1,r1.1.2.1,u1.1,u1.2.1,u2.1,r9.1.1,u3.1,u3.2.1,u4.1,u4.2.1,u5.1,u5.2.1,u6.1,u6.2.1,u7.1,u7.2.1,u8.1,u8.2.1,u9.1,u9.2.1,u10.1,u10.2.1,u11.1,u11.2.1,u12.1,u12.2.1,u13.1,u13.2.1,u14.1,u14.2.1,u15.1,u15.2.1,u16.1,u16.2.1,u17.1,u17.2.1,u18.1,u18.2.1,u19.1,u19.2.1,u20.1,()),(a0.1,r9.2.2.1,r9.2.2.2.1,()))) (
 .br (r2.1.1==(5:Int)) (
 .ob (Alc (a0.1,u21.1,u21.2.1,())) fun r10=>letI u22:=r10.1.2.2.2;letI u23:=u22.2.2.2;
 .leaf ((r1.1.1,r1.1.2.1,u1.1,u1.2.1,u2.1,u2.2.1,r10.1.1,r10.1.2.1,r10.1.2.2.1,u22.1,u22.2.1,u22.2.2.1,u23.1,u23.2.1,u23.2.2.1,u23.2.2.2.1,u23.2.2.2.2.1,u8.2.1,u9.1,u9.2.1,u10.1,u10.2.1,u11.1,u11.2.1,u12.1,u12.2.1,u13.1,u13.2.1,u14.1,u14.2.1,u15.1,u15.2.1,u16.1,u16.2.1,u17.1,u17.2.1,u18.1,u18.2.1,u19.1,u19.2.1,u20.1,()),(a0.1,r10.2.2.1,r10.2.2.2.1,()))) (
 .br (r2.1.1==(6:Int)) (
 .ob (Aha (a0.1,u21.1,u21.2.1,())) fun r11=>letI u24:=r11.1.2.2.2;letI u25:=u24.2.2.2;letI u26:=u25.2.2.2.2;
 .leaf ((r1.1.1,r1.1.2.1,u1.1,u1.2.1,u2.1,u2.2.1,u3.1,u3.2.1,u4.1,u4.2.1,u5.1,u5.2.1,u6.1,u6.2.1,u7.1,u7.2.1,u8.1,r11.1.1,r11.1.2.1,r11.1.2.2.1,u24.1,u24.2.1,u24.2.2.1,u25.1,u25.2.1,u25.2.2.1,u25.2.2.2.1,u26.1,u26.2.1,u26.2.2.1,u26.2.2.2.1,u26.2.2.2.2.1,u16.1,u16.2.1,u17.1,u17.2.1,u18.1,u18.2.1,u19.1,u19.2.1,u20.1,()),(a0.1,r11.2.2.1,r11.2.2.2.1,()))) (
 .br (r2.1.1==(7:Int)) (
 .ob (Wo (a0.1,u21.1,u21.2.1,())) fun r12=>
 .leaf ((r1.1.1,r1.1.2.1,u1.1,u1.2.1,u2.1,u2.2.1,u3.1,u3.2.1,u4.1,u4.2.1,u5.1,u5.2.1,u6.1,u6.2.1,u7.1,u7.2.1,u8.1,u8.2.1,u9.1,u9.2.1,u10.1,u10.2.1,u11.1,u11.2.1,u12.1,u12.2.1,u13.1,u13.2.1,u14.1,u14.2.1,u15.1,u15.2.1,r12.1.1,r12.1.2.1,r12.1.2.2.1,r12.1.2.2.2.1,u18.1,u18.2.1,u19.1,u19.2.1,u20.1,()),(a0.1,r12.2.2.1,r12.2.2.2.1,()))) (
 .br (r2.1.1==(8:Int)) (
 .ob (Wo (a0.1,u21.1,u21.2.1,())) fun r13=>
 .leaf ((r1.1.1,r1.1.2.1,u1.1,u1.2.1,u2.1,u2.2.1,u3.1,u3.2.1,u4.1,u4.2.1,u5.1,u5.2.1,u6.1,u6.2.1,u7.1,u7.2.1,u8.1,u8.2.1,u9.1,u9.2.1,u10.1,u10.2.1,u11.1,u11.2.1,u12.1,u12.2.1,u13.1,u13.2.1,u14.1,u14.2.1,u15.1,u15.2.1,u16.1,u16.2.1,u17.1,u17.2.1,r13.1.1,r13.1.2.1,r13.1.2.2.1,r13.1.2.2.2.1,u20.1,()),(a0.1,r13.2.2.1,r13.2.2.2.1,()))) (
 .br (r2.1.1==(9:Int)) (
 .ob (A6 (a0.1,u21.1,u21.2.1,()) ([((-1:Int),()),((1:Int),()),((1000001:Int),())],())) fun r14=>
 .leaf ((r1.1.1,r1.1.2.1,u1.1,u1.2.1,u2.1,u2.2.1,u3.1,u3.2.1,u4.1,u4.2.1,u5.1,u5.2.1,u6.1,u6.2.1,u7.1,u7.2.1,u8.1,u8.2.1,u9.1,u9.2.1,u10.1,u10.2.1,u11.1,u11.2.1,u12.1,u12.2.1,u13.1,u13.2.1,u14.1,u14.2.1,u15.1,u15.2.1,u16.1,u16.2.1,u17.1,u17.2.1,u18.1,u18.2.1,u19.1,u19.2.1,r14.1.1,()),(a0.1,r14.2.2.1,r14.2.2.2.1,()))) (
 .br (r2.1.1==(10:Int)) (
 .leaf ((r1.1.1,r1.1.2.1,u1.1,u1.2.1,u2.1,u2.2.1,(0:Int),(0:Int),([]:List YB),([]:List YB),(0:Int),([]:List YB),([]:List YB),(0:Int),(0:Int),([]:List YB),([]:List YB),u8.2.1,u9.1,u9.2.1,u10.1,u10.2.1,u11.1,u11.2.1,u12.1,u12.2.1,u13.1,u13.2.1,u14.1,u14.2.1,u15.1,u15.2.1,u16.1,u16.2.1,u17.1,u17.2.1,u18.1,u18.2.1,u19.1,u19.2.1,u20.1,()),(a0.1,u21.1,u21.2.1,()))) (
 .leaf (r1.1,(a0.1,u21.1,u21.2.1,())))))))))))))
def Ahb (a0:Aw):Option (Ab×Aw):=(Agb a0).val
def Acg (a0:Ab):Tree (Ab):=
 .ob (Gd (a0.1,()) (a0.2.1,()) (a0.2.2.1,a0.2.2.2.1,())) fun r1=>
 .leaf r1
def Rr (a0:Ab):Option (Ab):=(Acg a0).val
def Xn (a0:YBs):Tree (Ab×YI×YBs):=
 .ob (Ak4 a0) fun r1=>
 .ob (Ahb r1) fun r2=>
 .ob (Cn (r1.1,r2.2.2.1,r2.2.2.2.1,()) ((2:Int),())) fun r3=>
 .br r3.1.1 (
 .ob (Rr r2.1) fun r4=>
 .ob (A6 (r1.1,r3.2.2.1,r3.2.2.2.1,()) ([((0:Int),()),((7:Int),()),((1000000:Int),()),((1000001:Int),()),((-1:Int),()),((3:Int),())],())) fun r5=>
 .ob (A6 (r1.1,r5.2.2.1,r5.2.2.2.1,()) ([((12:Int),()),((12:Int),()),((12:Int),()),((12:Int),()),((11:Int),())],())) fun r6=>
 .ob (A9 (r1.1,r6.2.2.1,r6.2.2.2.1,()) r6.1) fun r7=>
 .leaf (r4,r5.1,r7.1)) (
 .ob (A6 (r1.1,r3.2.2.1,r3.2.2.2.1,()) ([((0:Int),()),((7:Int),()),((1000000:Int),()),((1000001:Int),()),((-1:Int),()),((3:Int),())],())) fun r8=>
 .ob (A6 (r1.1,r8.2.2.1,r8.2.2.2.1,()) ([((12:Int),()),((12:Int),()),((12:Int),()),((12:Int),()),((11:Int),())],())) fun r9=>
 .ob (A9 (r1.1,r9.2.2.1,r9.2.2.2.1,()) r9.1) fun r10=>
 .leaf (r2.1,r8.1,r10.1))
def Zl (a0:YBs):Option (Ab×YI×YBs):=(Xn a0).val
def Akl (a0:YBs):Tree (YBs):=
 .chk (decide (([]:List YB).length+a0.1.length≤4294967296)) <|
 .leaf ((([]:List YB)++a0.1),())
def A1 (a0:YBs):Option (YBs):=(Akl a0).val
def Ta (a0:Aa):Tree (Aa):=
 letI u1:=a0.2.2.2;letI u2:=u1.2.2.2;.ob (A1 (a0.2.2.1,())) fun r1=>
 .ob (A1 (u1.1,())) fun r2=>
 .ob (A1 (u1.2.2.1,())) fun r3=>
 .ob (A1 (u2.1,())) fun r4=>
 .ob (A1 (u2.2.2.2.1,())) fun r5=>
 .ob (A1 (u2.2.2.2.2.1,())) fun r6=>
 .leaf (a0.1,a0.2.1,r1.1,r2.1,u1.2.1,r3.1,r4.1,u2.2.1,u2.2.2.1,r5.1,r6.1,())
def Ht (a0:Aa):Option (Aa):=(Ta a0).val
def Ach (a0:Bp):Tree (Bp):=
 .chk (decide (([]:List YI).length+a0.2.1.length≤4294967296)) <|
 .leaf (a0.1,(([]:List YI)++a0.2.1),())
def Rs (a0:Bp):Option (Bp):=(Ach a0).val
def Agd (a0:YEp):Tree (YEp):=
 .ob (A1 (a0.2.1,())) fun r1=>
 .ob (Rs (a0.2.2.2.1,a0.2.2.2.2.1,())) fun r2=>
 .leaf (a0.1,r1.1,a0.2.2.1,r2.1,r2.2.1,())
def L4 (a0:YEp):Option (YEp):=(Agd a0).val
def Xo (a0:Af):Tree (Af):=
 letI u1:=a0.2.2.2;letI u2:=u1.2.2.2;letI u3:=u2.2.2.2.2;.ob (A1 (a0.2.1,())) fun r1=>
 .ob (A1 (u3.2.2.2.2.1,())) fun r2=>
 .ob (L4 (a0.2.2.1,u1.1,u1.2.1,u1.2.2.1,u2.1,())) fun r3=>
 .ob (L4 (u2.2.1,u2.2.2.1,u2.2.2.2.1,u3.1,u3.2.1,())) fun r4=>
 .leaf (a0.1,r1.1,r3.1,r3.2.1,r3.2.2.1,r3.2.2.2.1,r3.2.2.2.2.1,r4.1,r4.2.1,r4.2.2.1,r4.2.2.2.1,r4.2.2.2.2.1,u3.2.2.1,u3.2.2.2.1,r2.1,())
def Fy (a0:Af):Option (Af):=(Xo a0).val
def Qa (a0:Ab):Tree (Ab):=
 letI u1:=a0.2.2.2;letI u2:=u1.2.2.2;letI u3:=u2.2.2.2;letI u4:=u3.2.2.2;letI u5:=u4.2.2.2;letI u6:=u5.2.2.2;letI u7:=u6.2.2.2;letI u8:=u7.2.2.2;letI u9:=u8.2.2.2;letI u10:=u9.2.2.2;letI u11:=u10.2.2.2;letI u12:=u11.2.2.2;.ob (A1 (a0.2.1,())) fun r1=>
 .ob (A1 (u1.2.2.1,())) fun r2=>
 .ob (Ht (u2.1,u2.2.1,u2.2.2.1,u3.1,u3.2.1,u3.2.2.1,u4.1,u4.2.1,u4.2.2.1,u5.1,u5.2.1,())) fun r3=>letI u13:=r3.2.2.2;letI u14:=u13.2.2.2;
 .ob (Fy (u5.2.2.1,u6.1,u6.2.1,u6.2.2.1,u7.1,u7.2.1,u7.2.2.1,u8.1,u8.2.1,u8.2.2.1,u9.1,u9.2.1,u9.2.2.1,u10.1,u10.2.1,())) fun r4=>letI u15:=r4.2.2.2;letI u16:=u15.2.2.2;letI u17:=u16.2.2.2.2;
 .leaf (a0.1,r1.1,a0.2.2.1,u1.1,u1.2.1,r2.1,r3.1,r3.2.1,r3.2.2.1,u13.1,u13.2.1,u13.2.2.1,u14.1,u14.2.1,u14.2.2.1,u14.2.2.2.1,u14.2.2.2.2.1,r4.1,r4.2.1,r4.2.2.1,u15.1,u15.2.1,u15.2.2.1,u16.1,u16.2.1,u16.2.2.1,u16.2.2.2.1,u17.1,u17.2.1,u17.2.2.1,u17.2.2.2.1,u17.2.2.2.2.1,u10.2.2.1,u11.1,u11.2.1,u11.2.2.1,u12.1,u12.2.1,u12.2.2.1,u12.2.2.2.1,u12.2.2.2.2.1,())
def B8 (a0:Ab):Option (Ab):=(Qa a0).val
def Age (a0:YI) (a1:YI) (a2:YI):Tree ((Bool×Unit)):=
 .br (decide (a0.1≥a1.1)) (
 .leaf ((decide (a0.1≤a2.1)),())) (
 .leaf (false,()))
def A5 (a0:YI) (a1:YI) (a2:YI):Option ((Bool×Unit)):=(Age a0 a1 a2).val
def Akm (a0:YBs):Tree ((Bool×Unit)):=
 .ob (A5 ((a0.1.length:Int),()) ((1:Int),()) ((32:Int),())) fun r1=>
 .leaf r1
def Sl (a0:YBs):Option ((Bool×Unit)):=(Akm a0).val
def Agf (a0:Dk):Tree ((Bool×Unit)):=
 .ob (A5 (a0.1,()) ((0:Int),()) ((4294967295:Int),())) fun r1=>
 .br r1.1 (
 .ob (A5 (a0.2.1,()) ((0:Int),()) ((65535:Int),())) fun r2=>
 .leaf r2) (
 .leaf (false,()))
def Ahc (a0:Dk):Option ((Bool×Unit)):=(Agf a0).val
def Ai3 (a0:YBs) (a1:YBs):Tree ((Bool×Unit)):=
 .leaf ((decide ((Kj a0.1)=(Kj a1.1))),())
def Di (a0:YBs) (a1:YBs):Option ((Bool×Unit)):=(Ai3 a0 a1).val
def Tc (a0:Aa) (a1:Aa):Tree ((Bool×Unit)):=
 letI u1:=a0.2.2.2;letI u2:=u1.2.2.2;letI u3:=a1.2.2.2;letI u4:=u3.2.2.2;.br (a0.1==a1.1) (
 .br (a0.2.1==a1.2.1) (
 .br (u1.2.1==u3.2.1) (
 .br (u2.2.1==u4.2.1) (
 .br (u2.2.2.1==u4.2.2.1) (
 .ob (Di (a0.2.2.1,()) (a1.2.2.1,())) fun r1=>
 .br r1.1 (
 .ob (Di (u1.1,()) (u3.1,())) fun r2=>
 .br r2.1 (
 .ob (Di (u1.2.2.1,()) (u3.2.2.1,())) fun r3=>
 .br r3.1 (
 .ob (Di (u2.1,()) (u4.1,())) fun r4=>
 .br r4.1 (
 .ob (Di (u2.2.2.2.1,()) (u4.2.2.2.1,())) fun r5=>
 .br r5.1 (
 .ob (Di (u2.2.2.2.2.1,()) (u4.2.2.2.2.1,())) fun r6=>
 .leaf r6) (
 .leaf (false,()))) (
 .leaf (false,()))) (
 .leaf (false,()))) (
 .leaf (false,()))) (
 .leaf (false,()))) (
 .leaf (false,()))) (
 .leaf (false,()))) (
 .leaf (false,()))) (
 .leaf (false,()))) (
 .leaf (false,()))
def Ff (a0:Aa) (a1:Aa):Option ((Bool×Unit)):=(Tc a0 a1).val
def Ad4 (x1:(List YI)×(List YI)×Int×Int×Unit):Option (((List YI)×(List YI)×Int×Int×Unit)⊕((Bool×Unit)⊕(Unit))):=
 letI u1:=x1.2.2;Tree.val (α:=((List YI)×(List YI)×Int×Int×Unit)⊕((Bool×Unit)⊕(Unit))) <|
 .br (decide (u1.2.1<u1.1)) (
 .ob (idx x1.2.1 u1.2.1) fun e2=>
 .ob (idx x1.1 u1.2.1) fun e3=>
 .br (e2.1 != e3.1) (
 .leaf (.inr (.inl (false,())))) (
 .leaf (.inl (x1.1,x1.2.1,u1.1,(i64.wrap (u1.2.1+(1:Int))),())))) (
 .leaf (.inr (.inr ())))
def Xp (a0:(List YI)×Unit) (a1:(List YI)×Unit):Tree ((Bool×Unit)):=
 .br ((a0.1.length:Int) != (a1.1.length:Int)) (
 .leaf (false,())) (
 .ob (Az Ad4 (a1.1,a0.1,(a0.1.length:Int),(0:Int),())) fun o4=>
 .sm o4 (fun o5=>
 .leaf o5) (fun o6=>
 .leaf (true,())))
def Zm (a0:(List YI)×Unit) (a1:(List YI)×Unit):Option ((Bool×Unit)):=(Xp a0 a1).val
def Agh (a0:YEp) (a1:YEp):Tree ((Bool×Unit)):=
 .br (a0.1==a1.1) (
 .ob (Di (a0.2.1,()) (a1.2.1,())) fun r1=>
 .br r1.1 (
 .br (a0.2.2.1==a1.2.2.1) (
 .br (a0.2.2.2.1==a1.2.2.2.1) (
 .ob (Zm (a0.2.2.2.2.1,()) (a1.2.2.2.2.1,())) fun r2=>
 .leaf r2) (
 .leaf (false,()))) (
 .leaf (false,()))) (
 .leaf (false,()))) (
 .leaf (false,()))
def O5 (a0:YEp) (a1:YEp):Option ((Bool×Unit)):=(Agh a0 a1).val
def Qc (a0:Af):Tree ((Bool×Unit)):=
 letI u1:=a0.2.2.2;letI u2:=u1.2.2.2;letI u3:=u2.2.2.2;.br (a0.1==(0:Int)) (
 .br ((a0.2.1.length:Int)==(0:Int)) (
 .ob (O5 (a0.2.2.1,u1.1,u1.2.1,u1.2.2.1,u2.1,()) ((0:Int),([]:List YB),(0:Int),(0:Int),([]:List YI),())) fun r1=>
 .br r1.1 (
 .ob (O5 (u2.2.1,u2.2.2.1,u3.1,u3.2.1,u3.2.2.1,()) ((0:Int),([]:List YB),(0:Int),(0:Int),([]:List YI),())) fun r2=>
 .br r2.1 (
 .br (!u3.2.2.2.1) (
 .br (u3.2.2.2.2.1==(0:Int)) (
 .leaf (((a0.2.2.2.2.2.2.2.2.2.2.2.2.2.2.1.length:Int)==(0:Int)),())) (
 .leaf (false,()))) (
 .leaf (false,()))) (
 .leaf (false,()))) (
 .leaf (false,()))) (
 .leaf (false,()))) (
 .leaf (false,()))
def L5 (a0:Af):Option ((Bool×Unit)):=(Qc a0).val
def Any (a0:YBs):Tree ((Bool×Unit)):=
 .leaf (((a0.1.length:Int)==(12:Int)),())
def Ch (a0:YBs):Option ((Bool×Unit)):=(Any a0).val
def Acj (a0:Bg):Tree ((Bool×Unit)):=
 letI u1:=a0.2.2;.br (!a0.1) (
 .leaf ((and (a0.1==false) (and (a0.2.1==(0:Int)) (and (u1.1==(0:Int)) (and (u1.2.1==(0:Int)) true)))),())) (
 .br (u1.1==(1:Int)) (
 .ob (A5 (a0.2.1,()) ((0:Int),()) ((1000008:Int),())) fun r1=>
 .br r1.1 (
 .ob (A5 (u1.2.1,()) ((1:Int),()) ((5:Int),())) fun r2=>
 .leaf r2) (
 .leaf (false,()))) (
 .br (u1.1==(2:Int)) (
 .ob (A5 (a0.2.1,()) ((0:Int),()) ((1000008:Int),())) fun r3=>
 .br r3.1 (
 .ob (A5 (u1.2.1,()) ((1:Int),()) ((5:Int),())) fun r4=>
 .leaf r4) (
 .leaf (false,()))) (
 .br (u1.1==(4:Int)) (
 .ob (A5 (a0.2.1,()) ((0:Int),()) ((1000008:Int),())) fun r5=>
 .br r5.1 (
 .ob (A5 (u1.2.1,()) ((1:Int),()) ((5:Int),())) fun r6=>
 .leaf r6) (
 .leaf (false,()))) (
 .ob (A5 (a0.2.1,()) ((0:Int),()) ((1000008:Int),())) fun r7=>
 .br r7.1 (
 .br (u1.1==(8:Int)) (
 .ob (A5 (u1.2.1,()) ((1:Int),()) ((5:Int),())) fun r8=>
 .leaf r8) (
 .leaf (false,()))) (
 .leaf (false,()))))))
def Kh (a0:Bg):Option ((Bool×Unit)):=(Acj a0).val
def Agi (a0:YI):Tree ((Bool×Unit)):=
 .ob (A5 a0 ((4:Int),()) ((8:Int),())) fun r1=>
 .leaf r1
def Gl (a0:YI):Option ((Bool×Unit)):=(Agi a0).val
def Agj (a0:YI) (a1:YI):Tree ((Bool×Unit)):=
 .br (a0.1==(4:Int)) (
 .leaf ((decide (a1.1≤(40:Int))),())) (
 .br (a0.1==(5:Int)) (
 .leaf ((a1.1==(12:Int)),())) (
 .br (a0.1==(6:Int)) (
 .leaf ((a1.1==(12:Int)),())) (
 .leaf ((a1.1==(4:Int)),()))))
def Ahd (a0:YI) (a1:YI):Option ((Bool×Unit)):=(Agj a0 a1).val
def Acl (a0:Aa):Tree ((Bool×Unit)):=
 letI u1:=a0.2.2;letI u2:=u1.2.2;letI u3:=u2.2.2.2;.br (a0.1==(1:Int)) (
 .ob (A5 (a0.2.1,()) ((1:Int),()) ((9:Int),())) fun r1=>
 .br r1.1 (
 .ob (Ch (u1.1,())) fun r2=>
 .br r2.1 (
 .ob (Ff a0 (a0.1,a0.2.1,u1.1,([]:List YB),(0:Int),([]:List YB),([]:List YB),(0:Int),(0:Int),([]:List YB),([]:List YB),())) fun r3=>
 .leaf r3) (
 .leaf (false,()))) (
 .leaf (false,()))) (
 .br (a0.1==(2:Int)) (
 .ob (Ch (u1.1,())) fun r4=>
 .br r4.1 (
 .ob (Ch (u1.2.1,())) fun r5=>
 .br r5.1 (
 .ob (A5 (u2.1,()) ((0:Int),()) ((1000000:Int),())) fun r6=>
 .br r6.1 (
 .br ((a0.2.2.2.2.2.1.length:Int)==(16:Int)) (
 .ob (Ff a0 (a0.1,(0:Int),u1.1,u1.2.1,u2.1,u2.2.1,([]:List YB),(0:Int),(0:Int),([]:List YB),([]:List YB),())) fun r7=>
 .leaf r7) (
 .leaf (false,()))) (
 .leaf (false,()))) (
 .leaf (false,()))) (
 .leaf (false,()))) (
 .br (a0.1==(3:Int)) (
 .ob (A5 (a0.2.1,()) ((1:Int),()) ((9:Int),())) fun r8=>
 .br r8.1 (
 .ob (Ch (u1.1,())) fun r9=>
 .br r9.1 (
 .ob (Ch (u1.2.1,())) fun r10=>
 .br r10.1 (
 .ob (A5 (u2.1,()) ((0:Int),()) ((1000000:Int),())) fun r11=>
 .br r11.1 (
 .br ((a0.2.2.2.2.2.1.length:Int)==(16:Int)) (
 .br ((a0.2.2.2.2.2.2.1.length:Int)==(16:Int)) (
 .ob (Ff a0 (a0.1,a0.2.1,u1.1,u1.2.1,u2.1,u2.2.1,u2.2.2.1,(0:Int),(0:Int),([]:List YB),([]:List YB),())) fun r12=>
 .leaf r12) (
 .leaf (false,()))) (
 .leaf (false,()))) (
 .leaf (false,()))) (
 .leaf (false,()))) (
 .leaf (false,()))) (
 .leaf (false,()))) (
 .ob (Gl (a0.1,())) fun r13=>
 .br r13.1 (
 .ob (Ch (u1.2.1,())) fun r14=>
 .br r14.1 (
 .ob (A5 (u3.1,()) ((0:Int),()) ((4294967295:Int),())) fun r15=>
 .br r15.1 (
 .ob (A5 (u3.2.1,()) ((0:Int),()) ((281474976710655:Int),())) fun r16=>
 .br r16.1 (
 .br ((a0.2.2.2.2.2.2.2.2.2.2.1.length:Int)==(16:Int)) (
 .ob (Ahd (a0.1,()) ((a0.2.2.2.2.2.2.2.2.2.1.length:Int),())) fun r17=>
 .br r17.1 (
 .ob (Ff a0 (a0.1,(0:Int),([]:List YB),u1.2.1,(0:Int),([]:List YB),([]:List YB),u3.1,u3.2.1,u3.2.2.1,u3.2.2.2.1,())) fun r18=>
 .leaf r18) (
 .leaf (false,()))) (
 .leaf (false,()))) (
 .leaf (false,()))) (
 .leaf (false,()))) (
 .leaf (false,()))) (
 .leaf (false,())))))
def Gr (a0:Aa):Option ((Bool×Unit)):=(Acl a0).val
def Agk (a0:YI):Tree ((Bool×Unit)):=
 .br (a0.1==(0:Int)) (
 .leaf (true,())) (
 .leaf ((a0.1==(1:Int)),()))
def Jm (a0:YI):Option ((Bool×Unit)):=(Agk a0).val
def Ir (x1:(List YI)×Int×(List YI)×Int×Int×Unit):Option (((List YI)×Int×(List YI)×Int×Int×Unit)⊕((Bool×Unit)⊕((List YI)×Int×Unit))):=
 letI u1:=x1.2.2;Tree.val (α:=((List YI)×Int×(List YI)×Int×Int×Unit)⊕((Bool×Unit)⊕((List YI)×Int×Unit))) <|
 .br (decide (u1.2.2.1<u1.2.1)) (
 .ob (idx u1.1 u1.2.2.1) fun e2=>
 .ob (A5 e2 ((0:Int),()) ((4294967295:Int),())) fun r3=>
 .br (!r3.1) (
 .leaf (.inr (.inl (false,())))) (
 .leaf (.inl (x1.1,x1.2.1,u1.1,u1.2.1,(i64.wrap (u1.2.2.1+(1:Int))),())))) (
 .leaf (.inr (.inr (x1.1,x1.2.1,()))))
def Xr (a0:(List YI)×Unit) (a1:YI):Tree ((Bool×Unit)):=
 .ob (Az Ir (a0.1,a1.1,a0.1,(a0.1.length:Int),(0:Int),())) fun o4=>
 .sm o4 (fun o5=>
 .leaf o5) (fun o6=>
 .leaf (((o6.1.length:Int)==o6.2.1),()))
def Lb (a0:(List YI)×Unit) (a1:YI):Option ((Bool×Unit)):=(Xr a0 a1).val
def Agl (a0:Bp) (a1:YI):Tree ((Bool×Unit)):=
 .chk (decide ((0:Int)≤a1.1)) <|
 .chk (decide ((0:Int)≤(a1.1%(1024:Int)))) <|
 .ob (idx a0.2.1 ((a1.1%(1024:Int))/(32:Int))) fun e1=>
 .chk (decide ((0:Int)≤a1.1)) <|
 .chk (decide ((0:Int)≤(a1.1%(32:Int)))) <|
 .leaf (((i64.wrap ((BitVec.ofInt (i64.bits) ((Int.fdiv e1.1 (2^(min ((a1.1%(32:Int))).toNat i64.bits)))) &&& BitVec.ofInt (i64.bits) ((1:Int))).toNat:Nat))==(1:Int)),())
def O6 (a0:Bp) (a1:YI):Option ((Bool×Unit)):=(Agl a0 a1).val
def Kc (x3:Int×Int×(List YI)×Unit):Option ((Int×Int×(List YI)×Unit)⊕((Bool×Unit)⊕Bp)):=
 Tree.val (α:=(Int×Int×(List YI)×Unit)⊕((Bool×Unit)⊕Bp)) <|
 .br (decide (x3.1<(1024:Int))) (
 .ob (O6 (x3.2.1,x3.2.2.1,()) (x3.1,())) fun r4=>
 .br r4.1 (
 .leaf (.inr (.inl (false,())))) (
 .leaf (.inl ((i64.wrap (x3.1+(1:Int))),x3.2.1,x3.2.2.1,())))) (
 .leaf (.inr (.inr (x3.2.1,x3.2.2.1,()))))
def Akp (a0:Bp):Tree ((Bool×Unit)):=
 .ob (A5 (a0.1,()) ((-1:Int),()) ((281474976710655:Int),())) fun r1=>
 .br (!r1.1) (
 .leaf (false,())) (
 .ob (Lb (a0.2.1,()) ((32:Int),())) fun r2=>
 .br (!r2.1) (
 .leaf (false,())) (
 .ob (Az Kc ((i64.wrap (a0.1+(1:Int))),a0.1,a0.2.1,())) fun o5=>
 .sm o5 (fun o6=>
 .leaf o6) (fun o7=>
 .br (o7.1==(-1:Int)) (
 .leaf (true,())) (
 .ob (O6 o7 (o7.1,())) fun r8=>
 .leaf r8))))
def Aaw (a0:Bp):Option ((Bool×Unit)):=(Akp a0).val
def Aph (a0:YEp):Tree ((Bool×Unit)):=
 .ob (A5 (a0.1,()) ((0:Int),()) ((4294967295:Int),())) fun r1=>
 .br r1.1 (
 .br ((a0.2.1.length:Int)==(32:Int)) (
 .ob (A5 (a0.2.2.1,()) ((0:Int),()) ((281474976710656:Int),())) fun r2=>
 .br r2.1 (
 .ob (Aaw (a0.2.2.2.1,a0.2.2.2.2.1,())) fun r3=>
 .leaf r3) (
 .leaf (false,()))) (
 .leaf (false,()))) (
 .leaf (false,()))
def Qh (a0:YEp):Option ((Bool×Unit)):=(Aph a0).val
def Akr (a0:Af):Tree ((Bool×Unit)):=
 letI u1:=a0.2.2.2.2.2.2.2;letI u2:=u1.2.2;letI u3:=u2.2.2;.br (!u3.2.1) (
 .ob (O5 (u1.1,u1.2.1,u2.1,u2.2.1,u3.1,()) ((0:Int),([]:List YB),(0:Int),(0:Int),([]:List YI),())) fun r1=>
 .br r1.1 (
 .leaf ((u3.2.2.1==(0:Int)),())) (
 .leaf (false,()))) (
 .ob (Qh (u1.1,u1.2.1,u2.1,u2.2.1,u3.1,())) fun r2=>
 .br (!r2.1) (
 .leaf (false,())) (
 .br (u1.1 != (i64.wrap (a0.2.2.1-(1:Int)))) (
 .leaf (false,())) (
 .ob (A5 (u3.2.2.1,()) ((0:Int),()) ((1000005:Int),())) fun r3=>
 .br r3.1 (
 .leaf (true,())) (
 .br (u3.2.2.1==(-1:Int)) (
 .leaf ((a0.1==(1:Int)),())) (
 .leaf (false,()))))))
def Ale (a0:Af):Option ((Bool×Unit)):=(Akr a0).val
def Agn (a0:Af):Tree ((Bool×Unit)):=
 letI u1:=a0.2.2;.ob (Jm (a0.1,())) fun r1=>
 .br (!r1.1) (
 .leaf (false,())) (
 .ob (Ch (a0.2.1,())) fun r2=>
 .br (!r2.1) (
 .leaf (false,())) (
 .ob (Qh (u1.1,u1.2.1,u1.2.2.1,u1.2.2.2.1,u1.2.2.2.2.1,())) fun r3=>
 .br (!r3.1) (
 .leaf (false,())) (
 .ob (Ale a0) fun r4=>
 .br (!r4.1) (
 .leaf (false,())) (
 .br ((a0.2.2.2.2.2.2.2.2.2.2.2.2.2.2.1.length:Int)==(0:Int)) (
 .leaf (true,())) (
 .br (a0.1==(0:Int)) (
 .br ((a0.2.2.2.2.2.2.2.2.2.2.2.2.2.2.1.length:Int)==(32:Int)) (
 .leaf ((decide (u1.1<(4294967295:Int))),())) (
 .leaf (false,()))) (
 .leaf (false,())))))))
def Gm (a0:Af):Option ((Bool×Unit)):=(Agn a0).val
def Xs (a0:Ab):Tree ((Bool×Unit)):=
 letI u1:=a0.2.2.2.2.2;letI u2:=u1.2.2;letI u3:=u2.2.2;letI u4:=u3.2.2.2.2;letI u5:=u4.2.2.2.2;letI u6:=u5.2.2;letI u7:=u6.2.2.2;letI u8:=u7.2.2.2;letI u9:=u8.2.2.2;.ob (Ch (u1.1,())) fun r1=>
 .br (!r1.1) (
 .leaf (false,())) (
 .br (u1.2.1 != (3:Int)) (
 .leaf (false,())) (
 .ob (Gr (u1.2.1,u2.1,u2.2.1,u3.1,u3.2.1,u3.2.2.1,u3.2.2.2.1,u4.1,u4.2.1,u4.2.2.1,u4.2.2.2.1,())) fun r2=>
 .br (!r2.1) (
 .leaf (false,())) (
 .br (u2.1 != a0.1) (
 .leaf (false,())) (
 .ob (Di (u2.2.1,()) (u1.1,())) fun r3=>
 .br (!r3.1) (
 .leaf (false,())) (
 .ob (Gm (u5.1,u5.2.1,u6.1,u6.2.1,u6.2.2.1,u7.1,u7.2.1,u7.2.2.1,u8.1,u8.2.1,u8.2.2.1,u9.1,u9.2.1,u9.2.2.1,u9.2.2.2.1,())) fun r4=>
 .br r4.1 (
 .br (u5.1==(0:Int)) (
 .ob (Di (u5.2.1,()) (u3.1,())) fun r5=>
 .br r5.1 (
 .br (u6.1==(0:Int)) (
 .br (!u9.2.1) (
 .leaf (((a0.2.2.2.2.2.2.2.2.2.2.2.2.2.2.2.2.2.2.2.2.2.2.2.2.2.2.2.2.2.2.2.1.length:Int)==(0:Int)),())) (
 .leaf (false,()))) (
 .leaf (false,()))) (
 .leaf (false,()))) (
 .leaf (false,()))) (
 .leaf (false,())))))))
def Zn (a0:Ab):Option ((Bool×Unit)):=(Xs a0).val
def Xt (a0:Ab):Tree ((Bool×Unit)):=
 letI u1:=a0.2.2.2.2;letI u2:=u1.2.2.2;letI u3:=u2.2.2.2;letI u4:=u3.2.2.2;letI u5:=u4.2.2.2.2;letI u6:=u5.2.2;letI u7:=u6.2.2;letI u8:=u7.2.2;letI u9:=u8.2.2;letI u10:=u9.2.2;letI u11:=u10.2.2;letI u12:=u11.2.2;letI u13:=u12.2.2;letI u14:=u13.2.2;letI u15:=u14.2.2;letI u16:=u15.2.2;.ob (A5 (a0.1,()) ((1:Int),()) ((9:Int),())) fun r1=>
 .br (!r1.1) (
 .leaf (false,())) (
 .ob (Sl (a0.2.1,())) fun r2=>
 .br (!r2.1) (
 .leaf (false,())) (
 .ob (Ahc (a0.2.2.1,a0.2.2.2.1,())) fun r3=>
 .br (!r3.1) (
 .leaf (false,())) (
 .ob (Ff (u1.2.2.1,u2.1,u2.2.1,u2.2.2.1,u3.1,u3.2.1,u3.2.2.1,u4.1,u4.2.1,u4.2.2.1,u4.2.2.2.1,()) ((0:Int),(0:Int),([]:List YB),([]:List YB),(0:Int),([]:List YB),([]:List YB),(0:Int),(0:Int),([]:List YB),([]:List YB),())) fun r4=>
 .br (u1.1==(0:Int)) (
 .br ((a0.2.2.2.2.2.1.length:Int)==(0:Int)) (
 .br r4.1 (
 .ob (L5 (u5.1,u5.2.1,u6.1,u6.2.1,u7.1,u7.2.1,u8.1,u8.2.1,u9.1,u9.2.1,u10.1,u10.2.1,u11.1,u11.2.1,u12.1,())) fun r5=>
 .br r5.1 (
 .br (and (u12.2.1==false) (and (u13.1==(0:Int)) (and (u13.2.1==(0:Int)) (and (u14.1==(0:Int)) true)))) (
 .br (and (u14.2.1==false) (and (u15.1==(0:Int)) (and (u15.2.1==(0:Int)) (and (u16.1==(0:Int)) true)))) (
 .leaf ((u16.2.1==(0:Int)),())) (
 .leaf (false,()))) (
 .leaf (false,()))) (
 .leaf (false,()))) (
 .leaf (false,()))) (
 .leaf (false,()))) (
 .br (u1.1==(1:Int)) (
 .ob (Ch (u1.2.1,())) fun r6=>
 .br r6.1 (
 .br r4.1 (
 .ob (L5 (u5.1,u5.2.1,u6.1,u6.2.1,u7.1,u7.2.1,u8.1,u8.2.1,u9.1,u9.2.1,u10.1,u10.2.1,u11.1,u11.2.1,u12.1,())) fun r7=>
 .br r7.1 (
 .br u12.2.1 (
 .ob (Kh (u12.2.1,u13.1,u13.2.1,u14.1,())) fun r8=>
 .br r8.1 (
 .br (and (u14.2.1==false) (and (u15.1==(0:Int)) (and (u15.2.1==(0:Int)) (and (u16.1==(0:Int)) true)))) (
 .leaf ((u16.2.1==(0:Int)),())) (
 .leaf (false,()))) (
 .leaf (false,()))) (
 .leaf (false,()))) (
 .leaf (false,()))) (
 .leaf (false,()))) (
 .leaf (false,()))) (
 .br (u1.1==(2:Int)) (
 .ob (Zn a0) fun r9=>
 .br r9.1 (
 .br u12.2.1 (
 .ob (Kh (u12.2.1,u13.1,u13.2.1,u14.1,())) fun r10=>
 .br r10.1 (
 .br (and (u14.2.1==false) (and (u15.1==(0:Int)) (and (u15.2.1==(0:Int)) (and (u16.1==(0:Int)) true)))) (
 .leaf ((u16.2.1==(0:Int)),())) (
 .leaf (false,()))) (
 .leaf (false,()))) (
 .leaf (false,()))) (
 .leaf (false,()))) (
 .br (u1.1==(3:Int)) (
 .ob (Ch (u1.2.1,())) fun r11=>
 .br r11.1 (
 .br r4.1 (
 .ob (Gm (u5.1,u5.2.1,u6.1,u6.2.1,u7.1,u7.2.1,u8.1,u8.2.1,u9.1,u9.2.1,u10.1,u10.2.1,u11.1,u11.2.1,u12.1,())) fun r12=>
 .br r12.1 (
 .br (u5.1==(0:Int)) (
 .br (and (u12.2.1==false) (and (u13.1==(0:Int)) (and (u13.2.1==(0:Int)) (and (u14.1==(0:Int)) true)))) (
 .ob (Kh (u14.2.1,u15.1,u15.2.1,u16.1,())) fun r13=>
 .br r13.1 (
 .br (u14.2.1==(decide ((a0.2.2.2.2.2.2.2.2.2.2.2.2.2.2.2.2.2.2.2.2.2.2.2.2.2.2.2.2.2.2.2.1.length:Int)>(0:Int)))) (
 .ob (A5 (u16.2.1,()) ((0:Int),()) ((1000000:Int),())) fun r14=>
 .leaf r14) (
 .leaf (false,()))) (
 .leaf (false,()))) (
 .leaf (false,()))) (
 .leaf (false,()))) (
 .leaf (false,()))) (
 .leaf (false,()))) (
 .leaf (false,()))) (
 .leaf (false,()))))))))
def Iy (a0:Ab):Option ((Bool×Unit)):=(Xt a0).val
def Xv (a0:YI):Tree (Bg):=
 .ob (A5 a0 ((0:Int),()) ((1000000:Int),())) fun r1=>
 .br (!r1.1) (
 .leaf (false,(0:Int),(0:Int),(0:Int),())) (
 .leaf (true,(i64.wrap (a0.1+(1:Int))),(1:Int),(1:Int),()))
def Lc (a0:YI):Option (Bg):=(Xv a0).val
def Agp (a0:Ab):Tree (Aa):=
 .ob (A1 (a0.2.2.2.2.2.1,())) fun r1=>
 .leaf ((1:Int),a0.1,r1.1,([]:List YB),(0:Int),([]:List YB),([]:List YB),(0:Int),(0:Int),([]:List YB),([]:List YB),())
def Wp (a0:Ab):Option (Aa):=(Agp a0).val
def Api (a0:Ab) (a1:YI) (a2:YBs):Tree (Ab×((List Aa)×Unit)×((List Ae)×Unit)×YI):=
 .ob (B8 a0) fun r1=>letI u1:=r1.2.2;letI u2:=u1.2.2.2.2;letI u3:=u2.2.2;letI u4:=u3.2.2;letI u5:=u4.2.2;letI u6:=u5.2.2;letI u7:=u6.2.2;letI u8:=u7.2.2;letI u9:=u8.2.2;letI u10:=u9.2.2;letI u11:=u10.2.2;letI u12:=u11.2.2;letI u13:=u12.2.2;letI u14:=u13.2.2;letI u15:=u14.2.2.2.2.2.2;letI u16:=u15.2.2;
 .ob (Iy a0) fun r2=>
 .br (!r2.1) (
 .leaf (r1,(([]:List Aa),()),(([]:List Ae),()),((1:Int),()))) (
 .ob (A5 a1 ((0:Int),()) ((1000000:Int),())) fun r3=>
 .br (!r3.1) (
 .leaf (r1,(([]:List Aa),()),(([]:List Ae),()),((1:Int),()))) (
 .ob (Ch a2) fun r4=>
 .br (!r4.1) (
 .leaf (r1,(([]:List Aa),()),(([]:List Ae),()),((1:Int),()))) (
 .br (a0.2.2.2.2.1 != (0:Int)) (
 .leaf (r1,(([]:List Aa),()),(([]:List Ae),()),((6:Int),()))) (
 .ob (A1 a2) fun r5=>
 .ob (Lc a1) fun r6=>
 .ob (A1 a2) fun r7=>
 .ob (Wp (r1.1,r1.2.1,u1.1,u1.2.1,(1:Int),r5.1,u2.1,u2.2.1,u3.1,u3.2.1,u4.1,u4.2.1,u5.1,u5.2.1,u6.1,u6.2.1,u7.1,u7.2.1,u8.1,u8.2.1,u9.1,u9.2.1,u10.1,u10.2.1,u11.1,u11.2.1,u12.1,u12.2.1,u13.1,u13.2.1,u14.1,u14.2.1,r6.1,r6.2.1,r6.2.2.1,r6.2.2.2.1,u15.1,u15.2.1,u16.1,u16.2.1,u16.2.2.1,())) fun r8=>
 .leaf ((r1.1,r1.2.1,u1.1,u1.2.1,(1:Int),r5.1,u2.1,u2.2.1,u3.1,u3.2.1,u4.1,u4.2.1,u5.1,u5.2.1,u6.1,u6.2.1,u7.1,u7.2.1,u8.1,u8.2.1,u9.1,u9.2.1,u10.1,u10.2.1,u11.1,u11.2.1,u12.1,u12.2.1,u13.1,u13.2.1,u14.1,u14.2.1,r6.1,r6.2.1,r6.2.2.1,r6.2.2.2.1,u15.1,u15.2.1,u16.1,u16.2.1,u16.2.2.1,()),([r8],()),([((1:Int),a0.1,(0:Int),r7.1,([]:List YB),(0:Int),(0:Int),([]:List YB),([]:List YB),(0:Int),(0:Int),a1.1,())],()),((0:Int),()))))))
def Apw (a0:Ab) (a1:YI) (a2:YBs):Option (Ab×((List Aa)×Unit)×((List Ae)×Unit)×YI):=(Api a0 a1 a2).val
def Apj (a0:YBs) (a1:YBs):Tree ((Bool×Unit)):=
 .leaf ((decide ((Kj a0.1)=(Kj a1.1))),())
def Fp (a0:YBs) (a1:YBs):Option ((Bool×Unit)):=(Apj a0 a1).val
def Tg (a0:Aa) (a1:Aa):Tree ((Bool×Unit)):=
 letI u1:=a0.2.2.2;letI u2:=u1.2.2.2;letI u3:=a1.2.2.2;letI u4:=u3.2.2.2;.br (a0.1==a1.1) (
 .br (a0.2.1==a1.2.1) (
 .ob (Fp (a0.2.2.1,()) (a1.2.2.1,())) fun r1=>
 .br r1.1 (
 .ob (Fp (u1.1,()) (u3.1,())) fun r2=>
 .br r2.1 (
 .br (u1.2.1==u3.2.1) (
 .ob (Fp (u1.2.2.1,()) (u3.2.2.1,())) fun r3=>
 .br r3.1 (
 .ob (Fp (u2.1,()) (u4.1,())) fun r4=>
 .br r4.1 (
 .br (u2.2.1==u4.2.1) (
 .br (u2.2.2.1==u4.2.2.1) (
 .ob (Fp (u2.2.2.2.1,()) (u4.2.2.2.1,())) fun r5=>
 .br r5.1 (
 .ob (Fp (u2.2.2.2.2.1,()) (u4.2.2.2.2.1,())) fun r6=>
 .leaf r6) (
 .leaf (false,()))) (
 .leaf (false,()))) (
 .leaf (false,()))) (
 .leaf (false,()))) (
 .leaf (false,()))) (
 .leaf (false,()))) (
 .leaf (false,()))) (
 .leaf (false,()))) (
 .leaf (false,()))) (
 .leaf (false,()))
def M5 (a0:Aa) (a1:Aa):Option ((Bool×Unit)):=(Tg a0 a1).val
def Gu (x1:(List YI)×(List YI)×Int×Unit):Option (((List YI)×(List YI)×Int×Unit)⊕((Bool×Unit)⊕(Unit))):=
 Tree.val (α:=((List YI)×(List YI)×Int×Unit)⊕((Bool×Unit)⊕(Unit))) <|
 .br (decide (x1.2.2.1<(x1.1.length:Int))) (
 .ob (idx x1.1 x1.2.2.1) fun e2=>
 .ob (idx x1.2.1 x1.2.2.1) fun e3=>
 .br (e2.1 != e3.1) (
 .leaf (.inr (.inl (false,())))) (
 .leaf (.inl (x1.1,x1.2.1,(i64.wrap (x1.2.2.1+(1:Int))),())))) (
 .leaf (.inr (.inr ())))
def Xx (a0:(List YI)×Unit) (a1:(List YI)×Unit):Tree ((Bool×Unit)):=
 .br ((a0.1.length:Int) != (a1.1.length:Int)) (
 .leaf (false,())) (
 .ob (Az Gu (a0.1,a1.1,(0:Int),())) fun o4=>
 .sm o4 (fun o5=>
 .leaf o5) (fun o6=>
 .leaf (true,())))
def Zo (a0:(List YI)×Unit) (a1:(List YI)×Unit):Option ((Bool×Unit)):=(Xx a0 a1).val
def Acm (a0:Bp) (a1:Bp):Tree ((Bool×Unit)):=
 .br (a0.1==a1.1) (
 .ob (Zo (a0.2.1,()) (a1.2.1,())) fun r1=>
 .leaf r1) (
 .leaf (false,()))
def Acy (a0:Bp) (a1:Bp):Option ((Bool×Unit)):=(Acm a0 a1).val
def Agq (a0:YEp) (a1:YEp):Tree ((Bool×Unit)):=
 .br (a0.1==a1.1) (
 .ob (Fp (a0.2.1,()) (a1.2.1,())) fun r1=>
 .br r1.1 (
 .br (a0.2.2.1==a1.2.2.1) (
 .ob (Acy (a0.2.2.2.1,a0.2.2.2.2.1,()) (a1.2.2.2.1,a1.2.2.2.2.1,())) fun r2=>
 .leaf r2) (
 .leaf (false,()))) (
 .leaf (false,()))) (
 .leaf (false,()))
def Wq (a0:YEp) (a1:YEp):Option ((Bool×Unit)):=(Agq a0 a1).val
def Xy (a0:Af) (a1:Af):Tree ((Bool×Unit)):=
 letI u1:=a0.2.2.2;letI u2:=u1.2.2.2;letI u3:=u2.2.2.2.2;letI u4:=a1.2.2.2;letI u5:=u4.2.2.2;letI u6:=u5.2.2.2.2;.br (a0.1==a1.1) (
 .ob (Fp (a0.2.1,()) (a1.2.1,())) fun r1=>
 .br r1.1 (
 .ob (Wq (a0.2.2.1,u1.1,u1.2.1,u1.2.2.1,u2.1,()) (a1.2.2.1,u4.1,u4.2.1,u4.2.2.1,u5.1,())) fun r2=>
 .br r2.1 (
 .ob (Wq (u2.2.1,u2.2.2.1,u2.2.2.2.1,u3.1,u3.2.1,()) (u5.2.1,u5.2.2.1,u5.2.2.2.1,u6.1,u6.2.1,())) fun r3=>
 .br r3.1 (
 .br (u3.2.2.1==u6.2.2.1) (
 .br (u3.2.2.2.1==u6.2.2.2.1) (
 .ob (Fp (u3.2.2.2.2.1,()) (u6.2.2.2.2.1,())) fun r4=>
 .leaf r4) (
 .leaf (false,()))) (
 .leaf (false,()))) (
 .leaf (false,()))) (
 .leaf (false,()))) (
 .leaf (false,()))) (
 .leaf (false,()))
def Zp (a0:Af) (a1:Af):Option ((Bool×Unit)):=(Xy a0 a1).val
def Qd (a0:Ab) (a1:Ab):Tree ((Bool×Unit)):=
 letI u1:=a0.2.2.2;letI u2:=u1.2.2.2;letI u3:=u2.2.2.2;letI u4:=u3.2.2.2;letI u5:=u4.2.2.2;letI u6:=u5.2.2.2;letI u7:=u6.2.2.2;letI u8:=u7.2.2.2;letI u9:=u8.2.2.2;letI u10:=u9.2.2.2;letI u11:=u10.2.2.2;letI u12:=u11.2.2.2;letI u13:=a1.2.2.2;letI u14:=u13.2.2.2;letI u15:=u14.2.2.2;letI u16:=u15.2.2.2;letI u17:=u16.2.2.2;letI u18:=u17.2.2.2;letI u19:=u18.2.2.2;letI u20:=u19.2.2.2;letI u21:=u20.2.2.2;letI u22:=u21.2.2.2;letI u23:=u22.2.2.2;letI u24:=u23.2.2.2;.br (a0.1==a1.1) (
 .ob (Fp (a0.2.1,()) (a1.2.1,())) fun r1=>
 .br r1.1 (
 .br (and (a0.2.2.1==a1.2.2.1) (and (u1.1==u13.1) true)) (
 .br (u1.2.1==u13.2.1) (
 .ob (Fp (u1.2.2.1,()) (u13.2.2.1,())) fun r2=>
 .br r2.1 (
 .ob (M5 (u2.1,u2.2.1,u2.2.2.1,u3.1,u3.2.1,u3.2.2.1,u4.1,u4.2.1,u4.2.2.1,u5.1,u5.2.1,()) (u14.1,u14.2.1,u14.2.2.1,u15.1,u15.2.1,u15.2.2.1,u16.1,u16.2.1,u16.2.2.1,u17.1,u17.2.1,())) fun r3=>
 .br r3.1 (
 .ob (Zp (u5.2.2.1,u6.1,u6.2.1,u6.2.2.1,u7.1,u7.2.1,u7.2.2.1,u8.1,u8.2.1,u8.2.2.1,u9.1,u9.2.1,u9.2.2.1,u10.1,u10.2.1,()) (u17.2.2.1,u18.1,u18.2.1,u18.2.2.1,u19.1,u19.2.1,u19.2.2.1,u20.1,u20.2.1,u20.2.2.1,u21.1,u21.2.1,u21.2.2.1,u22.1,u22.2.1,())) fun r4=>
 .br r4.1 (
 .br (and (u10.2.2.1==u22.2.2.1) (and (u11.1==u23.1) (and (u11.2.1==u23.2.1) (and (u11.2.2.1==u23.2.2.1) true)))) (
 .br (and (u12.1==u24.1) (and (u12.2.1==u24.2.1) (and (u12.2.2.1==u24.2.2.1) (and (u12.2.2.2.1==u24.2.2.2.1) true)))) (
 .leaf ((u12.2.2.2.2.1==u24.2.2.2.2.1),())) (
 .leaf (false,()))) (
 .leaf (false,()))) (
 .leaf (false,()))) (
 .leaf (false,()))) (
 .leaf (false,()))) (
 .leaf (false,()))) (
 .leaf (false,()))) (
 .leaf (false,()))) (
 .leaf (false,()))
def L6 (a0:Ab) (a1:Ab):Option ((Bool×Unit)):=(Qd a0 a1).val
def Apl (a0:Ab):Tree (Ab):=
 .ob (A1 (a0.2.1,())) fun r1=>
 .leaf (a0.1,r1.1,a0.2.2.1,a0.2.2.2.1,(0:Int),([]:List YB),(0:Int),(0:Int),([]:List YB),([]:List YB),(0:Int),([]:List YB),([]:List YB),(0:Int),(0:Int),([]:List YB),([]:List YB),(0:Int),([]:List YB),(0:Int),([]:List YB),(0:Int),(0:Int),([]:List YI),(0:Int),([]:List YB),(0:Int),(0:Int),([]:List YI),false,(0:Int),([]:List YB),false,(0:Int),(0:Int),(0:Int),false,(0:Int),(0:Int),(0:Int),(0:Int),())
def Ahe (a0:Ab):Option (Ab):=(Apl a0).val
def Avs (a0:YI) (a1:YI) (a2:YBs):Tree (Ae):=
 .ob (A1 a2) fun r1=>
 .leaf ((11:Int),a0.1,a1.1,([]:List YB),r1.1,(0:Int),(0:Int),([]:List YB),([]:List YB),(0:Int),(0:Int),(0:Int),())
def A6z (a0:YI) (a1:YI) (a2:YBs):Option (Ae):=(Avs a0 a1 a2).val
def Akw (a0:Af) (a1:YI):Tree (Af):=
 letI u1:=a0.2.2.2.2.2.2.2.2.2.2.2.2;.ob (Fy a0) fun r1=>letI u2:=r1.2.2.2;
 .ob (Gm a0) fun r2=>
 .br r2.1 (
 .ob (A5 a1 ((0:Int),()) ((1000000:Int),())) fun r3=>
 .br r3.1 (
 .br u1.1 (
 .br (u1.2.1 != (-1:Int)) (
 .br (decide (a1.1>u1.2.1)) (
 .leaf (r1.1,r1.2.1,r1.2.2.1,u2.1,u2.2.1,u2.2.2.1,u2.2.2.2.1,(0:Int),([]:List YB),(0:Int),(0:Int),([]:List YI),false,(0:Int),u2.2.2.2.2.2.2.2.2.2.2.2.1,())) (
 .leaf r1)) (
 .leaf r1)) (
 .leaf r1)) (
 .leaf r1)) (
 .leaf r1)
def Ay3 (a0:Af) (a1:YI):Option (Af):=(Akw a0 a1).val
def Qe (a0:Bg) (a1:YI):Tree ((Bool×Unit)):=
 .ob (Kh a0) fun r1=>
 .br r1.1 (
 .br a0.1 (
 .ob (A5 a1 ((0:Int),()) ((1000000:Int),())) fun r2=>
 .br r2.1 (
 .leaf ((decide (a1.1≥a0.2.1)),())) (
 .leaf (false,()))) (
 .leaf (false,()))) (
 .leaf (false,()))
def Qi (a0:Bg) (a1:YI):Option ((Bool×Unit)):=(Qe a0 a1).val
def Ti (a0:Bg) (a1:YI):Tree (Bg×YI):=
 letI u1:=a0.2.2;.ob (Qi a0 a1) fun r1=>
 .br (!r1.1) (
 .leaf (a0,((0:Int),()))) (
 .br (u1.2.1==(5:Int)) (
 .leaf ((false,(0:Int),(0:Int),(0:Int),()),((2:Int),()))) (
 .leaf ((true,(i64.wrap (a1.1+(if (8:Int)<(i64.wrap ((2:Int)*u1.1))then(8:Int)else(i64.wrap ((2:Int)*u1.1))))),(if (8:Int)<(i64.wrap ((2:Int)*u1.1))then(8:Int)else(i64.wrap ((2:Int)*u1.1))),(i64.wrap (u1.2.1+(1:Int))),()),((1:Int),()))))
def M6 (a0:Bg) (a1:YI):Option (Bg×YI):=(Ti a0 a1).val
def Ary (x1:Int×(List YB)×Int×Unit):Option ((Int×(List YB)×Int×Unit)⊕(YBs)):=
 letI u1:=x1.2.2;Tree.val (α:=(Int×(List YB)×Int×Unit)⊕(YBs)) <|
 .br (decide (u1.1≥(0:Int))) (
 .chk (decide ((0:Int)≤(i64.wrap ((8:Int)*u1.1)))) <|
 .chk (decide (x1.2.1.length+[((u8.wrap ((i64.wrap ((BitVec.ofInt (i64.bits) ((Int.fdiv x1.1 (2^(min ((i64.wrap ((8:Int)*u1.1))).toNat i64.bits)))) &&& BitVec.ofInt (i64.bits) ((255:Int))).toNat:Nat)))),())].length≤4294967296)) <|
 .leaf (.inl (x1.1,(x1.2.1++[((u8.wrap ((i64.wrap ((BitVec.ofInt (i64.bits) ((Int.fdiv x1.1 (2^(min ((i64.wrap ((8:Int)*u1.1))).toNat i64.bits)))) &&& BitVec.ofInt (i64.bits) ((255:Int))).toNat:Nat)))),())]),(i64.wrap (u1.1-(1:Int))),()))) (
 .leaf (.inr (x1.2.1,())))
def Ayr (a0:YBs) (a1:YI) (a2:YI):Tree (YBs):=
 .chk (decide (([]:List YB).length+a0.1.length≤4294967296)) <|
 .br (decide (a2.1<(1:Int))) (
 .leaf ((([]:List YB)++a0.1),())) (
 .br (decide (a2.1>(6:Int))) (
 .leaf ((([]:List YB)++a0.1),())) (
 .ob (Az Ary (a1.1,(([]:List YB)++a0.1),(i64.wrap (a2.1-(1:Int))),())) fun o2=>
 .leaf o2))
def Hc (a0:YBs) (a1:YI) (a2:YI):Option (YBs):=(Ayr a0 a1 a2).val
def Ai6 (a0:YI):Tree (YBs):=
 .ob (A5 a0 ((0:Int),()) ((4294967295:Int),())) fun r1=>
 .br (!r1.1) (
 .leaf (([]:List YB),())) (
 .ob (Hc (([]:List YB),()) a0 ((4:Int),())) fun r2=>
 .leaf r2)
def Axm (a0:YI):Option (YBs):=(Ai6 a0).val
def Is (x1:(List YB)×(List YBs)×Int×Int×Unit):Option (((List YB)×(List YBs)×Int×Int×Unit)⊕(YBs)):=
 letI u1:=x1.2.2;Tree.val (α:=((List YB)×(List YBs)×Int×Int×Unit)⊕(YBs)) <|
 .br (decide (u1.2.1<u1.1)) (
 .ob (idx x1.2.1 u1.2.1) fun e2=>
 .chk (decide (x1.1.length+e2.1.length≤4294967296)) <|
 .leaf (.inl ((x1.1++e2.1),x1.2.1,u1.1,(i64.wrap (u1.2.1+(1:Int))),()))) (
 .leaf (.inr (x1.1,())))
def Agr (a0:(List YBs)×Unit):Tree (YBs):=
 .ob (Az Is (([]:List YB),a0.1,(a0.1.length:Int),(0:Int),())) fun o3=>
 .leaf o3
def Em (a0:(List YBs)×Unit):Option (YBs):=(Agr a0).val
def Agt (a0:YI) (a1:YBs) (a2:YI) (a3:YI):Tree (YBs):=
 .ob (Jm a0) fun r1=>
 .br (!r1.1) (
 .leaf (([]:List YB),())) (
 .ob (Ch a1) fun r2=>
 .br (!r2.1) (
 .leaf (([]:List YB),())) (
 .ob (A5 a2 ((0:Int),()) ((4294967295:Int),())) fun r3=>
 .br (!r3.1) (
 .leaf (([]:List YB),())) (
 .ob (A5 a3 ((0:Int),()) ((281474976710655:Int),())) fun r4=>
 .br (!r4.1) (
 .leaf (([]:List YB),())) (
 .ob (Hc (([]:List YB),()) a2 ((4:Int),())) fun r5=>
 .ob (Hc (([]:List YB),()) a3 ((6:Int),())) fun r6=>
 .ob (Em ([([((u8.wrap (a0.1)),())],()),a1,r5,r6],())) fun r7=>
 .leaf r7))))
def O7 (a0:YI) (a1:YBs) (a2:YI) (a3:YI):Option (YBs):=(Agt a0 a1 a2 a3).val
def Avu:Tree (((List YI)×Unit)):=
 .leaf ([((1779033703:Int),()),((3144134277:Int),()),((1013904242:Int),()),((2773480762:Int),()),((1359893119:Int),()),((2600822924:Int),()),((528734635:Int),()),((1541459225:Int),())],())
def A60:Option (((List YI)×Unit)):=(Avu).val
def An3:Tree (Jk):=
 .ob A60 fun r1=>
 .leaf (r1.1,([]:List YB),(0:Int),())
def Aoa:Option (Jk):=(An3).val
def Agv (a0:Jk):Tree ((Bool×Unit)):=
 .ob (Lb (a0.1,()) ((8:Int),())) fun r1=>
 .br r1.1 (
 .ob (A5 (a0.2.2.1,()) ((0:Int),()) ((1048576:Int),())) fun r2=>
 .br r2.1 (
 .chk (decide ((0:Int)≤a0.2.2.1)) <|
 .leaf (((a0.2.2.1%(64:Int))==(a0.2.1.length:Int)),())) (
 .leaf (false,()))) (
 .leaf (false,()))
def Wr (a0:Jk):Option ((Bool×Unit)):=(Agv a0).val
def Atv (a0:YBs) (a1:YI) (a2:YI):Tree (YBs×(Bool×Unit)):=
 .br (decide (a1.1<(0:Int))) (
 .leaf ((([]:List YB),()),(false,()))) (
 .br (decide (a2.1<(0:Int))) (
 .leaf ((([]:List YB),()),(false,()))) (
 .br (decide (a1.1>(a0.1.length:Int))) (
 .leaf ((([]:List YB),()),(false,()))) (
 .br (decide (a2.1>(i64.wrap ((a0.1.length:Int)-a1.1)))) (
 .leaf ((([]:List YB),()),(false,()))) (
 .chk (decide ((0:Int)≤a1.1)) <|
 .chk (decide (a1.1≤(i64.wrap (a1.1+a2.1)))) <|
 .chk (decide ((i64.wrap (a1.1+a2.1))≤(a0.1.length:Int))) <|
 .chk (decide (([]:List YB).length+((a0.1.take ((i64.wrap (a1.1+a2.1))).toNat).drop (a1.1).toNat).length≤4294967296)) <|
 .leaf (((([]:List YB)++((a0.1.take ((i64.wrap (a1.1+a2.1))).toNat).drop (a1.1).toNat)),()),(true,()))))))
def At6 (a0:YBs) (a1:YI) (a2:YI):Option (YBs×(Bool×Unit)):=(Atv a0 a1 a2).val
def Lz (x2:Int×Int×Int×(List YB)×Int×Int×Unit):Option ((Int×Int×Int×(List YB)×Int×Int×Unit)⊕((Int×Int×Int×Unit))):=
 letI u1:=x2.2.2;letI u2:=u1.2.2;Tree.val (α:=(Int×Int×Int×(List YB)×Int×Int×Unit)⊕((Int×Int×Int×Unit))) <|
 .br (decide (u2.2.1<u2.1)) (
 .ob (idx u1.2.1 u2.2.1) fun e3=>
 .leaf (.inl (x2.1,x2.2.1,(i64.wrap ((i64.wrap ((256:Int)*u1.1))+(i64.wrap (e3.1)))),u1.2.1,u2.1,(i64.wrap (u2.2.1+(1:Int))),()))) (
 .leaf (.inr (x2.1,x2.2.1,u1.1,())))
def Apm (a0:YBs) (a1:YI) (a2:YI):Tree (YI×YI×(Bool×Unit)):=
 .br (decide (a2.1<(1:Int))) (
 .leaf (((0:Int),()),((0:Int),()),(false,()))) (
 .br (decide (a2.1>(6:Int))) (
 .leaf (((0:Int),()),((0:Int),()),(false,()))) (
 .ob (At6 a0 a1 a2) fun r1=>
 .br (!r1.2.1) (
 .leaf (((0:Int),()),((0:Int),()),(false,()))) (
 .ob (Az Lz (a1.1,a2.1,(0:Int),r1.1.1,(r1.1.1.length:Int),(0:Int),())) fun o4=>
 .leaf ((o4.2.2.1,()),((i64.wrap (o4.1+o4.2.1)),()),(true,())))))
def Apx (a0:YBs) (a1:YI) (a2:YI):Option (YI×YI×(Bool×Unit)):=(Apm a0 a1 a2).val
def Atx (a0:YI) (a1:YI):Tree (YI):=
 .br (decide (a1.1<(0:Int))) (
 .leaf ((i64.wrap ((BitVec.ofInt (i64.bits) (a0.1) &&& BitVec.ofInt (i64.bits) ((4294967295:Int))).toNat:Nat)),())) (
 .br (decide (a1.1>(31:Int))) (
 .leaf ((i64.wrap ((BitVec.ofInt (i64.bits) (a0.1) &&& BitVec.ofInt (i64.bits) ((4294967295:Int))).toNat:Nat)),())) (
 .chk (decide ((0:Int)≤a1.1)) <|
 .chk (decide ((0:Int)≤(i64.wrap ((32:Int)-a1.1)))) <|
 .leaf ((i64.wrap ((BitVec.ofInt (i64.bits) ((i64.wrap ((BitVec.ofInt (i64.bits) ((Int.fdiv (i64.wrap ((BitVec.ofInt (i64.bits) (a0.1) &&& BitVec.ofInt (i64.bits) ((4294967295:Int))).toNat:Nat)) (2^(min (a1.1).toNat i64.bits)))) ||| BitVec.ofInt (i64.bits) ((i64.wrap ((i64.wrap ((BitVec.ofInt (i64.bits) (a0.1) &&& BitVec.ofInt (i64.bits) ((4294967295:Int))).toNat:Nat))*2^(min ((i64.wrap ((32:Int)-a1.1))).toNat i64.bits))))).toNat:Nat))) &&& BitVec.ofInt (i64.bits) ((4294967295:Int))).toNat:Nat)),())))
def Hu (a0:YI) (a1:YI):Option (YI):=(Atx a0 a1).val
def Gv (x1:(List YB)×(List YI)×Int×Unit):Option (((List YB)×(List YI)×Int×Unit)⊕(((List YI)×Unit))):=
 letI u1:=x1.2.2;Tree.val (α:=((List YB)×(List YI)×Int×Unit)⊕(((List YI)×Unit))) <|
 .br (decide (u1.1<(16:Int))) (
 .ob (Apx (x1.1,()) ((i64.wrap ((4:Int)*u1.1)),()) ((4:Int),())) fun r2=>
 .ob (idx x1.2.1 u1.1) fun e3=>
 let q4:=(x1.2.1.set (u1.1).toNat r2.1)
 .leaf (.inl (x1.1,q4,(i64.wrap (u1.1+(1:Int))),()))) (
 .leaf (.inr (x1.2.1,())))
def Gw (x6:(List YI)×Int×Unit):Option (((List YI)×Int×Unit)⊕(((List YI)×Unit))):=
 Tree.val (α:=((List YI)×Int×Unit)⊕(((List YI)×Unit))) <|
 .br (decide (x6.2.1<(64:Int))) (
 .ob (idx x6.1 (i64.wrap (x6.2.1-(15:Int)))) fun e7=>
 .ob (idx x6.1 (i64.wrap (x6.2.1-(2:Int)))) fun e8=>
 .ob (Hu e7 ((7:Int),())) fun r9=>
 .ob (Hu e7 ((18:Int),())) fun r10=>
 .ob (Hu e8 ((17:Int),())) fun r11=>
 .ob (Hu e8 ((19:Int),())) fun r12=>
 .ob (idx x6.1 (i64.wrap (x6.2.1-(7:Int)))) fun e13=>
 .ob (idx x6.1 (i64.wrap (x6.2.1-(16:Int)))) fun e14=>
 .ob (idx x6.1 x6.2.1) fun e15=>
 let q16:=(x6.1.set (x6.2.1).toNat ((i64.wrap ((BitVec.ofInt (i64.bits) ((i64.wrap ((i64.wrap ((i64.wrap (e13.1+e14.1))+(i64.wrap ((BitVec.ofInt (i64.bits) ((i64.wrap ((BitVec.ofInt (i64.bits) (r9.1) ^^^ BitVec.ofInt (i64.bits) (r10.1)).toNat:Nat))) ^^^ BitVec.ofInt (i64.bits) ((Int.fdiv e7.1 (2^(min ((3:Int)).toNat i64.bits))))).toNat:Nat))))+(i64.wrap ((BitVec.ofInt (i64.bits) ((i64.wrap ((BitVec.ofInt (i64.bits) (r11.1) ^^^ BitVec.ofInt (i64.bits) (r12.1)).toNat:Nat))) ^^^ BitVec.ofInt (i64.bits) ((Int.fdiv e8.1 (2^(min ((10:Int)).toNat i64.bits))))).toNat:Nat))))) &&& BitVec.ofInt (i64.bits) ((4294967295:Int))).toNat:Nat)),()))
 .leaf (.inl (q16,(i64.wrap (x6.2.1+(1:Int))),()))) (
 .leaf (.inr (x6.1,())))
def Om (a0:YBs):Tree (((List YI)×Unit)):=
 .br ((a0.1.length:Int) != (64:Int)) (
 .leaf (([]:List YI),())) (
 .ob (Az Gv (a0.1,(List.replicate ((64:Int)).toNat ((0:Int),())),(0:Int),())) fun o5=>
 .ob (Az Gw (o5.1,(16:Int),())) fun o17=>
 .leaf o17)
def Zq (a0:YBs):Option (((List YI)×Unit)):=(Om a0).val
def Ai8 (a0:YI):Tree YI:=.leaf (R7 a0.1,())
def Ajb (a0:YI):Option YI:=(Ai8 a0).val
def Avw (a0:YI) (a1:YI):Tree (YI):=
 .leaf ((i64.wrap ((BitVec.ofInt (i64.bits) ((i64.wrap (a0.1+a1.1))) &&& BitVec.ofInt (i64.bits) ((4294967295:Int))).toNat:Nat)),())
def Aax (a0:YI) (a1:YI):Option (YI):=(Avw a0 a1).val
def Fm (x11:(List YI)×(List YI)×(List YI)×Int×Int×Int×Int×Int×Int×Int×Int×Int×Unit):Option (((List YI)×(List YI)×(List YI)×Int×Int×Int×Int×Int×Int×Int×Int×Int×Unit)⊕(((List YI)×(List YI)×Int×Int×Int×Int×Int×Int×Int×Int×Unit))):=
 letI u1:=x11.2.2.2;letI u2:=u1.2.2;letI u3:=u2.2.2;letI u4:=u3.2.2;Tree.val (α:=((List YI)×(List YI)×(List YI)×Int×Int×Int×Int×Int×Int×Int×Int×Int×Unit)⊕(((List YI)×(List YI)×Int×Int×Int×Int×Int×Int×Int×Int×Unit))) <|
 .br (decide (u4.2.2.1<(64:Int))) (
 .ob (Hu (u3.1,()) ((6:Int),())) fun r12=>
 .ob (Hu (u3.1,()) ((11:Int),())) fun r13=>
 .ob (Hu (u3.1,()) ((25:Int),())) fun r14=>
 .ob (Ajb (u4.2.2.1,())) fun r15=>
 .ob (idx x11.2.2.1 u4.2.2.1) fun e16=>
 .ob (Hu (u1.1,()) ((2:Int),())) fun r17=>
 .ob (Hu (u1.1,()) ((13:Int),())) fun r18=>
 .ob (Hu (u1.1,()) ((22:Int),())) fun r19=>
 .ob (Aax (u2.2.1,()) ((i64.wrap ((i64.wrap ((i64.wrap ((i64.wrap (u4.2.1+(i64.wrap ((BitVec.ofInt (i64.bits) ((i64.wrap ((BitVec.ofInt (i64.bits) (r12.1) ^^^ BitVec.ofInt (i64.bits) (r13.1)).toNat:Nat))) ^^^ BitVec.ofInt (i64.bits) (r14.1)).toNat:Nat))))+(i64.wrap ((BitVec.ofInt (i64.bits) ((i64.wrap ((BitVec.ofInt (i64.bits) (u3.1) &&& BitVec.ofInt (i64.bits) (u3.2.1)).toNat:Nat))) ^^^ BitVec.ofInt (i64.bits) ((i64.wrap ((BitVec.ofInt (i64.bits) ((i64.wrap ((BitVec.ofInt (i64.bits) ((4294967295:Int)) ^^^ BitVec.ofInt (i64.bits) (u3.1)).toNat:Nat))) &&& BitVec.ofInt (i64.bits) (u4.1)).toNat:Nat)))).toNat:Nat))))+r15.1))+e16.1)),())) fun r20=>
 .ob (Aax ((i64.wrap ((i64.wrap ((i64.wrap ((i64.wrap (u4.2.1+(i64.wrap ((BitVec.ofInt (i64.bits) ((i64.wrap ((BitVec.ofInt (i64.bits) (r12.1) ^^^ BitVec.ofInt (i64.bits) (r13.1)).toNat:Nat))) ^^^ BitVec.ofInt (i64.bits) (r14.1)).toNat:Nat))))+(i64.wrap ((BitVec.ofInt (i64.bits) ((i64.wrap ((BitVec.ofInt (i64.bits) (u3.1) &&& BitVec.ofInt (i64.bits) (u3.2.1)).toNat:Nat))) ^^^ BitVec.ofInt (i64.bits) ((i64.wrap ((BitVec.ofInt (i64.bits) ((i64.wrap ((BitVec.ofInt (i64.bits) ((4294967295:Int)) ^^^ BitVec.ofInt (i64.bits) (u3.1)).toNat:Nat))) &&& BitVec.ofInt (i64.bits) (u4.1)).toNat:Nat)))).toNat:Nat))))+r15.1))+e16.1)),()) ((i64.wrap ((i64.wrap ((BitVec.ofInt (i64.bits) ((i64.wrap ((BitVec.ofInt (i64.bits) (r17.1) ^^^ BitVec.ofInt (i64.bits) (r18.1)).toNat:Nat))) ^^^ BitVec.ofInt (i64.bits) (r19.1)).toNat:Nat))+(i64.wrap ((BitVec.ofInt (i64.bits) ((i64.wrap ((BitVec.ofInt (i64.bits) ((i64.wrap ((BitVec.ofInt (i64.bits) (u1.1) &&& BitVec.ofInt (i64.bits) (u1.2.1)).toNat:Nat))) ^^^ BitVec.ofInt (i64.bits) ((i64.wrap ((BitVec.ofInt (i64.bits) (u1.1) &&& BitVec.ofInt (i64.bits) (u2.1)).toNat:Nat)))).toNat:Nat))) ^^^ BitVec.ofInt (i64.bits) ((i64.wrap ((BitVec.ofInt (i64.bits) (u1.2.1) &&& BitVec.ofInt (i64.bits) (u2.1)).toNat:Nat)))).toNat:Nat)))),())) fun r21=>
 .leaf (.inl (x11.1,x11.2.1,x11.2.2.1,r21.1,u1.1,u1.2.1,u2.1,r20.1,u3.1,u3.2.1,u4.1,(i64.wrap (u4.2.2.1+(1:Int))),()))) (
 .leaf (.inr (x11.1,x11.2.1,u1.1,u1.2.1,u2.1,u2.2.1,u3.1,u3.2.1,u4.1,u4.2.1,())))
def E8 (x23:(List YI)×(List YI)×(List YI)×Int×Int×Unit):Option (((List YI)×(List YI)×(List YI)×Int×Int×Unit)⊕(((List YI)×Unit))):=
 letI u1:=x23.2.2;letI u2:=u1.2.2;Tree.val (α:=((List YI)×(List YI)×(List YI)×Int×Int×Unit)⊕(((List YI)×Unit))) <|
 .br (decide (u2.1<u1.2.1)) (
 .ob (idx u1.1 u2.1) fun e24=>
 .ob (idx x23.1 u2.1) fun e25=>
 .ob (Aax e25 e24) fun r26=>
 .ob (idx x23.2.1 u2.1) fun e27=>
 let q28:=(x23.2.1.set (u2.1).toNat r26)
 .leaf (.inl (x23.1,q28,u1.1,u1.2.1,(i64.wrap (u2.1+(1:Int))),()))) (
 .leaf (.inr (x23.2.1,())))
def On (a0:(List YI)×Unit) (a1:YBs):Tree (((List YI)×Unit)):=
 .chk (decide (([]:List YI).length+a0.1.length≤4294967296)) <|
 .ob (Lb a0 ((8:Int),())) fun r1=>
 .br (!r1.1) (
 .leaf ((([]:List YI)++a0.1),())) (
 .br ((a1.1.length:Int) != (64:Int)) (
 .leaf ((([]:List YI)++a0.1),())) (
 .ob (Zq a1) fun r2=>
 .ob (idx a0.1 (0:Int)) fun e3=>
 .ob (idx a0.1 (1:Int)) fun e4=>
 .ob (idx a0.1 (2:Int)) fun e5=>
 .ob (idx a0.1 (3:Int)) fun e6=>
 .ob (idx a0.1 (4:Int)) fun e7=>
 .ob (idx a0.1 (5:Int)) fun e8=>
 .ob (idx a0.1 (6:Int)) fun e9=>
 .ob (idx a0.1 (7:Int)) fun e10=>
 .ob (Az Fm (a0.1,(([]:List YI)++a0.1),r2.1,e3.1,e4.1,e5.1,e6.1,e7.1,e8.1,e9.1,e10.1,(0:Int),())) fun o22=>letI u1:=o22.2.2;letI u2:=u1.2.2;letI u3:=u2.2.2.2;
 .ob (Az E8 (o22.1,o22.2.1,[(u1.1,()),(u1.2.1,()),(u2.1,()),(u2.2.1,()),(u2.2.2.1,()),(u3.1,()),(u3.2.1,()),(u3.2.2.1,())],([(u1.1,()),(u1.2.1,()),(u2.1,()),(u2.2.1,()),(u2.2.2.1,()),(u3.1,()),(u3.2.1,()),(u3.2.2.1,())].length:Int),(0:Int),())) fun o29=>
 .leaf o29))
def Ld (a0:(List YI)×Unit) (a1:YBs):Option (((List YI)×Unit)):=(On a0 a1).val
def Eb (x3:(List YI)×(List YB)×Unit):Option (((List YI)×(List YB)×Unit)⊕(((List YI)×(List YB)×Unit))):=
 Tree.val (α:=((List YI)×(List YB)×Unit)⊕(((List YI)×(List YB)×Unit))) <|
 .br (decide ((x3.2.1.length:Int)≥(64:Int))) (
 .chk (decide ((64:Int)≤(x3.2.1.length:Int))) <|
 .ob (Ld (x3.1,()) (((x3.2.1.take ((64:Int)).toNat).drop ((0:Int)).toNat),())) fun r4=>
 .chk (decide ((64:Int)≤(x3.2.1.length:Int))) <|
 .chk (decide ((x3.2.1.length:Int)≤(x3.2.1.length:Int))) <|
 .leaf (.inl (r4.1,((x3.2.1.take ((x3.2.1.length:Int)).toNat).drop ((64:Int)).toNat),()))) (
 .leaf (.inr x3))
def Oq (a0:(List YI)×Unit) (a1:YBs):Tree (((List YI)×Unit)×YBs):=
 .ob (Az Eb (a0.1,a1.1,())) fun o5=>
 .leaf ((o5.1,()),(o5.2.1,()))
def Kl (a0:(List YI)×Unit) (a1:YBs):Option (((List YI)×Unit)×YBs):=(Oq a0 a1).val
def Acn (a0:Jk) (a1:YBs):Tree (Jk):=
 .ob (Wr a0) fun r1=>
 .br (!r1.1) (
 .chk (decide (([]:List YI).length+a0.1.length≤4294967296)) <|
 .ob (A1 (a0.2.1,())) fun r2=>
 .leaf ((([]:List YI)++a0.1),r2.1,a0.2.2.1,())) (
 .br (decide ((a1.1.length:Int)>(i64.wrap ((1048576:Int)-a0.2.2.1)))) (
 .chk (decide (([]:List YI).length+a0.1.length≤4294967296)) <|
 .ob (A1 (a0.2.1,())) fun r3=>
 .leaf ((([]:List YI)++a0.1),r3.1,a0.2.2.1,())) (
 .ob (Em ([(a0.2.1,()),a1],())) fun r4=>
 .ob (Kl (a0.1,()) r4) fun r5=>
 .chk (decide (([]:List YI).length+r5.1.1.length≤4294967296)) <|
 .ob (A1 r5.2) fun r6=>
 .leaf ((([]:List YI)++r5.1.1),r6.1,(i64.wrap (a0.2.2.1+(a1.1.length:Int))),())))
def Acz (a0:Jk) (a1:YBs):Option (Jk):=(Acn a0 a1).val
def K7 (x2:Int×(List YB)×Unit):Option ((Int×(List YB)×Unit)⊕((Int×(List YB)×Unit))):=
 Tree.val (α:=(Int×(List YB)×Unit)⊕((Int×(List YB)×Unit))) <|
 .chk (decide ((0:Int)≤(i64.wrap ((i64.wrap (x2.1+(x2.2.1.length:Int)))+(8:Int))))) <|
 .br (((i64.wrap ((i64.wrap (x2.1+(x2.2.1.length:Int)))+(8:Int)))%(64:Int)) != (0:Int)) (
 .chk (decide (x2.2.1.length+[((0:Int),())].length≤4294967296)) <|
 .leaf (.inl (x2.1,(x2.2.1++[((0:Int),())]),()))) (
 .leaf (.inr x2))
def Atz (a0:YI):Tree (YBs):=
 .ob (A5 a0 ((0:Int),()) ((1048576:Int),())) fun r1=>
 .br (!r1.1) (
 .leaf (([]:List YB),())) (
 .ob (Az K7 (a0.1,[((128:Int),())],())) fun o3=>
 .chk (decide (o3.2.1.length+[((0:Int),()),((0:Int),())].length≤4294967296)) <|
 .ob (Hc ((o3.2.1++[((0:Int),()),((0:Int),())]),()) ((i64.wrap ((8:Int)*o3.1)),()) ((6:Int),())) fun r4=>
 .leaf r4)
def At7 (a0:YI):Option (YBs):=(Atz a0).val
def F6 (x1:(List YB)×(List YI)×Int×Int×Unit):Option (((List YB)×(List YI)×Int×Int×Unit)⊕(YBs)):=
 letI u1:=x1.2.2;Tree.val (α:=((List YB)×(List YI)×Int×Int×Unit)⊕(YBs)) <|
 .br (decide (u1.2.1<u1.1)) (
 .ob (idx x1.2.1 u1.2.1) fun e2=>
 .ob (Hc (x1.1,()) e2 ((4:Int),())) fun r3=>
 .leaf (.inl (r3.1,x1.2.1,u1.1,(i64.wrap (u1.2.1+(1:Int))),()))) (
 .leaf (.inr (x1.1,())))
def Tj (a0:(List YI)×Unit):Tree (YBs):=
 .ob (Az F6 (([]:List YB),a0.1,(a0.1.length:Int),(0:Int),())) fun o4=>
 .leaf o4
def Tl (a0:(List YI)×Unit):Option (YBs):=(Tj a0).val
def Aco (a0:Jk):Tree (YBs):=
 .ob (Wr a0) fun r1=>
 .br (!r1.1) (
 .leaf (([]:List YB),())) (
 .ob (At7 (a0.2.2.1,())) fun r2=>
 .ob (Em ([(a0.2.1,()),r2],())) fun r3=>
 .ob (Kl (a0.1,()) r3) fun r4=>
 .ob (Tl r4.1) fun r5=>
 .leaf r5)
def Ac0 (a0:Jk):Option (YBs):=(Aco a0).val
def At2 (a0:YBs):Tree (YBs):=
 .br (decide ((a0.1.length:Int)>(1048576:Int))) (
 .leaf (([]:List YB),())) (
 .ob Aoa fun r1=>
 .ob (Acz r1 a0) fun r2=>
 .ob (Ac0 r2) fun r3=>
 .leaf r3)
def Ael (a0:YBs):Option (YBs):=(At2 a0).val
def Eu (x3:YBs):Option (YBs⊕(YBs)):=
 Tree.val (α:=YBs⊕(YBs)) <|
 .br (decide ((x3.1.length:Int)<(64:Int))) (
 .chk (decide (x3.1.length+[((0:Int),())].length≤4294967296)) <|
 .leaf (.inl ((x3.1++[((0:Int),())]),()))) (
 .leaf (.inr x3))
def X3 (a0:YBs):Tree (YBs):=
 .br (decide ((a0.1.length:Int)>(1048576:Int))) (
 .leaf (([]:List YB),())) (
 .ob (A1 a0) fun r1=>
 .br (decide ((a0.1.length:Int)>(64:Int))) (
 .ob (Ael a0) fun r2=>
 .ob (Az Eu r2) fun o4=>
 .leaf o4) (
 .ob (Az Eu r1) fun o5=>
 .leaf o5))
def Zr (a0:YBs):Option (YBs):=(X3 a0).val
def It (x1:Int×(List YB)×(List YB)×Int×Int×Unit):Option ((Int×(List YB)×(List YB)×Int×Int×Unit)⊕(YBs)):=
 letI u1:=x1.2.2;Tree.val (α:=(Int×(List YB)×(List YB)×Int×Int×Unit)⊕(YBs)) <|
 .br (decide (u1.2.2.1<u1.2.1)) (
 .ob (idx u1.1 u1.2.2.1) fun e2=>
 .chk (decide (x1.2.1.length+[((u8.wrap ((BitVec.ofInt (u8.bits) (e2.1) ^^^ BitVec.ofInt (u8.bits) (x1.1)).toNat:Nat)),())].length≤4294967296)) <|
 .leaf (.inl (x1.1,(x1.2.1++[((u8.wrap ((BitVec.ofInt (u8.bits) (e2.1) ^^^ BitVec.ofInt (u8.bits) (x1.1)).toNat:Nat)),())]),u1.1,u1.2.1,(i64.wrap (u1.2.2.1+(1:Int))),()))) (
 .leaf (.inr (x1.2.1,())))
def Agw (a0:YBs) (a1:YB):Tree (YBs):=
 .ob (Az It (a1.1,([]:List YB),a0.1,(a0.1.length:Int),(0:Int),())) fun o3=>
 .leaf o3
def Ws (a0:YBs) (a1:YB):Option (YBs):=(Agw a0 a1).val
def App (a0:YBs) (a1:YBs):Tree (YBs):=
 .br (decide ((a0.1.length:Int)>(1048576:Int))) (
 .leaf (([]:List YB),())) (
 .br (decide ((a1.1.length:Int)>(1048512:Int))) (
 .leaf (([]:List YB),())) (
 .ob (Zr a0) fun r1=>
 .ob (Ws r1 ((92:Int),())) fun r2=>
 .ob (Ws r1 ((54:Int),())) fun r3=>
 .ob (Em ([r3,a1],())) fun r4=>
 .ob (Ael r4) fun r5=>
 .ob (Em ([r2,r5],())) fun r6=>
 .ob (Ael r6) fun r7=>
 .leaf r7))
def Qj (a0:YBs) (a1:YBs):Option (YBs):=(App a0 a1).val
def Acp (a0:YBs) (a1:YBs) (a2:YI):Tree (YBs):=
 .ob (A5 a2 ((0:Int),()) ((6:Int),())) fun r1=>
 .br (!r1.1) (
 .leaf (([]:List YB),())) (
 .br (decide ((a1.1.length:Int)>(100:Int))) (
 .leaf (([]:List YB),())) (
 .ob (Em ([([((115:Int),())],()),a1],())) fun r2=>
 .ob (Hc r2 a2 ((4:Int),())) fun r3=>
 .ob (Qj a0 r3) fun r4=>
 .leaf r4))
def Ac1 (a0:YBs) (a1:YBs) (a2:YI):Option (YBs):=(Acp a0 a1 a2).val
def Iu (x2:(List YB)×(List YB)×Int×(List YB)×Int×Unit):Option (((List YB)×(List YB)×Int×(List YB)×Int×Unit)⊕((Int×(List YB)×Unit))):=
 letI u1:=x2.2.2;Tree.val (α:=((List YB)×(List YB)×Int×(List YB)×Int×Unit)⊕((Int×(List YB)×Unit))) <|
 .br (decide ((x2.2.2.2.1.length:Int)<u1.1)) (
 .ob (Ac1 (x2.1,()) (x2.2.1,()) (u1.2.2.1,())) fun r3=>
 .chk (decide (x2.2.2.2.1.length+r3.1.length≤4294967296)) <|
 .leaf (.inl (x2.1,x2.2.1,u1.1,(u1.2.1++r3.1),(i64.wrap (u1.2.2.1+(1:Int))),()))) (
 .leaf (.inr (u1.1,u1.2.1,())))
def Agx (a0:YBs) (a1:YBs) (a2:YI):Tree (YBs):=
 .ob (A5 a2 ((0:Int),()) ((200:Int),())) fun r1=>
 .br (!r1.1) (
 .leaf (([]:List YB),())) (
 .br (decide ((a1.1.length:Int)>(100:Int))) (
 .leaf (([]:List YB),())) (
 .br (decide ((a0.1.length:Int)>(1048576:Int))) (
 .leaf (([]:List YB),())) (
 .ob (Az Iu (a0.1,a1.1,a2.1,([]:List YB),(0:Int),())) fun o4=>
 .chk (decide ((0:Int)≤o4.1)) <|
 .chk (decide (o4.1≤(o4.2.1.length:Int))) <|
 .ob (A1 (((o4.2.1.take (o4.1).toNat).drop ((0:Int)).toNat),())) fun r5=>
 .leaf r5)))
def Ahf (a0:YBs) (a1:YBs) (a2:YI):Option (YBs):=(Agx a0 a1 a2).val
def Nr (x2:(List YB)×(List YB)×(List YB)×Int×Int×Unit):Option (((List YB)×(List YB)×(List YB)×Int×Int×Unit)⊕(YBs)):=
 letI u1:=x2.2.2.2;Tree.val (α:=((List YB)×(List YB)×(List YB)×Int×Int×Unit)⊕(YBs)) <|
 .br (decide (u1.2.1<u1.1)) (
 .ob (idx x2.2.2.1 u1.2.1) fun e3=>
 .ob (idx x2.1 u1.2.1) fun e4=>
 .chk (decide (x2.2.1.length+[((u8.wrap ((BitVec.ofInt (u8.bits) (e3.1) ^^^ BitVec.ofInt (u8.bits) (e4.1)).toNat:Nat)),())].length≤4294967296)) <|
 .leaf (.inl (x2.1,(x2.2.1++[((u8.wrap ((BitVec.ofInt (u8.bits) (e3.1) ^^^ BitVec.ofInt (u8.bits) (e4.1)).toNat:Nat)),())]),x2.2.2.1,u1.1,(i64.wrap (u1.2.1+(1:Int))),()))) (
 .leaf (.inr (x2.2.1,())))
def At3 (a0:YBs) (a1:YBs) (a2:YBs):Tree (YBs):=
 .br (decide ((a2.1.length:Int)>(200:Int))) (
 .leaf (([]:List YB),())) (
 .br (decide ((a1.1.length:Int)>(100:Int))) (
 .leaf (([]:List YB),())) (
 .br (decide ((a0.1.length:Int)>(1048576:Int))) (
 .leaf (([]:List YB),())) (
 .ob (Ahf a0 a1 ((a2.1.length:Int),())) fun r1=>
 .ob (Az Nr (a2.1,([]:List YB),r1.1,(r1.1.length:Int),(0:Int),())) fun o5=>
 .leaf o5)))
def Amt (a0:YBs) (a1:YBs) (a2:YBs):Option (YBs):=(At3 a0 a1 a2).val
def X5 (a0:YI) (a1:Aa):Tree (YBs):=
 letI u1:=a1.2.2.2.2.2.2.2;.ob (Jm a0) fun r1=>
 .br (!r1.1) (
 .leaf (([]:List YB),())) (
 .ob (Gl (a1.1,())) fun r2=>
 .br (!r2.1) (
 .leaf (([]:List YB),())) (
 .ob (Gr a1) fun r3=>
 .br (!r3.1) (
 .leaf (([]:List YB),())) (
 .ob (O7 a0 (a1.2.2.2.1,()) (u1.1,()) (u1.2.1,())) fun r4=>
 .ob (Em ([([((116:Int),())],()),r4,([((u8.wrap (a1.1)),())],()),(u1.2.2.1,())],())) fun r5=>
 .leaf r5)))
def Hd (a0:YI) (a1:Aa):Option (YBs):=(X5 a0 a1).val
def At4 (a0:YBs) (a1:YBs):Tree (YBs):=
 .ob (Qj a0 a1) fun r1=>
 .br ((r1.1.length:Int)==(0:Int)) (
 .leaf (([]:List YB),())) (
 .chk (decide ((16:Int)≤(r1.1.length:Int))) <|
 .ob (A1 (((r1.1.take ((16:Int)).toNat).drop ((0:Int)).toNat),())) fun r2=>
 .leaf r2)
def Aem (a0:YBs) (a1:YBs):Option (YBs):=(At4 a0 a1).val
def Apq (a0:YBs) (a1:YI) (a2:YBs) (a3:YI) (a4:YI) (a5:YI) (a6:YBs):Tree (Aa×(Bool×Unit)):=
 .ob (A1 a2) fun r1=>
 .ob (A1 a6) fun r2=>
 .br ((a0.1.length:Int) != (32:Int)) (
 .leaf (((0:Int),(0:Int),([]:List YB),([]:List YB),(0:Int),([]:List YB),([]:List YB),(0:Int),(0:Int),([]:List YB),([]:List YB),()),(false,()))) (
 .ob (Jm a1) fun r3=>
 .br (!r3.1) (
 .leaf (((0:Int),(0:Int),([]:List YB),([]:List YB),(0:Int),([]:List YB),([]:List YB),(0:Int),(0:Int),([]:List YB),([]:List YB),()),(false,()))) (
 .ob (Gl a5) fun r4=>
 .br (!r4.1) (
 .leaf (((0:Int),(0:Int),([]:List YB),([]:List YB),(0:Int),([]:List YB),([]:List YB),(0:Int),(0:Int),([]:List YB),([]:List YB),()),(false,()))) (
 .ob (Gr (a5.1,(0:Int),([]:List YB),r1.1,(0:Int),([]:List YB),([]:List YB),a3.1,a4.1,r2.1,(List.replicate ((16:Int)).toNat ((0:Int),())),())) fun r5=>
 .br (!r5.1) (
 .leaf (((0:Int),(0:Int),([]:List YB),([]:List YB),(0:Int),([]:List YB),([]:List YB),(0:Int),(0:Int),([]:List YB),([]:List YB),()),(false,()))) (
 .ob (O7 a1 a2 a3 a4) fun r6=>
 .ob (Amt a0 r6 a6) fun r7=>
 .ob (Hd a1 (a5.1,(0:Int),([]:List YB),r1.1,(0:Int),([]:List YB),([]:List YB),a3.1,a4.1,r7.1,(List.replicate ((16:Int)).toNat ((0:Int),())),())) fun r8=>
 .ob (Aem a0 r8) fun r9=>
 .leaf ((a5.1,(0:Int),([]:List YB),r1.1,(0:Int),([]:List YB),([]:List YB),a3.1,a4.1,r7.1,r9.1,()),(true,()))))))
def Zs (a0:YBs) (a1:YI) (a2:YBs) (a3:YI) (a4:YI) (a5:YI) (a6:YBs):Option (Aa×(Bool×Unit)):=(Apq a0 a1 a2 a3 a4 a5 a6).val
def Agy (a0:YEp) (a1:YI) (a2:YBs) (a3:YI) (a4:YBs):Tree (YEp×Aa×YI):=
 letI u1:=a0.2.2;.ob (L4 a0) fun r1=>letI u2:=r1.2.2;
 .ob (Qh a0) fun r2=>
 .br (!r2.1) (
 .leaf (r1,((0:Int),(0:Int),([]:List YB),([]:List YB),(0:Int),([]:List YB),([]:List YB),(0:Int),(0:Int),([]:List YB),([]:List YB),()),((1:Int),()))) (
 .ob (Zs (a0.2.1,()) a1 a2 (a0.1,()) ((0:Int),()) a3 a4) fun r3=>
 .br (!r3.2.1) (
 .leaf (r1,((0:Int),(0:Int),([]:List YB),([]:List YB),(0:Int),([]:List YB),([]:List YB),(0:Int),(0:Int),([]:List YB),([]:List YB),()),((1:Int),()))) (
 .br (a3.1==(4:Int)) (
 .br (decide (u1.1≥(281474976709656:Int))) (
 .leaf (r1,((0:Int),(0:Int),([]:List YB),([]:List YB),(0:Int),([]:List YB),([]:List YB),(0:Int),(0:Int),([]:List YB),([]:List YB),()),((4:Int),()))) (
 .br (u1.1==(281474976710656:Int)) (
 .leaf (r1,((0:Int),(0:Int),([]:List YB),([]:List YB),(0:Int),([]:List YB),([]:List YB),(0:Int),(0:Int),([]:List YB),([]:List YB),()),((5:Int),()))) (
 .ob (Zs (a0.2.1,()) a1 a2 (a0.1,()) (u1.1,()) a3 a4) fun r4=>
 .leaf ((r1.1,r1.2.1,(i64.wrap (u2.1+(1:Int))),u2.2.1,u2.2.2.1,()),r4.1,((0:Int),()))))) (
 .br (u1.1==(281474976710656:Int)) (
 .leaf (r1,((0:Int),(0:Int),([]:List YB),([]:List YB),(0:Int),([]:List YB),([]:List YB),(0:Int),(0:Int),([]:List YB),([]:List YB),()),((5:Int),()))) (
 .ob (Zs (a0.2.1,()) a1 a2 (a0.1,()) (u1.1,()) a3 a4) fun r5=>
 .leaf ((r1.1,r1.2.1,(i64.wrap (u2.1+(1:Int))),u2.2.1,u2.2.2.1,()),r5.1,((0:Int),()))))))
def Ahg (a0:YEp) (a1:YI) (a2:YBs) (a3:YI) (a4:YBs):Option (YEp×Aa×YI):=(Agy a0 a1 a2 a3 a4).val
def X6 (a0:Af) (a1:YI) (a2:YBs):Tree (Af×Aa×YI):=
 letI u1:=a0.2.2.2;.ob (Fy a0) fun r1=>letI u2:=r1.2.2.2.2.2.2.2;letI u3:=u2.2.2.2;
 .ob (Gm a0) fun r2=>
 .br (!r2.1) (
 .leaf (r1,((0:Int),(0:Int),([]:List YB),([]:List YB),(0:Int),([]:List YB),([]:List YB),(0:Int),(0:Int),([]:List YB),([]:List YB),()),((1:Int),()))) (
 .ob (Ahg (a0.2.2.1,u1.1,u1.2.1,u1.2.2.1,u1.2.2.2.1,()) (a0.1,()) (a0.2.1,()) a1 a2) fun r3=>
 .leaf ((r1.1,r1.2.1,r3.1.1,r3.1.2.1,r3.1.2.2.1,r3.1.2.2.2.1,r3.1.2.2.2.2.1,u2.1,u2.2.1,u2.2.2.1,u3.1,u3.2.1,u3.2.2.1,u3.2.2.2.1,u3.2.2.2.2.1,()),r3.2.1,r3.2.2))
def Dy (a0:Af) (a1:YI) (a2:YBs):Option (Af×Aa×YI):=(X6 a0 a1 a2).val
def Ak3 (a0:Af):Tree (Af×Aa×YI):=
 .ob (Gm a0) fun r1=>
 .br (!r1.1) (
 .ob (Fy a0) fun r2=>
 .leaf (r2,((0:Int),(0:Int),([]:List YB),([]:List YB),(0:Int),([]:List YB),([]:List YB),(0:Int),(0:Int),([]:List YB),([]:List YB),()),((6:Int),()))) (
 .br ((a0.2.2.2.2.2.2.2.2.2.2.2.2.2.2.1.length:Int)==(0:Int)) (
 .ob (Fy a0) fun r3=>
 .leaf (r3,((0:Int),(0:Int),([]:List YB),([]:List YB),(0:Int),([]:List YB),([]:List YB),(0:Int),(0:Int),([]:List YB),([]:List YB),()),((6:Int),()))) (
 .ob (Axm ((i64.wrap (a0.2.2.1+(1:Int))),())) fun r4=>
 .ob (Dy a0 ((7:Int),()) r4) fun r5=>
 .leaf (r5.1,r5.2.1,r5.2.2)))
def Alf (a0:Af):Option (Af×Aa×YI):=(Ak3 a0).val
def Apr (a0:YBs) (a1:YBs):Tree (Ae):=
 .ob (A1 a0) fun r1=>
 .ob (A1 a1) fun r2=>
 .leaf ((15:Int),(0:Int),(0:Int),([]:List YB),([]:List YB),(0:Int),(0:Int),r2.1,r1.1,(0:Int),(0:Int),(0:Int),())
def Ahh (a0:YBs) (a1:YBs):Option (Ae):=(Apr a0 a1).val
def Agz (a0:Af) (a1:Aa):Tree (Ae):=
 .ob (Hd (a0.1,()) a1) fun r1=>
 .ob (Ahh (a0.2.2.2.1,()) r1) fun r2=>
 .leaf r2
def En (a0:Af) (a1:Aa):Option (Ae):=(Agz a0 a1).val
def Ar9 (a0:Ab) (a1:YI):Tree (Ab×((List Aa)×Unit)×((List Ae)×Unit)):=
 letI u1:=a0.2.2.2.2.2.2.2.2.2.2.2.2.2.2.2.2.2;letI u2:=u1.2.2.2;letI u3:=u2.2.2.2;letI u4:=u3.2.2.2;letI u5:=u4.2.2.2;letI u6:=u5.2.2.2.2.2.2.2;.br (decide ((i64.wrap (a1.1-u6.2.2.2.2.1))>(60:Int))) (
 .ob (Ahe a0) fun r1=>
 .ob (A6z (a0.1,()) ((0:Int),()) (u1.2.1,())) fun r2=>
 .leaf (r1,(([]:List Aa),()),([r2],()))) (
 .ob (B8 a0) fun r3=>letI u7:=r3.2.2;letI u8:=u7.2.2;letI u9:=u8.2.2;letI u10:=u9.2.2;letI u11:=u10.2.2;letI u12:=u11.2.2;letI u13:=u12.2.2;letI u14:=u13.2.2;letI u15:=u14.2.2.2.2.2.2.2.2.2.2.2.2.2.2.2.2;letI u16:=u15.2.2;letI u17:=u16.2.2.2.2.2.2;
 .ob (Ay3 (u1.1,u1.2.1,u1.2.2.1,u2.1,u2.2.1,u2.2.2.1,u3.1,u3.2.1,u3.2.2.1,u4.1,u4.2.1,u4.2.2.1,u5.1,u5.2.1,u5.2.2.1,()) a1) fun r4=>letI u18:=r4.2.2;letI u19:=u18.2.2;letI u20:=u19.2.2;letI u21:=u20.2.2;letI u22:=u21.2.2;letI u23:=u22.2.2;
 .ob (M6 (u6.1,u6.2.1,u6.2.2.1,u6.2.2.2.1,()) a1) fun r5=>letI u24:=r5.1.2.2;
 .br (r5.2.1==(0:Int)) (
 .leaf ((r3.1,r3.2.1,u7.1,u7.2.1,u8.1,u8.2.1,u9.1,u9.2.1,u10.1,u10.2.1,u11.1,u11.2.1,u12.1,u12.2.1,u13.1,u13.2.1,u14.1,r4.1,r4.2.1,u18.1,u18.2.1,u19.1,u19.2.1,u20.1,u20.2.1,u21.1,u21.2.1,u22.1,u22.2.1,u23.1,u23.2.1,u23.2.2.1,u15.1,u15.2.1,u16.1,u16.2.1,r5.1.1,r5.1.2.1,u24.1,u24.2.1,u17.1,()),(([]:List Aa),()),(([]:List Ae),()))) (
 .br (r5.2.1==(2:Int)) (
 .ob (Lc a1) fun r6=>
 .ob (Alf r4) fun r7=>letI u25:=r7.1.2.2.2;letI u26:=u25.2.2.2;letI u27:=u26.2.2.2.2;
 .br (r7.2.2.1 != (0:Int)) (
 .leaf ((r3.1,r3.2.1,u7.1,u7.2.1,u8.1,u8.2.1,u9.1,u9.2.1,u10.1,u10.2.1,u11.1,u11.2.1,u12.1,u12.2.1,u13.1,u13.2.1,u14.1,r4.1,r4.2.1,u18.1,u18.2.1,u19.1,u19.2.1,u20.1,u20.2.1,u21.1,u21.2.1,u22.1,u22.2.1,u23.1,u23.2.1,u23.2.2.1,u15.1,u15.2.1,u16.1,u16.2.1,r6.1,r6.2.1,r6.2.2.1,r6.2.2.2.1,u17.1,()),(([]:List Aa),()),(([]:List Ae),()))) (
 .ob (En r7.1 r7.2.1) fun r8=>
 .leaf ((r3.1,r3.2.1,u7.1,u7.2.1,u8.1,u8.2.1,u9.1,u9.2.1,u10.1,u10.2.1,u11.1,u11.2.1,u12.1,u12.2.1,u13.1,u13.2.1,u14.1,r7.1.1,r7.1.2.1,r7.1.2.2.1,u25.1,u25.2.1,u25.2.2.1,u26.1,u26.2.1,u26.2.2.1,u26.2.2.2.1,u27.1,u27.2.1,u27.2.2.1,u27.2.2.2.1,u27.2.2.2.2.1,u15.1,u15.2.1,u16.1,u16.2.1,r6.1,r6.2.1,r6.2.2.1,r6.2.2.2.1,u17.1,()),([r7.2.1],()),([r8],())))) (
 .ob (Alf r4) fun r9=>letI u28:=r9.1.2.2.2;letI u29:=u28.2.2.2;letI u30:=u29.2.2.2.2;
 .br (r9.2.2.1 != (0:Int)) (
 .leaf ((r3.1,r3.2.1,u7.1,u7.2.1,u8.1,u8.2.1,u9.1,u9.2.1,u10.1,u10.2.1,u11.1,u11.2.1,u12.1,u12.2.1,u13.1,u13.2.1,u14.1,r4.1,r4.2.1,u18.1,u18.2.1,u19.1,u19.2.1,u20.1,u20.2.1,u21.1,u21.2.1,u22.1,u22.2.1,u23.1,u23.2.1,u23.2.2.1,u15.1,u15.2.1,u16.1,u16.2.1,r5.1.1,r5.1.2.1,u24.1,u24.2.1,u17.1,()),(([]:List Aa),()),(([]:List Ae),()))) (
 .ob (En r9.1 r9.2.1) fun r10=>
 .leaf ((r3.1,r3.2.1,u7.1,u7.2.1,u8.1,u8.2.1,u9.1,u9.2.1,u10.1,u10.2.1,u11.1,u11.2.1,u12.1,u12.2.1,u13.1,u13.2.1,u14.1,r9.1.1,r9.1.2.1,r9.1.2.2.1,u28.1,u28.2.1,u28.2.2.1,u29.1,u29.2.1,u29.2.2.1,u29.2.2.2.1,u30.1,u30.2.1,u30.2.2.1,u30.2.2.2.1,u30.2.2.2.2.1,u15.1,u15.2.1,u16.1,u16.2.1,r5.1.1,r5.1.2.1,u24.1,u24.2.1,u17.1,()),([r9.2.1],()),([r10],()))))))
def A4o (a0:Ab) (a1:YI):Option (Ab×((List Aa)×Unit)×((List Ae)×Unit)):=(Ar9 a0 a1).val
def Iv (a0:Ab) (a1:YI):Tree (Ab×((List Aa)×Unit)×((List Ae)×Unit)):=
 letI u1:=a0.2.2.2.2;letI u2:=u1.2.2;letI u3:=u2.2.2;letI u4:=u3.2.2;letI u5:=u4.2.2;letI u6:=u5.2.2;letI u7:=u6.2.2.2.2.2.2.2.2.2.2.2.2.2.2.2.2.2.2;.ob (B8 a0) fun r1=>letI u8:=r1.2.2;letI u9:=u8.2.2;letI u10:=u9.2.2;letI u11:=u10.2.2;letI u12:=u11.2.2;letI u13:=u12.2.2;letI u14:=u13.2.2;letI u15:=u14.2.2;letI u16:=u15.2.2;letI u17:=u16.2.2;letI u18:=u17.2.2;letI u19:=u18.2.2;letI u20:=u19.2.2;letI u21:=u20.2.2;letI u22:=u21.2.2;letI u23:=u22.2.2.2.2.2.2;letI u24:=u23.2.2;letI u25:=u24.2.2;
 .ob (Iy a0) fun r2=>
 .br (!r2.1) (
 .leaf (r1,(([]:List Aa),()),(([]:List Ae),()))) (
 .ob (A5 a1 ((0:Int),()) ((1000000:Int),())) fun r3=>
 .br (!r3.1) (
 .leaf (r1,(([]:List Aa),()),(([]:List Ae),()))) (
 .br (u1.1==(0:Int)) (
 .leaf (r1,(([]:List Aa),()),(([]:List Ae),()))) (
 .br (u1.1==(3:Int)) (
 .ob (A4o a0 a1) fun r4=>
 .leaf (r4.1,r4.2.1,r4.2.2)) (
 .ob (M6 (u7.1,u7.2.1,u7.2.2.1,u7.2.2.2.1,()) a1) fun r5=>letI u26:=r5.1.2.2;
 .br (r5.2.1==(2:Int)) (
 .ob (Ahe a0) fun r6=>
 .ob (A1 (u1.2.1,())) fun r7=>
 .leaf (r6,(([]:List Aa),()),([((17:Int),a0.1,(0:Int),r7.1,([]:List YB),(0:Int),(0:Int),([]:List YB),([]:List YB),(0:Int),(0:Int),(0:Int),())],()))) (
 .br (r5.2.1==(1:Int)) (
 .br (u1.1==(1:Int)) (
 .ob (Wp a0) fun r8=>
 .leaf ((r1.1,r1.2.1,u8.1,u8.2.1,u9.1,u9.2.1,u10.1,u10.2.1,u11.1,u11.2.1,u12.1,u12.2.1,u13.1,u13.2.1,u14.1,u14.2.1,u15.1,u15.2.1,u16.1,u16.2.1,u17.1,u17.2.1,u18.1,u18.2.1,u19.1,u19.2.1,u20.1,u20.2.1,u21.1,u21.2.1,u22.1,u22.2.1,r5.1.1,r5.1.2.1,u26.1,u26.2.1,u23.1,u23.2.1,u24.1,u24.2.1,u25.1,()),([r8],()),(([]:List Ae),()))) (
 .br (r5.2.1==(1:Int)) (
 .ob (Ht (u2.1,u2.2.1,u3.1,u3.2.1,u4.1,u4.2.1,u5.1,u5.2.1,u6.1,u6.2.1,u6.2.2.1,())) fun r9=>
 .leaf ((r1.1,r1.2.1,u8.1,u8.2.1,u9.1,u9.2.1,u10.1,u10.2.1,u11.1,u11.2.1,u12.1,u12.2.1,u13.1,u13.2.1,u14.1,u14.2.1,u15.1,u15.2.1,u16.1,u16.2.1,u17.1,u17.2.1,u18.1,u18.2.1,u19.1,u19.2.1,u20.1,u20.2.1,u21.1,u21.2.1,u22.1,u22.2.1,r5.1.1,r5.1.2.1,u26.1,u26.2.1,u23.1,u23.2.1,u24.1,u24.2.1,u25.1,()),([r9],()),(([]:List Ae),()))) (
 .leaf ((r1.1,r1.2.1,u8.1,u8.2.1,u9.1,u9.2.1,u10.1,u10.2.1,u11.1,u11.2.1,u12.1,u12.2.1,u13.1,u13.2.1,u14.1,u14.2.1,u15.1,u15.2.1,u16.1,u16.2.1,u17.1,u17.2.1,u18.1,u18.2.1,u19.1,u19.2.1,u20.1,u20.2.1,u21.1,u21.2.1,u22.1,u22.2.1,r5.1.1,r5.1.2.1,u26.1,u26.2.1,u23.1,u23.2.1,u24.1,u24.2.1,u25.1,()),(([]:List Aa),()),(([]:List Ae),()))))) (
 .br (r5.2.1==(1:Int)) (
 .ob (Ht (u2.1,u2.2.1,u3.1,u3.2.1,u4.1,u4.2.1,u5.1,u5.2.1,u6.1,u6.2.1,u6.2.2.1,())) fun r10=>
 .leaf ((r1.1,r1.2.1,u8.1,u8.2.1,u9.1,u9.2.1,u10.1,u10.2.1,u11.1,u11.2.1,u12.1,u12.2.1,u13.1,u13.2.1,u14.1,u14.2.1,u15.1,u15.2.1,u16.1,u16.2.1,u17.1,u17.2.1,u18.1,u18.2.1,u19.1,u19.2.1,u20.1,u20.2.1,u21.1,u21.2.1,u22.1,u22.2.1,r5.1.1,r5.1.2.1,u26.1,u26.2.1,u23.1,u23.2.1,u24.1,u24.2.1,u25.1,()),([r10],()),(([]:List Ae),()))) (
 .leaf ((r1.1,r1.2.1,u8.1,u8.2.1,u9.1,u9.2.1,u10.1,u10.2.1,u11.1,u11.2.1,u12.1,u12.2.1,u13.1,u13.2.1,u14.1,u14.2.1,u15.1,u15.2.1,u16.1,u16.2.1,u17.1,u17.2.1,u18.1,u18.2.1,u19.1,u19.2.1,u20.1,u20.2.1,u21.1,u21.2.1,u22.1,u22.2.1,r5.1.1,r5.1.2.1,u26.1,u26.2.1,u23.1,u23.2.1,u24.1,u24.2.1,u25.1,()),(([]:List Aa),()),(([]:List Ae),())))))))))
def Cr (a0:Ab) (a1:YI):Option (Ab×((List Aa)×Unit)×((List Ae)×Unit)):=(Iv a0 a1).val
def Asc (a0:YI):Tree (YI):=
 .ob (A5 a0 ((1:Int),()) ((5:Int),())) fun r1=>
 .br (!r1.1) (
 .leaf ((0:Int),())) (
 .ob (idx [((1:Int),()),((3:Int),()),((7:Int),()),((15:Int),()),((23:Int),())] (i64.wrap (a0.1-(1:Int)))) fun e2=>
 .leaf e2)
def Gn (a0:YI):Option (YI):=(Asc a0).val
def Bo (x8:Int×(List Aa)×Int×Int×Int×(List YB)×Int×Int×Int×(List YB)×Int×Int×(List YB)×(List YB)×Int×(List YB)×(List YB)×Int×Int×(List YB)×(List YB)×Int×(List YB)×Int×(List YB)×Int×Int×(List YI)×Int×(List YB)×Int×Int×(List YI)×Bool×Int×(List YB)×Bool×Int×Int×Int×Bool×Int×Int×Int×Int×Int×(List YB)×Int×Int×Int×(List YB)×Int×Int×(List YB)×(List YB)×Int×(List YB)×(List YB)×Int×Int×(List YB)×(List YB)×Int×(List YB)×Int×(List YB)×Int×Int×(List YI)×Int×(List YB)×Int×Int×(List YI)×Bool×Int×(List YB)×Bool×Int×Int×Int×Bool×Int×Int×Int×Int×Unit):Option ((Int×(List Aa)×Int×Int×Int×(List YB)×Int×Int×Int×(List YB)×Int×Int×(List YB)×(List YB)×Int×(List YB)×(List YB)×Int×Int×(List YB)×(List YB)×Int×(List YB)×Int×(List YB)×Int×Int×(List YI)×Int×(List YB)×Int×Int×(List YI)×Bool×Int×(List YB)×Bool×Int×Int×Int×Bool×Int×Int×Int×Int×Int×(List YB)×Int×Int×Int×(List YB)×Int×Int×(List YB)×(List YB)×Int×(List YB)×(List YB)×Int×Int×(List YB)×(List YB)×Int×(List YB)×Int×(List YB)×Int×Int×(List YI)×Int×(List YB)×Int×Int×(List YI)×Bool×Int×(List YB)×Bool×Int×Int×Int×Bool×Int×Int×Int×Int×Unit)⊕((Bool×Unit)⊕(Int×(List YB)×Int×Int×Int×(List YB)×Int×Int×(List YB)×(List YB)×Int×(List YB)×(List YB)×Int×Int×(List YB)×(List YB)×Int×(List YB)×Int×(List YB)×Int×Int×(List YI)×Int×(List YB)×Int×Int×(List YI)×Bool×Int×(List YB)×Bool×Int×Int×Int×Bool×Int×Int×Int×Int×Int×(List YB)×Int×Int×Int×(List YB)×Int×Int×(List YB)×(List YB)×Int×(List YB)×(List YB)×Int×Int×(List YB)×(List YB)×Int×(List YB)×Int×(List YB)×Int×Int×(List YI)×Int×(List YB)×Int×Int×(List YI)×Bool×Int×(List YB)×Bool×Int×Int×Int×Bool×Int×Int×Int×Int×Unit))):=
 letI u1:=x8.2.2;letI u2:=u1.2.2;letI u3:=u2.2.2;letI u4:=u3.2.2;letI u5:=u4.2.2;letI u6:=u5.2.2;letI u7:=u6.2.2;letI u8:=u7.2.2;letI u9:=u8.2.2;letI u10:=u9.2.2;letI u11:=u10.2.2;letI u12:=u11.2.2;letI u13:=u12.2.2;letI u14:=u13.2.2;letI u15:=u14.2.2;letI u16:=u15.2.2;letI u17:=u16.2.2;letI u18:=u17.2.2;letI u19:=u18.2.2;letI u20:=u19.2.2;letI u21:=u20.2.2;letI u22:=u21.2.2;letI u23:=u22.2.2;letI u24:=u23.2.2;letI u25:=u24.2.2;letI u26:=u25.2.2;letI u27:=u26.2.2;letI u28:=u27.2.2;letI u29:=u28.2.2;letI u30:=u29.2.2;letI u31:=u30.2.2;letI u32:=u31.2.2;letI u33:=u32.2.2;letI u34:=u33.2.2;letI u35:=u34.2.2;letI u36:=u35.2.2;letI u37:=u36.2.2;letI u38:=u37.2.2;letI u39:=u38.2.2;letI u40:=u39.2.2;letI u41:=u40.2.2.2;Tree.val (α:=(Int×(List Aa)×Int×Int×Int×(List YB)×Int×Int×Int×(List YB)×Int×Int×(List YB)×(List YB)×Int×(List YB)×(List YB)×Int×Int×(List YB)×(List YB)×Int×(List YB)×Int×(List YB)×Int×Int×(List YI)×Int×(List YB)×Int×Int×(List YI)×Bool×Int×(List YB)×Bool×Int×Int×Int×Bool×Int×Int×Int×Int×Int×(List YB)×Int×Int×Int×(List YB)×Int×Int×(List YB)×(List YB)×Int×(List YB)×(List YB)×Int×Int×(List YB)×(List YB)×Int×(List YB)×Int×(List YB)×Int×Int×(List YI)×Int×(List YB)×Int×Int×(List YI)×Bool×Int×(List YB)×Bool×Int×Int×Int×Bool×Int×Int×Int×Int×Unit)⊕((Bool×Unit)⊕(Int×(List YB)×Int×Int×Int×(List YB)×Int×Int×(List YB)×(List YB)×Int×(List YB)×(List YB)×Int×Int×(List YB)×(List YB)×Int×(List YB)×Int×(List YB)×Int×Int×(List YI)×Int×(List YB)×Int×Int×(List YI)×Bool×Int×(List YB)×Bool×Int×Int×Int×Bool×Int×Int×Int×Int×Int×(List YB)×Int×Int×Int×(List YB)×Int×Int×(List YB)×(List YB)×Int×(List YB)×(List YB)×Int×Int×(List YB)×(List YB)×Int×(List YB)×Int×(List YB)×Int×Int×(List YI)×Int×(List YB)×Int×Int×(List YI)×Bool×Int×(List YB)×Bool×Int×Int×Int×Bool×Int×Int×Int×Int×Unit))) <|
 .br (decide (u1.2.1≤(23:Int))) (
 .ob (Cr (u22.2.1,u23.1,u23.2.1,u24.1,u24.2.1,u25.1,u25.2.1,u26.1,u26.2.1,u27.1,u27.2.1,u28.1,u28.2.1,u29.1,u29.2.1,u30.1,u30.2.1,u31.1,u31.2.1,u32.1,u32.2.1,u33.1,u33.2.1,u34.1,u34.2.1,u35.1,u35.2.1,u36.1,u36.2.1,u37.1,u37.2.1,u38.1,u38.2.1,u39.1,u39.2.1,u40.1,u40.2.1,u40.2.2.1,u41.1,u41.2.1,u41.2.2.1,()) ((i64.wrap (x8.1+u1.2.1)),())) fun r9=>letI u42:=r9.1.2.2;letI u43:=u42.2.2;letI u44:=u43.2.2;letI u45:=u44.2.2;letI u46:=u45.2.2;letI u47:=u46.2.2;letI u48:=u47.2.2;letI u49:=u48.2.2;letI u50:=u49.2.2;letI u51:=u50.2.2;letI u52:=u51.2.2;letI u53:=u52.2.2;letI u54:=u53.2.2;letI u55:=u54.2.2;letI u56:=u55.2.2;letI u57:=u56.2.2;letI u58:=u57.2.2;letI u59:=u58.2.2;letI u60:=u59.2.2;letI u61:=u60.2.2;
 .ob (Gn (u1.1,())) fun r10=>
 .br (u1.2.1 != r10.1) (
 .br ((r9.2.1.1.length:Int) != (0:Int)) (
 .leaf (.inr (.inl (false,())))) (
 .br ((r9.2.2.1.length:Int) != (0:Int)) (
 .leaf (.inr (.inl (false,())))) (
 .leaf (.inl (x8.1,x8.2.1,u1.1,(i64.wrap (u1.2.1+(1:Int))),u2.1,u2.2.1,u3.1,u3.2.1,u4.1,u4.2.1,u5.1,u5.2.1,u6.1,u6.2.1,u7.1,u7.2.1,u8.1,u8.2.1,u9.1,u9.2.1,u10.1,u10.2.1,u11.1,u11.2.1,u12.1,u12.2.1,u13.1,u13.2.1,u14.1,u14.2.1,u15.1,u15.2.1,u16.1,u16.2.1,u17.1,u17.2.1,u18.1,u18.2.1,u19.1,u19.2.1,u20.1,u20.2.1,u21.1,u21.2.1,u22.1,r9.1.1,r9.1.2.1,u42.1,u42.2.1,u43.1,u43.2.1,u44.1,u44.2.1,u45.1,u45.2.1,u46.1,u46.2.1,u47.1,u47.2.1,u48.1,u48.2.1,u49.1,u49.2.1,u50.1,u50.2.1,u51.1,u51.2.1,u52.1,u52.2.1,u53.1,u53.2.1,u54.1,u54.2.1,u55.1,u55.2.1,u56.1,u56.2.1,u57.1,u57.2.1,u58.1,u58.2.1,u59.1,u59.2.1,u60.1,u60.2.1,u61.1,()))))) (
 .br (decide (u1.2.1<(23:Int))) (
 .br ((r9.2.1.1.length:Int) != (1:Int)) (
 .leaf (.inr (.inl (false,())))) (
 .ob (idx r9.2.1.1 (0:Int)) fun e11=>
 .ob (idx x8.2.1 (0:Int)) fun e12=>
 .ob (M5 e11 e12) fun r13=>
 .br (!r13.1) (
 .leaf (.inr (.inl (false,())))) (
 .br ((r9.2.2.1.length:Int) != (0:Int)) (
 .leaf (.inr (.inl (false,())))) (
 .br (u1.2.1==(23:Int)) (
 .br ((r9.2.1.1.length:Int) != (0:Int)) (
 .leaf (.inr (.inl (false,())))) (
 .br ((r9.2.2.1.length:Int) != (1:Int)) (
 .leaf (.inr (.inl (false,())))) (
 .ob (idx r9.2.2.1 (0:Int)) fun e14=>
 .br (e14.1 != (17:Int)) (
 .leaf (.inr (.inl (false,())))) (
 .leaf (.inl (x8.1,x8.2.1,(i64.wrap (u1.1+(1:Int))),(i64.wrap (u1.2.1+(1:Int))),u2.1,u2.2.1,u3.1,u3.2.1,u4.1,u4.2.1,u5.1,u5.2.1,u6.1,u6.2.1,u7.1,u7.2.1,u8.1,u8.2.1,u9.1,u9.2.1,u10.1,u10.2.1,u11.1,u11.2.1,u12.1,u12.2.1,u13.1,u13.2.1,u14.1,u14.2.1,u15.1,u15.2.1,u16.1,u16.2.1,u17.1,u17.2.1,u18.1,u18.2.1,u19.1,u19.2.1,u20.1,u20.2.1,u21.1,u21.2.1,u22.1,r9.1.1,r9.1.2.1,u42.1,u42.2.1,u43.1,u43.2.1,u44.1,u44.2.1,u45.1,u45.2.1,u46.1,u46.2.1,u47.1,u47.2.1,u48.1,u48.2.1,u49.1,u49.2.1,u50.1,u50.2.1,u51.1,u51.2.1,u52.1,u52.2.1,u53.1,u53.2.1,u54.1,u54.2.1,u55.1,u55.2.1,u56.1,u56.2.1,u57.1,u57.2.1,u58.1,u58.2.1,u59.1,u59.2.1,u60.1,u60.2.1,u61.1,())))))) (
 .leaf (.inl (x8.1,x8.2.1,(i64.wrap (u1.1+(1:Int))),(i64.wrap (u1.2.1+(1:Int))),u2.1,u2.2.1,u3.1,u3.2.1,u4.1,u4.2.1,u5.1,u5.2.1,u6.1,u6.2.1,u7.1,u7.2.1,u8.1,u8.2.1,u9.1,u9.2.1,u10.1,u10.2.1,u11.1,u11.2.1,u12.1,u12.2.1,u13.1,u13.2.1,u14.1,u14.2.1,u15.1,u15.2.1,u16.1,u16.2.1,u17.1,u17.2.1,u18.1,u18.2.1,u19.1,u19.2.1,u20.1,u20.2.1,u21.1,u21.2.1,u22.1,r9.1.1,r9.1.2.1,u42.1,u42.2.1,u43.1,u43.2.1,u44.1,u44.2.1,u45.1,u45.2.1,u46.1,u46.2.1,u47.1,u47.2.1,u48.1,u48.2.1,u49.1,u49.2.1,u50.1,u50.2.1,u51.1,u51.2.1,u52.1,u52.2.1,u53.1,u53.2.1,u54.1,u54.2.1,u55.1,u55.2.1,u56.1,u56.2.1,u57.1,u57.2.1,u58.1,u58.2.1,u59.1,u59.2.1,u60.1,u60.2.1,u61.1,()))))))) (
 .br (u1.2.1==(23:Int)) (
 .br ((r9.2.1.1.length:Int) != (0:Int)) (
 .leaf (.inr (.inl (false,())))) (
 .br ((r9.2.2.1.length:Int) != (1:Int)) (
 .leaf (.inr (.inl (false,())))) (
 .ob (idx r9.2.2.1 (0:Int)) fun e15=>
 .br (e15.1 != (17:Int)) (
 .leaf (.inr (.inl (false,())))) (
 .leaf (.inl (x8.1,x8.2.1,(i64.wrap (u1.1+(1:Int))),(i64.wrap (u1.2.1+(1:Int))),u2.1,u2.2.1,u3.1,u3.2.1,u4.1,u4.2.1,u5.1,u5.2.1,u6.1,u6.2.1,u7.1,u7.2.1,u8.1,u8.2.1,u9.1,u9.2.1,u10.1,u10.2.1,u11.1,u11.2.1,u12.1,u12.2.1,u13.1,u13.2.1,u14.1,u14.2.1,u15.1,u15.2.1,u16.1,u16.2.1,u17.1,u17.2.1,u18.1,u18.2.1,u19.1,u19.2.1,u20.1,u20.2.1,u21.1,u21.2.1,u22.1,r9.1.1,r9.1.2.1,u42.1,u42.2.1,u43.1,u43.2.1,u44.1,u44.2.1,u45.1,u45.2.1,u46.1,u46.2.1,u47.1,u47.2.1,u48.1,u48.2.1,u49.1,u49.2.1,u50.1,u50.2.1,u51.1,u51.2.1,u52.1,u52.2.1,u53.1,u53.2.1,u54.1,u54.2.1,u55.1,u55.2.1,u56.1,u56.2.1,u57.1,u57.2.1,u58.1,u58.2.1,u59.1,u59.2.1,u60.1,u60.2.1,u61.1,())))))) (
 .leaf (.inl (x8.1,x8.2.1,(i64.wrap (u1.1+(1:Int))),(i64.wrap (u1.2.1+(1:Int))),u2.1,u2.2.1,u3.1,u3.2.1,u4.1,u4.2.1,u5.1,u5.2.1,u6.1,u6.2.1,u7.1,u7.2.1,u8.1,u8.2.1,u9.1,u9.2.1,u10.1,u10.2.1,u11.1,u11.2.1,u12.1,u12.2.1,u13.1,u13.2.1,u14.1,u14.2.1,u15.1,u15.2.1,u16.1,u16.2.1,u17.1,u17.2.1,u18.1,u18.2.1,u19.1,u19.2.1,u20.1,u20.2.1,u21.1,u21.2.1,u22.1,r9.1.1,r9.1.2.1,u42.1,u42.2.1,u43.1,u43.2.1,u44.1,u44.2.1,u45.1,u45.2.1,u46.1,u46.2.1,u47.1,u47.2.1,u48.1,u48.2.1,u49.1,u49.2.1,u50.1,u50.2.1,u51.1,u51.2.1,u52.1,u52.2.1,u53.1,u53.2.1,u54.1,u54.2.1,u55.1,u55.2.1,u56.1,u56.2.1,u57.1,u57.2.1,u58.1,u58.2.1,u59.1,u59.2.1,u60.1,u60.2.1,u61.1,())))))) (
 .leaf (.inr (.inr (u2.1,u2.2.1,u3.1,u3.2.1,u4.1,u4.2.1,u5.1,u5.2.1,u6.1,u6.2.1,u7.1,u7.2.1,u8.1,u8.2.1,u9.1,u9.2.1,u10.1,u10.2.1,u11.1,u11.2.1,u12.1,u12.2.1,u13.1,u13.2.1,u14.1,u14.2.1,u15.1,u15.2.1,u16.1,u16.2.1,u17.1,u17.2.1,u18.1,u18.2.1,u19.1,u19.2.1,u20.1,u20.2.1,u21.1,u21.2.1,u22.1,u22.2.1,u23.1,u23.2.1,u24.1,u24.2.1,u25.1,u25.2.1,u26.1,u26.2.1,u27.1,u27.2.1,u28.1,u28.2.1,u29.1,u29.2.1,u30.1,u30.2.1,u31.1,u31.2.1,u32.1,u32.2.1,u33.1,u33.2.1,u34.1,u34.2.1,u35.1,u35.2.1,u36.1,u36.2.1,u37.1,u37.2.1,u38.1,u38.2.1,u39.1,u39.2.1,u40.1,u40.2.1,u40.2.2.1,u41.1,u41.2.1,u41.2.2.1,()))))
def Ke (a0:YBs):Tree ((Bool×Unit)):=
 .ob (A20 a0) fun r1=>
 .br r1.1 (
 .leaf (true,())) (
 .ob (Zl a0) fun r2=>letI u1:=r2.1.2.2.2;letI u2:=u1.2.2.2;letI u3:=u2.2.2.2;letI u4:=u3.2.2.2;letI u5:=u4.2.2.2;letI u6:=u5.2.2.2;letI u7:=u6.2.2.2;letI u8:=u7.2.2.2;letI u9:=u8.2.2.2;letI u10:=u9.2.2.2;letI u11:=u10.2.2.2;letI u12:=u11.2.2.2;
 .ob (Apw r2.1 r2.2.1 r2.2.2) fun r3=>letI u13:=r3.1.2.2.2;letI u14:=u13.2.2.2;letI u15:=u14.2.2.2;letI u16:=u15.2.2.2;letI u17:=u16.2.2.2;letI u18:=u17.2.2.2;letI u19:=u18.2.2.2;letI u20:=u19.2.2.2;letI u21:=u20.2.2.2;letI u22:=u21.2.2.2;letI u23:=u22.2.2.2;letI u24:=u23.2.2.2;
 .ob (Ge r2.1 r2.2.1 r2.2.2) fun r4=>
 .br (r3.2.2.2.1 != r4.2.2.2.1) (
 .leaf (false,())) (
 .br (r3.2.2.2.1 != (0:Int)) (
 .ob (L6 r3.1 r2.1) fun r5=>
 .br r5.1 (
 .br ((r3.2.1.1.length:Int)==(0:Int)) (
 .leaf (((r3.2.2.1.1.length:Int)==(0:Int)),())) (
 .leaf (false,()))) (
 .leaf (false,()))) (
 .br ((r3.2.1.1.length:Int) != (1:Int)) (
 .leaf (false,())) (
 .br ((r3.2.2.1.1.length:Int) != (1:Int)) (
 .leaf (false,())) (
 .ob (Iy r3.1) fun r6=>
 .br (!r6.1) (
 .leaf (false,())) (
 .ob (idx r3.2.1.1 (0:Int)) fun e7=>
 .br (e7.1 != (1:Int)) (
 .leaf (false,())) (
 .br (decide ((i64.wrap (r2.2.1.1+(30:Int)))>(1000000:Int))) (
 .leaf (true,())) (
 .ob (Az Bo (r2.2.1.1,r3.2.1.1,(1:Int),(1:Int),r2.1.1,r2.1.2.1,r2.1.2.2.1,u1.1,u1.2.1,u1.2.2.1,u2.1,u2.2.1,u2.2.2.1,u3.1,u3.2.1,u3.2.2.1,u4.1,u4.2.1,u4.2.2.1,u5.1,u5.2.1,u5.2.2.1,u6.1,u6.2.1,u6.2.2.1,u7.1,u7.2.1,u7.2.2.1,u8.1,u8.2.1,u8.2.2.1,u9.1,u9.2.1,u9.2.2.1,u10.1,u10.2.1,u10.2.2.1,u11.1,u11.2.1,u11.2.2.1,u12.1,u12.2.1,u12.2.2.1,u12.2.2.2.1,u12.2.2.2.2.1,r3.1.1,r3.1.2.1,r3.1.2.2.1,u13.1,u13.2.1,u13.2.2.1,u14.1,u14.2.1,u14.2.2.1,u15.1,u15.2.1,u15.2.2.1,u16.1,u16.2.1,u16.2.2.1,u17.1,u17.2.1,u17.2.2.1,u18.1,u18.2.1,u18.2.2.1,u19.1,u19.2.1,u19.2.2.1,u20.1,u20.2.1,u20.2.2.1,u21.1,u21.2.1,u21.2.2.1,u22.1,u22.2.1,u22.2.2.1,u23.1,u23.2.1,u23.2.2.1,u24.1,u24.2.1,u24.2.2.1,u24.2.2.2.1,u24.2.2.2.2.1,())) fun o16=>
 .sm o16 (fun o17=>
 .leaf o17) (fun o18=>letI u25:=o18.2.2.2;letI u26:=u25.2.2.2;letI u27:=u26.2.2.2;letI u28:=u27.2.2.2;letI u29:=u28.2.2.2;letI u30:=u29.2.2.2;letI u31:=u30.2.2.2;letI u32:=u31.2.2.2;letI u33:=u32.2.2.2;letI u34:=u33.2.2.2;letI u35:=u34.2.2.2;letI u36:=u35.2.2.2;letI u37:=u36.2.2.2;letI u38:=u37.2.2.2;letI u39:=u38.2.2.2;letI u40:=u39.2.2.2;letI u41:=u40.2.2.2;letI u42:=u41.2.2.2;letI u43:=u42.2.2.2;letI u44:=u43.2.2.2;letI u45:=u44.2.2.2;letI u46:=u45.2.2.2;letI u47:=u46.2.2.2;letI u48:=u47.2.2.2;letI u49:=u48.2.2.2;letI u50:=u49.2.2.2;
 .br (u39.1==(0:Int)) (
 .ob (L6 (u37.2.2.1,u38.1,u38.2.1,u38.2.2.1,u39.1,u39.2.1,u39.2.2.1,u40.1,u40.2.1,u40.2.2.1,u41.1,u41.2.1,u41.2.2.1,u42.1,u42.2.1,u42.2.2.1,u43.1,u43.2.1,u43.2.2.1,u44.1,u44.2.1,u44.2.2.1,u45.1,u45.2.1,u45.2.2.1,u46.1,u46.2.1,u46.2.2.1,u47.1,u47.2.1,u47.2.2.1,u48.1,u48.2.1,u48.2.2.1,u49.1,u49.2.1,u49.2.2.1,u50.1,u50.2.1,u50.2.2.1,u50.2.2.2.1,()) (o18.1,o18.2.1,o18.2.2.1,u25.1,u25.2.1,u25.2.2.1,u26.1,u26.2.1,u26.2.2.1,u27.1,u27.2.1,u27.2.2.1,u28.1,u28.2.1,u28.2.2.1,u29.1,u29.2.1,u29.2.2.1,u30.1,u30.2.1,u30.2.2.1,u31.1,u31.2.1,u31.2.2.1,u32.1,u32.2.1,u32.2.2.1,u33.1,u33.2.1,u33.2.2.1,u34.1,u34.2.1,u34.2.2.1,u35.1,u35.2.1,u35.2.2.1,u36.1,u36.2.1,u36.2.2.1,u37.1,u37.2.1,())) fun r19=>
 .leaf r19) (
 .leaf (false,())))))))))))
def Ac2 (a0:YBs):Option ((Bool×Unit)):=(Ke a0).val
def Ac3 (a0:YBs) (a1:YBs):Tree (YBs):=
 .ob (Qj a0 a1) fun r1=>
 .leaf r1
def Rt (a0:YBs) (a1:YBs):Option (YBs):=(Ac3 a0 a1).val
def Le (x2:(List YB)×(List YB)×Int×(List YB)×(List YB)×Int×Unit):Option (((List YB)×(List YB)×Int×(List YB)×(List YB)×Int×Unit)⊕((Int×(List YB)×Unit))):=
 letI u1:=x2.2.2;Tree.val (α:=((List YB)×(List YB)×Int×(List YB)×(List YB)×Int×Unit)⊕((Int×(List YB)×Unit))) <|
 .br (decide ((x2.2.2.2.1.length:Int)<u1.1)) (
 .ob (Em ([(u1.2.2.1,()),(x2.2.1,()),([((u8.wrap (u1.2.2.2.1)),())],())],())) fun r3=>
 .ob (Qj (x2.1,()) r3) fun r4=>
 .chk (decide (x2.2.2.2.1.length+r4.1.length≤4294967296)) <|
 .leaf (.inl (x2.1,x2.2.1,u1.1,(u1.2.1++r4.1),r4.1,(i64.wrap (u1.2.2.2.1+(1:Int))),()))) (
 .leaf (.inr (u1.1,u1.2.1,())))
def Ase (a0:YBs) (a1:YBs) (a2:YI):Tree (YBs×(Bool×Unit)):=
 .ob (A5 a2 ((0:Int),()) ((8160:Int),())) fun r1=>
 .br (!r1.1) (
 .leaf ((([]:List YB),()),(false,()))) (
 .br (decide ((a1.1.length:Int)>(100:Int))) (
 .leaf ((([]:List YB),()),(false,()))) (
 .br (decide ((a0.1.length:Int)>(1048576:Int))) (
 .leaf ((([]:List YB),()),(false,()))) (
 .ob (Az Le (a0.1,a1.1,a2.1,([]:List YB),([]:List YB),(1:Int),())) fun o5=>
 .chk (decide ((0:Int)≤o5.1)) <|
 .chk (decide (o5.1≤(o5.2.1.length:Int))) <|
 .ob (A1 (((o5.2.1.take (o5.1).toNat).drop ((0:Int)).toNat),())) fun r6=>
 .leaf (r6,(true,())))))
def Ahi (a0:YBs) (a1:YBs) (a2:YI):Option (YBs×(Bool×Unit)):=(Ase a0 a1 a2).val
def Asf (a0:YBs) (a1:ByteArray×Unit):Tree (YBs):=
 .chk (decide (a1.1.size≤4294967296)) <|
 .ob (Ahi a0 ((Oy a1.1),()) ((32:Int),())) fun r1=>
 .leaf r1.1
def Jn (a0:YBs) (a1:ByteArray×Unit):Option (YBs):=(Asf a0 a1).val
def Ajc (a0:YBs):Tree (YBs):=
 .ob (Sl a0) fun r1=>
 .br (!r1.1) (
 .leaf (([]:List YB),())) (
 .ob (Rt ([((114:Int),()),((111:Int),()),((97:Int),()),((109:Int),())],()) a0) fun r2=>
 .ob (Jn r2 ((Ci [102,105,110,105,115,104]),())) fun r3=>
 .leaf r3)
def M7 (a0:YBs):Option (YBs):=(Ajc a0).val
def Ajd (a0:YI) (a1:YBs) (a2:YBs) (a3:YI) (a4:YBs):Tree (YBs):=
 .ob (A5 a0 ((1:Int),()) ((9:Int),())) fun r1=>
 .br (!r1.1) (
 .leaf (([]:List YB),())) (
 .ob (Ch a1) fun r2=>
 .br (!r2.1) (
 .leaf (([]:List YB),())) (
 .ob (Ch a2) fun r3=>
 .br (!r3.1) (
 .leaf (([]:List YB),())) (
 .ob (A5 a3 ((0:Int),()) ((1000000:Int),())) fun r4=>
 .br (!r4.1) (
 .leaf (([]:List YB),())) (
 .br ((a4.1.length:Int) != (16:Int)) (
 .leaf (([]:List YB),())) (
 .ob (Hc (([]:List YB),()) a3 ((4:Int),())) fun r5=>
 .ob (Em ([([((102:Int),()),((u8.wrap (a0.1)),())],()),a1,a2,r5,a4],())) fun r6=>
 .leaf r6)))))
def J3 (a0:YI) (a1:YBs) (a2:YBs) (a3:YI) (a4:YBs):Option (YBs):=(Ajd a0 a1 a2 a3 a4).val
def Avz (a0:YBs) (a1:YI) (a2:YBs) (a3:YBs) (a4:YI) (a5:YBs):Tree (YBs):=
 .ob (M7 a0) fun r1=>
 .ob (J3 a1 a2 a3 a4 a5) fun r2=>
 .br ((r1.1.length:Int)==(0:Int)) (
 .leaf (([]:List YB),())) (
 .br ((r2.1.length:Int)==(0:Int)) (
 .leaf (([]:List YB),())) (
 .ob (Aem r1 r2) fun r3=>
 .leaf r3))
def Alg (a0:YBs) (a1:YI) (a2:YBs) (a3:YBs) (a4:YI) (a5:YBs):Option (YBs):=(Avz a0 a1 a2 a3 a4 a5).val
def Alh (a0:YBs) (a1:YI) (a2:Aa):Tree (Aa×(Bool×Unit)):=
 letI u1:=a2.2.2.2;.br (a2.1 != (2:Int)) (
 .leaf (((0:Int),(0:Int),([]:List YB),([]:List YB),(0:Int),([]:List YB),([]:List YB),(0:Int),(0:Int),([]:List YB),([]:List YB),()),(false,()))) (
 .ob (Gr a2) fun r1=>
 .br (!r1.1) (
 .leaf (((0:Int),(0:Int),([]:List YB),([]:List YB),(0:Int),([]:List YB),([]:List YB),(0:Int),(0:Int),([]:List YB),([]:List YB),()),(false,()))) (
 .ob (Alg a0 a1 (a2.2.2.1,()) (u1.1,()) (u1.2.1,()) (u1.2.2.1,())) fun r2=>
 .br ((r2.1.length:Int)==(0:Int)) (
 .leaf (((0:Int),(0:Int),([]:List YB),([]:List YB),(0:Int),([]:List YB),([]:List YB),(0:Int),(0:Int),([]:List YB),([]:List YB),()),(false,()))) (
 .ob (A1 (a2.2.2.1,())) fun r3=>
 .ob (A1 (u1.1,())) fun r4=>
 .ob (A1 (u1.2.2.1,())) fun r5=>
 .leaf (((3:Int),a1.1,r3.1,r4.1,u1.2.1,r5.1,r2.1,(0:Int),(0:Int),([]:List YB),([]:List YB),()),(true,())))))
def Zt (a0:YBs) (a1:YI) (a2:Aa):Option (Aa×(Bool×Unit)):=(Alh a0 a1 a2).val
def Aob (a0:YBs) (a1:YBs) (a2:YBs):Tree (YBs):=
 .ob (Sl a0) fun r1=>
 .br (!r1.1) (
 .leaf (([]:List YB),())) (
 .ob (Ch a1) fun r2=>
 .br (!r2.1) (
 .leaf (([]:List YB),())) (
 .ob (Ch a2) fun r3=>
 .br (!r3.1) (
 .leaf (([]:List YB),())) (
 .ob (Em ([a1,a2],())) fun r4=>
 .ob (Rt r4 a0) fun r5=>
 .leaf r5)))
def Ac4 (a0:YBs) (a1:YBs) (a2:YBs):Option (YBs):=(Aob a0 a1 a2).val
def Ali (a0:YBs):Tree (YBs):=
 .br ((a0.1.length:Int) != (32:Int)) (
 .leaf (([]:List YB),())) (
 .ob (Jn a0 ((Ci [101,112,111,99,104]),())) fun r1=>
 .leaf r1)
def Zu (a0:YBs):Option (YBs):=(Ali a0).val
def Mn (x3:Int×(List YB)×Int×Unit):Option ((Int×(List YB)×Int×Unit)⊕(YBs)):=
 Tree.val (α:=(Int×(List YB)×Int×Unit)⊕(YBs)) <|
 .br (decide (x3.2.2.1<x3.1)) (
 .ob (Jn (x3.2.1,()) ((Ci [114,101,107,101,121]),())) fun r4=>
 .leaf (.inl (x3.1,r4.1,(i64.wrap (x3.2.2.1+(1:Int))),()))) (
 .leaf (.inr (x3.2.1,())))
def Av0 (a0:YBs) (a1:YI):Tree (YBs):=
 .ob (A5 a1 ((0:Int),()) ((64:Int),())) fun r1=>
 .br (!r1.1) (
 .leaf (([]:List YB),())) (
 .ob (A1 a0) fun r2=>
 .ob (Az Mn (a1.1,r2.1,(0:Int),())) fun o5=>
 .leaf o5)
def Alj (a0:YBs) (a1:YI):Option (YBs):=(Av0 a0 a1).val
def Alk (a0:YBs) (a1:YBs) (a2:YBs) (a3:YI):Tree (YBs):=
 .ob (Ac4 a0 a1 a2) fun r1=>
 .ob (Zu r1) fun r2=>
 .br ((r2.1.length:Int)==(0:Int)) (
 .leaf (([]:List YB),())) (
 .ob (Alj r2 a3) fun r3=>
 .leaf r3)
def Zv (a0:YBs) (a1:YBs) (a2:YBs) (a3:YI):Option (YBs):=(Alk a0 a1 a2 a3).val
def Asg:Tree (Bp):=
 .leaf ((-1:Int),(List.replicate ((32:Int)).toNat ((0:Int),())),())
def Wt:Option (Bp):=(Asg).val
def All (a0:YI) (a1:YBs):Tree (YEp):=
 .ob (A5 a0 ((0:Int),()) ((4294967295:Int),())) fun r1=>
 .br (!r1.1) (
 .leaf ((0:Int),([]:List YB),(0:Int),(0:Int),([]:List YI),())) (
 .br ((a1.1.length:Int) != (32:Int)) (
 .leaf ((0:Int),([]:List YB),(0:Int),(0:Int),([]:List YI),())) (
 .ob (A1 a1) fun r2=>
 .ob Wt fun r3=>
 .leaf (a0.1,r2.1,(0:Int),r3.1,r3.2.1,())))
def Lf (a0:YI) (a1:YBs):Option (YEp):=(All a0 a1).val
def Aoc (a0:YI) (a1:YBs) (a2:YBs):Tree (Af):=
 .ob (Jm a0) fun r1=>
 .br (!r1.1) (
 .leaf ((0:Int),([]:List YB),(0:Int),([]:List YB),(0:Int),(0:Int),([]:List YI),(0:Int),([]:List YB),(0:Int),(0:Int),([]:List YI),false,(0:Int),([]:List YB),())) (
 .ob (Ch a1) fun r2=>
 .br (!r2.1) (
 .leaf ((0:Int),([]:List YB),(0:Int),([]:List YB),(0:Int),(0:Int),([]:List YI),(0:Int),([]:List YB),(0:Int),(0:Int),([]:List YI),false,(0:Int),([]:List YB),())) (
 .br ((a2.1.length:Int) != (32:Int)) (
 .leaf ((0:Int),([]:List YB),(0:Int),([]:List YB),(0:Int),(0:Int),([]:List YI),(0:Int),([]:List YB),(0:Int),(0:Int),([]:List YI),false,(0:Int),([]:List YB),())) (
 .ob (A1 a1) fun r3=>
 .ob (Lf ((0:Int),()) a2) fun r4=>
 .leaf (a0.1,r3.1,r4.1,r4.2.1,r4.2.2.1,r4.2.2.2.1,r4.2.2.2.2.1,(0:Int),([]:List YB),(0:Int),(0:Int),([]:List YI),false,(0:Int),([]:List YB),()))))
def Ac5 (a0:YI) (a1:YBs) (a2:YBs):Option (Af):=(Aoc a0 a1 a2).val
def Aen (a0:Ab) (a1:YI) (a2:Aa):Tree (Ab×((List Aa)×Unit)×((List Ae)×Unit)):=
 .ob (B8 a0) fun r1=>letI u1:=r1.2.2;letI u2:=u1.2.2.2.2.2.2.2.2.2.2.2.2.2.2.2.2.2.2.2.2.2.2.2.2.2.2.2.2.2.2.2.2.2.2;
 .ob (Zt (a0.2.1,()) (a0.1,()) a2) fun r2=>letI u3:=r2.1.2.2;letI u4:=u3.2.2;letI u5:=u4.2.2.2;
 .br (!r2.2.1) (
 .leaf (r1,(([]:List Aa),()),(([]:List Ae),()))) (
 .ob (Lc a1) fun r3=>
 .ob (Zv (a0.2.1,()) (a0.2.2.2.2.2.1,()) (a2.2.2.2.1,()) ((0:Int),())) fun r4=>
 .ob (Ac5 ((0:Int),()) (a2.2.2.2.1,()) r4) fun r5=>letI u6:=r5.2.2.2;letI u7:=u6.2.2.2;letI u8:=u7.2.2.2.2;
 .ob (A1 (a0.2.2.2.2.2.1,())) fun r6=>
 .ob (A1 (a2.2.2.2.1,())) fun r7=>
 .ob (M7 (a0.2.1,())) fun r8=>
 .ob (J3 (r2.1.2.1,()) (u3.1,()) (u3.2.1,()) (u4.1,()) (u4.2.1,())) fun r9=>
 .ob (Ahh r8 r9) fun r10=>
 .ob (Ht r2.1) fun r11=>
 .leaf ((r1.1,r1.2.1,u1.1,u1.2.1,(2:Int),u1.2.2.2.1,r2.1.1,r2.1.2.1,u3.1,u3.2.1,u4.1,u4.2.1,u4.2.2.1,u5.1,u5.2.1,u5.2.2.1,u5.2.2.2.1,r5.1,r5.2.1,r5.2.2.1,u6.1,u6.2.1,u6.2.2.1,u7.1,u7.2.1,u7.2.2.1,u7.2.2.2.1,u8.1,u8.2.1,u8.2.2.1,u8.2.2.2.1,u8.2.2.2.2.1,r3.1,r3.2.1,r3.2.2.1,r3.2.2.2.1,u2.1,u2.2.1,u2.2.2.1,u2.2.2.2.1,u2.2.2.2.2.1,()),([r11],()),([((2:Int),a0.1,(0:Int),r6.1,r7.1,(0:Int),(0:Int),([]:List YB),([]:List YB),(0:Int),(0:Int),a1.1,()),r10],())))
def Qk (a0:Ab) (a1:YI) (a2:Aa):Option (Ab×((List Aa)×Unit)×((List Ae)×Unit)):=(Aen a0 a1 a2).val
def Wu (x1:(List YB)×(List YB)×Int×Int×Int×Unit):Option (((List YB)×(List YB)×Int×Int×Int×Unit)⊕(YI)):=
 letI u1:=x1.2.2.2;Tree.val (α:=((List YB)×(List YB)×Int×Int×Int×Unit)⊕(YI)) <|
 .br (decide (u1.2.1<u1.1)) (
 .ob (idx x1.1 u1.2.1) fun e2=>
 .ob (idx x1.2.1 u1.2.1) fun e3=>
 .leaf (.inl (x1.1,x1.2.1,(i64.wrap ((BitVec.ofInt (i64.bits) (x1.2.2.1) ||| BitVec.ofInt (i64.bits) ((i64.wrap ((u8.wrap ((BitVec.ofInt (u8.bits) (e2.1) ^^^ BitVec.ofInt (u8.bits) (e3.1)).toNat:Nat)))))).toNat:Nat)),u1.1,(i64.wrap (u1.2.1+(1:Int))),()))) (
 .leaf (.inr (x1.2.2.1,())))
def Ay4 (a0:YBs) (a1:YBs):Tree (YI):=
 .br ((a0.1.length:Int) != (a1.1.length:Int)) (
 .leaf ((-1:Int),())) (
 .ob (Az Wu (a0.1,a1.1,(0:Int),(a0.1.length:Int),(0:Int),())) fun o4=>
 .leaf o4)
def Ng (a0:YBs) (a1:YBs):Option (YI):=(Ay4 a0 a1).val
def Ash (a0:Bp) (a1:YI):Tree ((Bool×Unit)):=
 .ob (Aaw a0) fun r1=>
 .br (!r1.1) (
 .leaf (false,())) (
 .ob (A5 a1 ((0:Int),()) ((281474976710655:Int),())) fun r2=>
 .br (!r2.1) (
 .leaf (false,())) (
 .br (decide (a1.1>a0.1)) (
 .leaf (true,())) (
 .br (decide (a1.1≥(i64.wrap ((i64.wrap (a0.1-(1024:Int)))+(1:Int))))) (
 .ob (O6 a0 a1) fun r3=>
 .leaf ((!r3.1),())) (
 .leaf (false,())))))
def Ahj (a0:Bp) (a1:YI):Option ((Bool×Unit)):=(Ash a0 a1).val
def Lg (x3:Int×Int×Int×(List YI)×Int×(List YI)×Int×(List YI)×Unit):Option ((Int×Int×Int×(List YI)×Int×(List YI)×Int×(List YI)×Unit)⊕((Int×Int×(List YI)×Int×(List YI)×Int×(List YI)×Unit))):=
 letI u1:=x3.2.2;letI u2:=u1.2.2;letI u3:=u2.2.2;Tree.val (α:=(Int×Int×Int×(List YI)×Int×(List YI)×Int×(List YI)×Unit)⊕((Int×Int×(List YI)×Int×(List YI)×Int×(List YI)×Unit))) <|
 .br (decide (x3.2.1<x3.1)) (
 .chk (decide ((0:Int)≤x3.2.1)) <|
 .chk (decide ((0:Int)≤(x3.2.1%(1024:Int)))) <|
 .ob (idx u3.2.1 ((x3.2.1%(1024:Int))/(32:Int))) fun e4=>
 .chk (decide ((0:Int)≤x3.2.1)) <|
 .chk (decide ((0:Int)≤(x3.2.1%(32:Int)))) <|
 .ob (idx u3.2.1 ((x3.2.1%(1024:Int))/(32:Int))) fun e5=>
 let q6:=(x3.2.2.2.2.2.2.2.1.set (((x3.2.1%(1024:Int))/(32:Int))).toNat ((i64.wrap ((BitVec.ofInt (i64.bits) (e4.1) &&& ~~~ BitVec.ofInt (i64.bits) ((i64.wrap ((1:Int)*2^(min ((x3.2.1%(32:Int))).toNat i64.bits))))).toNat:Nat)),()))
 .leaf (.inl (x3.1,(i64.wrap (x3.2.1+(1:Int))),u1.1,u1.2.1,u2.1,u2.2.1,u3.1,q6,()))) (
 .leaf (.inr (x3.1,u1.1,u1.2.1,u2.1,u2.2.1,u3.1,u3.2.1,())))
def Asi (a0:Bp) (a1:YI):Tree (Bp×(Bool×Unit)):=
 .ob (Rs a0) fun r1=>
 .ob (Ahj a0 a1) fun r2=>
 .br (!r2.1) (
 .leaf (r1,(false,()))) (
 .ob (Az Lg (a1.1,(if (i64.wrap (a0.1+(1:Int)))<(i64.wrap ((i64.wrap (a1.1-(1024:Int)))+(1:Int)))then(i64.wrap ((i64.wrap (a1.1-(1024:Int)))+(1:Int)))else(i64.wrap (a0.1+(1:Int)))),a0.1,a0.2.1,(0:Int),([]:List YI),r1.1,r1.2.1,())) fun o7=>
 .chk (decide ((0:Int)≤o7.1)) <|
 .chk (decide ((0:Int)≤(o7.1%(1024:Int)))) <|
 .ob (idx o7.2.2.2.2.2.2.1 ((o7.1%(1024:Int))/(32:Int))) fun e8=>
 .chk (decide ((0:Int)≤o7.1)) <|
 .chk (decide ((0:Int)≤(o7.1%(32:Int)))) <|
 .ob (idx o7.2.2.2.2.2.2.1 ((o7.1%(1024:Int))/(32:Int))) fun e9=>
 let q10:=(o7.2.2.2.2.2.2.1.set (((o7.1%(1024:Int))/(32:Int))).toNat ((i64.wrap ((BitVec.ofInt (i64.bits) (e8.1) ||| BitVec.ofInt (i64.bits) ((i64.wrap ((1:Int)*2^(min ((o7.1%(32:Int))).toNat i64.bits))))).toNat:Nat)),()))
 .leaf (((if o7.2.1<o7.1 then o7.1 else o7.2.1),q10,()),(true,())))
def Ahk (a0:Bp) (a1:YI):Option (Bp×(Bool×Unit)):=(Asi a0 a1).val
def Aod (a0:YBs) (a1:YBs):Tree ((Bool×Unit)):=
 .br ((a0.1.length:Int)==(16:Int)) (
 .ob (Ng a0 a1) fun r1=>
 .leaf ((r1.1==(0:Int)),())) (
 .leaf (false,()))
def Ac6 (a0:YBs) (a1:YBs):Option ((Bool×Unit)):=(Aod a0 a1).val
def Asj (a0:YBs) (a1:YI) (a2:Aa):Tree (YBs×(Bool×Unit)):=
 letI u1:=a2.2.2.2.2.2.2.2;.ob (Hd a1 a2) fun r1=>
 .br ((a0.1.length:Int) != (32:Int)) (
 .leaf ((([]:List YB),()),(false,()))) (
 .br ((r1.1.length:Int)==(0:Int)) (
 .leaf ((([]:List YB),()),(false,()))) (
 .ob (Aem a0 r1) fun r2=>
 .ob (Ac6 (u1.2.2.2.1,()) r2) fun r3=>
 .br (!r3.1) (
 .leaf ((([]:List YB),()),(false,()))) (
 .ob (O7 a1 (a2.2.2.2.1,()) (u1.1,()) (u1.2.1,())) fun r4=>
 .ob (Amt a0 r4 (u1.2.2.1,())) fun r5=>
 .leaf (r5,(true,())))))
def Ahl (a0:YBs) (a1:YI) (a2:Aa):Option (YBs×(Bool×Unit)):=(Asj a0 a1 a2).val
def Ask (a0:YEp) (a1:YI) (a2:Aa):Tree (YEp×YBs×YI):=
 letI u1:=a2.2.2.2.2.2.2.2;.ob (L4 a0) fun r1=>
 .ob (Qh a0) fun r2=>
 .br (!r2.1) (
 .leaf (r1,(([]:List YB),()),((1:Int),()))) (
 .ob (Hd a1 a2) fun r3=>
 .br ((r3.1.length:Int)==(0:Int)) (
 .leaf (r1,(([]:List YB),()),((1:Int),()))) (
 .br (u1.1 != a0.1) (
 .leaf (r1,(([]:List YB),()),((1:Int),()))) (
 .ob (Ahk (a0.2.2.2.1,a0.2.2.2.2.1,()) (u1.2.1,())) fun r4=>
 .br (!r4.2.1) (
 .leaf (r1,(([]:List YB),()),((3:Int),()))) (
 .ob (Ahl (a0.2.1,()) a1 a2) fun r5=>
 .br (!r5.2.1) (
 .leaf (r1,(([]:List YB),()),((2:Int),()))) (
 .leaf ((r1.1,r1.2.1,r1.2.2.1,r4.1.1,r4.1.2.1,()),r5.1,((0:Int),())))))))
def Fv (a0:YEp) (a1:YI) (a2:Aa):Option (YEp×YBs×YI):=(Ask a0 a1 a2).val
def Ql (a0:Af) (r1:Af) (r8:YEp×YBs×YI) (a1:YI):Tree (Af×YBs×YI):=
 letI u1:=r1.2.2.2.2.2.2.2;letI u2:=u1.2.2;letI u3:=u2.2.2;letI u4:=r8.1.2.2;.br (a0.2.2.2.2.2.2.2.2.2.2.2.2.2.1==(-1:Int)) (
 .leaf ((r1.1,r1.2.1,r8.1.1,r8.1.2.1,u4.1,u4.2.1,u4.2.2.1,u1.1,u1.2.1,u2.1,u2.2.1,u3.1,u3.2.1,(i64.wrap (a1.1+(5:Int))),u3.2.2.2.1,()),r8.2.1,((0:Int),()))) (
 .leaf ((r1.1,r1.2.1,r8.1.1,r8.1.2.1,u4.1,u4.2.1,u4.2.2.1,u1.1,u1.2.1,u2.1,u2.2.1,u3.1,u3.2.1,u3.2.2.1,u3.2.2.2.1,()),r8.2.1,((0:Int),())))
def Iz (a0:Af) (r1:Af) (r8:YEp×YBs×YI) (a1:YI):Tree (Af×YBs×YI):=
 letI u1:=r1.2.2.2.2.2.2.2;letI u2:=u1.2.2.2;.br a0.2.2.2.2.2.2.2.2.2.2.2.2.1 (
 Ql a0 r1 r8 a1) (
 .leaf ((r1.1,r1.2.1,r8.1.1,r8.1.2.1,r8.1.2.2.1,r8.1.2.2.2.1,r8.1.2.2.2.2.1,u1.1,u1.2.1,u1.2.2.1,u2.1,u2.2.1,u2.2.2.1,u2.2.2.2.1,u2.2.2.2.2.1,()),r8.2.1,((0:Int),())))
def Qm (a2:Aa) (a0:Af) (r1:Af) (r8:YEp×YBs×YI) (a1:YI):Tree (Af×YBs×YI):=
 letI u1:=r1.2.2;letI u2:=u1.2.2;letI u3:=u2.2.2.2.2.2.2.2.2;letI u4:=r8.1.2.2;.br (a2.2.2.2.2.2.2.2.1==a0.2.2.2.2.2.2.2.1) (
 .leaf ((r1.1,r1.2.1,u1.1,u1.2.1,u2.1,u2.2.1,u2.2.2.1,r8.1.1,r8.1.2.1,u4.1,u4.2.1,u4.2.2.1,u3.1,u3.2.1,u3.2.2.1,()),r8.2.1,((0:Int),()))) (
 .leaf ((r1.1,r1.2.1,r8.1.1,r8.1.2.1,u4.1,u4.2.1,u4.2.2.1,u1.1,u1.2.1,u2.1,u2.2.1,u2.2.2.1,true,(i64.wrap (a1.1+(5:Int))),([]:List YB),()),r8.2.1,((0:Int),())))
def Gx (a2:Aa) (a0:Af) (r1:Af) (r8:YEp×YBs×YI) (a1:YI):Tree (Af×YBs×YI):=
 .br (a2.2.2.2.2.2.2.2.1==a0.2.2.1) (
 Iz a0 r1 r8 a1) (
 Qm a2 a0 r1 r8 a1)
def L7 (r8:YEp×YBs×YI) (r1:Af) (a2:Aa) (a0:Af) (a1:YI):Tree (Af×YBs×YI):=
 .br (r8.2.2.1 != (0:Int)) (
 .leaf (r1,(([]:List YB),()),r8.2.2)) (
 Gx a2 a0 r1 r8 a1)
def Aeo (r7:YEp) (a0:Af) (a2:Aa) (r1:Af) (a1:YI):Tree (Af×YBs×YI):=
 .ob (Fv r7 ((i64.wrap ((1:Int)-a0.1)),()) a2) fun r8=>
 L7 r8 r1 a2 a0 a1
def Qn (a0:Af) (a2:Aa) (r1:Af) (a1:YI):Tree (Af×YBs×YI):=
 .ob (Lf ((i64.wrap (a0.2.2.1+(1:Int))),()) (a0.2.2.2.2.2.2.2.2.2.2.2.2.2.2.1,())) fun r7=>
 Aeo r7 a0 a2 r1 a1
def L8 (a0:Af) (a2:Aa) (r1:Af) (a1:YI):Tree (Af×YBs×YI):=
 letI u1:=a0.2.2.2.2.2.2.2;.ob (Fv (u1.1,u1.2.1,u1.2.2.1,u1.2.2.2.1,u1.2.2.2.2.1,()) ((i64.wrap ((1:Int)-a0.1)),()) a2) fun r9=>
 L7 r9 r1 a2 a0 a1
def Aep (a2:Aa) (a0:Af) (r1:Af) (a1:YI):Tree (Af×YBs×YI):=
 .br (a2.2.2.2.2.2.2.2.1==(i64.wrap (a0.2.2.1+(1:Int)))) (
 Qn a0 a2 r1 a1) (
 L8 a0 a2 r1 a1)
def Km (a0:Af) (a2:Aa) (r1:Af) (a1:YI):Tree (Af×YBs×YI):=
 letI u1:=a0.2.2.2;.ob (Fv (a0.2.2.1,u1.1,u1.2.1,u1.2.2.1,u1.2.2.2.1,()) ((i64.wrap ((1:Int)-a0.1)),()) a2) fun r12=>
 L7 r12 r1 a2 a0 a1
def O8 (a2:Aa) (a0:Af) (r1:Af) (a1:YI):Tree (Af×YBs×YI):=
 .br (a2.2.2.2.2.2.2.2.1==(i64.wrap (a0.2.2.1+(1:Int)))) (
 Qn a0 a2 r1 a1) (
 Km a0 a2 r1 a1)
def F7 (a2:Aa) (a0:Af) (r1:Af) (a1:YI):Tree (Af×YBs×YI):=
 .br (a2.2.2.2.2.2.2.2.1==a0.2.2.2.2.2.2.2.1) (
 Aep a2 a0 r1 a1) (
 O8 a2 a0 r1 a1)
def Aay (a1:YI) (a0:Af) (r1:Af) (a2:Aa):Tree (Af×YBs×YI):=
 .br (decide (a1.1>a0.2.2.2.2.2.2.2.2.2.2.2.2.2.1)) (
 .leaf (r1,(([]:List YB),()),((9:Int),()))) (
 F7 a2 a0 r1 a1)
def Aaz (a0:Af) (a1:YI) (r1:Af) (a2:Aa):Tree (Af×YBs×YI):=
 .br (a0.2.2.2.2.2.2.2.2.2.2.2.2.2.1 != (-1:Int)) (
 Aay a1 a0 r1 a2) (
 F7 a2 a0 r1 a1)
def F8 (a2:Aa) (a0:Af) (a1:YI) (r1:Af):Tree (Af×YBs×YI):=
 .br (a2.2.2.2.2.2.2.2.1==a0.2.2.2.2.2.2.2.1) (
 Aaz a0 a1 r1 a2) (
 F7 a2 a0 r1 a1)
def H1 (a2:Aa) (a0:Af) (r1:Af) (a1:YI):Tree (Af×YBs×YI):=
 .br (a2.2.2.2.2.2.2.2.1==a0.2.2.2.2.2.2.2.1) (
 L8 a0 a2 r1 a1) (
 Km a0 a2 r1 a1)
def Aa0 (a1:YI) (a0:Af) (r1:Af) (a2:Aa):Tree (Af×YBs×YI):=
 .br (decide (a1.1>a0.2.2.2.2.2.2.2.2.2.2.2.2.2.1)) (
 .leaf (r1,(([]:List YB),()),((9:Int),()))) (
 H1 a2 a0 r1 a1)
def Aa1 (a0:Af) (a1:YI) (r1:Af) (a2:Aa):Tree (Af×YBs×YI):=
 .br (a0.2.2.2.2.2.2.2.2.2.2.2.2.2.1 != (-1:Int)) (
 Aa0 a1 a0 r1 a2) (
 H1 a2 a0 r1 a1)
def Kn (a2:Aa) (a0:Af) (a1:YI) (r1:Af):Tree (Af×YBs×YI):=
 .br (a2.2.2.2.2.2.2.2.1==a0.2.2.2.2.2.2.2.1) (
 Aa1 a0 a1 r1 a2) (
 H1 a2 a0 r1 a1)
def Ko (a2:Aa) (a0:Af) (r1:Af) (r76:YEp×YBs×YI) (a1:YI):Tree (Af×YBs×YI):=
 letI u1:=r1.2.2.2;.br (a2.2.2.2.2.2.2.2.1==a0.2.2.1) (
 Iz a0 r1 r76 a1) (
 .leaf ((r1.1,r1.2.1,r76.1.1,r76.1.2.1,r76.1.2.2.1,r76.1.2.2.2.1,r76.1.2.2.2.2.1,r1.2.2.1,u1.1,u1.2.1,u1.2.2.1,u1.2.2.2.1,true,(i64.wrap (a1.1+(5:Int))),([]:List YB),()),r76.2.1,((0:Int),())))
def O9 (r76:YEp×YBs×YI) (r1:Af) (a2:Aa) (a0:Af) (a1:YI):Tree (Af×YBs×YI):=
 .br (r76.2.2.1 != (0:Int)) (
 .leaf (r1,(([]:List YB),()),r76.2.2)) (
 Ko a2 a0 r1 r76 a1)
def Aa2 (r75:YEp) (a0:Af) (a2:Aa) (r1:Af) (a1:YI):Tree (Af×YBs×YI):=
 .ob (Fv r75 ((i64.wrap ((1:Int)-a0.1)),()) a2) fun r76=>
 O9 r76 r1 a2 a0 a1
def Aa3 (a0:Af) (a2:Aa) (r1:Af) (a1:YI):Tree (Af×YBs×YI):=
 .ob (Lf ((i64.wrap (a0.2.2.1+(1:Int))),()) (a0.2.2.2.2.2.2.2.2.2.2.2.2.2.2.1,())) fun r75=>
 Aa2 r75 a0 a2 r1 a1
def Kp (a0:Af) (a2:Aa) (r1:Af) (a1:YI):Tree (Af×YBs×YI):=
 letI u1:=a0.2.2.2;.ob (Fv (a0.2.2.1,u1.1,u1.2.1,u1.2.2.1,u1.2.2.2.1,()) ((i64.wrap ((1:Int)-a0.1)),()) a2) fun r77=>
 O9 r77 r1 a2 a0 a1
def Kq (a2:Aa) (a0:Af) (r1:Af) (a1:YI):Tree (Af×YBs×YI):=
 .br (a2.2.2.2.2.2.2.2.1==(i64.wrap (a0.2.2.1+(1:Int)))) (
 Aa3 a0 a2 r1 a1) (
 Kp a0 a2 r1 a1)
def Alm (a0:Af) (a1:YI) (a2:Aa):Tree (Af×YBs×YI):=
 letI u1:=a0.2.2;letI u2:=u1.2.2.2.2.2;letI u3:=a2.2.2.2;letI u4:=u3.2.2.2.2;.ob (Fy a0) fun r1=>
 .ob (Gm a0) fun r2=>
 .br (!r2.1) (
 .leaf (r1,(([]:List YB),()),((1:Int),()))) (
 .ob (A5 a1 ((0:Int),()) ((1000000:Int),())) fun r3=>
 .br (!r3.1) (
 .leaf (r1,(([]:List YB),()),((1:Int),()))) (
 .ob (Gl (a2.1,())) fun r4=>
 .br (!r4.1) (
 .leaf (r1,(([]:List YB),()),((1:Int),()))) (
 .ob (Gr a2) fun r5=>
 .br (!r5.1) (
 .leaf (r1,(([]:List YB),()),((1:Int),()))) (
 .br u2.2.2.2.2.2.1 (
 .br (decide ((a0.2.2.2.2.2.2.2.2.2.2.2.2.2.2.1.length:Int)>(0:Int))) (
 .ob (Ng (u3.1,()) (a0.2.1,())) fun r6=>
 .br (r6.1 != (0:Int)) (
 .leaf (r1,(([]:List YB),()),((8:Int),()))) (
 .br (!(u4.1==u1.1)) (
 .br (!(u4.1==u2.1)) (
 .br (!(u4.1==(i64.wrap (u1.1+(1:Int))))) (
 .leaf (r1,(([]:List YB),()),((8:Int),()))) (
 F8 a2 a0 a1 r1)) (
 F8 a2 a0 a1 r1)) (
 F8 a2 a0 a1 r1))) (
 .ob (Ng (u3.1,()) (a0.2.1,())) fun r61=>
 .br (r61.1 != (0:Int)) (
 .leaf (r1,(([]:List YB),()),((8:Int),()))) (
 .br (!(u4.1==u1.1)) (
 .br (!(u4.1==u2.1)) (
 .leaf (r1,(([]:List YB),()),((8:Int),()))) (
 Kn a2 a0 a1 r1)) (
 Kn a2 a0 a1 r1)))) (
 .br (decide ((a0.2.2.2.2.2.2.2.2.2.2.2.2.2.2.1.length:Int)>(0:Int))) (
 .ob (Ng (u3.1,()) (a0.2.1,())) fun r74=>
 .br (r74.1 != (0:Int)) (
 .leaf (r1,(([]:List YB),()),((8:Int),()))) (
 .br (!(u4.1==u1.1)) (
 .br (!(u4.1==(i64.wrap (u1.1+(1:Int))))) (
 .leaf (r1,(([]:List YB),()),((8:Int),()))) (
 Kq a2 a0 r1 a1)) (
 Kq a2 a0 r1 a1))) (
 .ob (Ng (u3.1,()) (a0.2.1,())) fun r81=>
 .br (r81.1 != (0:Int)) (
 .leaf (r1,(([]:List YB),()),((8:Int),()))) (
 .br (!(u4.1==u1.1)) (
 .leaf (r1,(([]:List YB),()),((8:Int),()))) (
 Kp a0 a2 r1 a1))))))))
def Lh (a0:Af) (a1:YI) (a2:Aa):Option (Af×YBs×YI):=(Alm a0 a1 a2).val
def Asl (a0:Af) (a1:YI):Tree (YBs×(Bool×Unit)):=
 letI u1:=a0.2.2;letI u2:=u1.2.2.2.2.2;letI u3:=u2.2.2.2.2.2;.ob (Gm a0) fun r1=>
 .br (!r1.1) (
 .leaf ((([]:List YB),()),(false,()))) (
 .br u3.1 (
 .br (a1.1==u2.1) (
 .ob (A1 (u2.2.1,())) fun r2=>
 .leaf (r2,(true,()))) (
 .br (a1.1==u1.1) (
 .ob (A1 (u1.2.1,())) fun r3=>
 .leaf (r3,(true,()))) (
 .br (decide ((a0.2.2.2.2.2.2.2.2.2.2.2.2.2.2.1.length:Int)>(0:Int))) (
 .br (a1.1==(i64.wrap (u1.1+(1:Int)))) (
 .ob (A1 (u3.2.2.1,())) fun r4=>
 .leaf (r4,(true,()))) (
 .leaf ((([]:List YB),()),(false,())))) (
 .leaf ((([]:List YB),()),(false,())))))) (
 .br (a1.1==u1.1) (
 .ob (A1 (u1.2.1,())) fun r5=>
 .leaf (r5,(true,()))) (
 .br (decide ((a0.2.2.2.2.2.2.2.2.2.2.2.2.2.2.1.length:Int)>(0:Int))) (
 .br (a1.1==(i64.wrap (u1.1+(1:Int)))) (
 .ob (A1 (u3.2.2.1,())) fun r6=>
 .leaf (r6,(true,()))) (
 .leaf ((([]:List YB),()),(false,())))) (
 .leaf ((([]:List YB),()),(false,()))))))
def Wv (a0:Af) (a1:YI):Option (YBs×(Bool×Unit)):=(Asl a0 a1).val
def Ay5 (a0:YBs) (a1:YBs) (a2:YBs):Tree (Ae):=
 .ob (A1 a0) fun r1=>
 .ob (A1 a1) fun r2=>
 .ob (A1 a2) fun r3=>
 .leaf ((16:Int),(0:Int),(0:Int),([]:List YB),r2.1,(0:Int),(0:Int),r3.1,r1.1,(0:Int),(0:Int),(0:Int),())
def Apy (a0:YBs) (a1:YBs) (a2:YBs):Option (Ae):=(Ay5 a0 a1 a2).val
def Aeq (a0:Ab) (a1:YI) (a2:Aa):Tree (Ab×((List Aa)×Unit)×((List Ae)×Unit)):=
 letI u1:=a0.2.2.2.2;letI u2:=u1.2.2.2.2.2.2.2.2.2.2.2.2.2;letI u3:=u2.2.2;letI u4:=u3.2.2;letI u5:=u4.2.2;letI u6:=u5.2.2;letI u7:=u6.2.2;letI u8:=u7.2.2;letI u9:=a2.2.2.2;letI u10:=u9.2.2.2.2;.ob (B8 a0) fun r1=>letI u11:=r1.2.2;letI u12:=u11.2.2;letI u13:=u12.2.2;letI u14:=u13.2.2;letI u15:=u14.2.2;letI u16:=u15.2.2;letI u17:=u16.2.2;letI u18:=u17.2.2;letI u19:=u18.2.2.2.2.2.2.2.2.2.2.2.2.2.2.2.2;letI u20:=u19.2.2;letI u21:=u20.2.2;letI u22:=u21.2.2;
 .ob (Lh (u2.1,u2.2.1,u3.1,u3.2.1,u4.1,u4.2.1,u5.1,u5.2.1,u6.1,u6.2.1,u7.1,u7.2.1,u8.1,u8.2.1,u8.2.2.1,()) a1 a2) fun r2=>letI u23:=r2.1.2.2;letI u24:=u23.2.2;letI u25:=u24.2.2;letI u26:=u25.2.2;letI u27:=u26.2.2;letI u28:=u27.2.2;letI u29:=u28.2.2;
 .br (r2.2.2.1 != (0:Int)) (
 .leaf (r1,(([]:List Aa),()),(([]:List Ae),()))) (
 .ob (Wv (u2.1,u2.2.1,u3.1,u3.2.1,u4.1,u4.2.1,u5.1,u5.2.1,u6.1,u6.2.1,u7.1,u7.2.1,u8.1,u8.2.1,u8.2.2.1,()) (u10.1,())) fun r3=>
 .ob (Hd ((1:Int),()) a2) fun r4=>
 .ob (Apy r3.1 (u9.1,()) r4) fun r5=>
 .br (u1.1==(2:Int)) (
 .ob (A1 (u1.2.1,())) fun r6=>
 .ob (A1 (r2.1.2.1,())) fun r7=>
 .ob (A1 (u3.2.1,())) fun r8=>
 .chk (decide ([r5].length+[((3:Int),a0.1,(0:Int),r6.1,r7.1,(0:Int),(0:Int),([]:List YB),r8.1,(0:Int),(0:Int),(0:Int),())].length≤4294967296)) <|
 .br (u23.1 != u3.1) (
 .ob (A1 (r2.1.2.1,())) fun r9=>
 .ob (A1 (u23.2.1,())) fun r10=>
 .chk (decide (([r5]++[((3:Int),a0.1,(0:Int),r6.1,r7.1,(0:Int),(0:Int),([]:List YB),r8.1,(0:Int),(0:Int),(0:Int),())]).length+[((10:Int),(0:Int),(0:Int),([]:List YB),r9.1,u23.1,(0:Int),([]:List YB),r10.1,(0:Int),(0:Int),(0:Int),())].length≤4294967296)) <|
 .br (a2.1==(4:Int)) (
 .ob (A1 (u9.1,())) fun r11=>
 .chk (decide ((([r5]++[((3:Int),a0.1,(0:Int),r6.1,r7.1,(0:Int),(0:Int),([]:List YB),r8.1,(0:Int),(0:Int),(0:Int),())])++[((10:Int),(0:Int),(0:Int),([]:List YB),r9.1,u23.1,(0:Int),([]:List YB),r10.1,(0:Int),(0:Int),(0:Int),())]).length+[((6:Int),(0:Int),(1:Int),([]:List YB),r11.1,u10.1,u10.2.1,r2.2.1.1,([]:List YB),(0:Int),(0:Int),a1.1,())].length≤4294967296)) <|
 .br (a2.1 != (5:Int)) (
 .leaf ((r1.1,r1.2.1,u11.1,u11.2.1,(3:Int),u12.2.1,(0:Int),(0:Int),([]:List YB),([]:List YB),(0:Int),([]:List YB),([]:List YB),(0:Int),(0:Int),([]:List YB),([]:List YB),r2.1.1,r2.1.2.1,u23.1,u23.2.1,u24.1,u24.2.1,u25.1,u25.2.1,u26.1,u26.2.1,u27.1,u27.2.1,u28.1,u28.2.1,u29.1,false,(0:Int),(0:Int),(0:Int),false,(0:Int),(0:Int),(0:Int),a1.1,()),(([]:List Aa),()),(((([r5]++[((3:Int),a0.1,(0:Int),r6.1,r7.1,(0:Int),(0:Int),([]:List YB),r8.1,(0:Int),(0:Int),(0:Int),())])++[((10:Int),(0:Int),(0:Int),([]:List YB),r9.1,u23.1,(0:Int),([]:List YB),r10.1,(0:Int),(0:Int),(0:Int),())])++[((6:Int),(0:Int),(1:Int),([]:List YB),r11.1,u10.1,u10.2.1,r2.2.1.1,([]:List YB),(0:Int),(0:Int),a1.1,())]),()))) (
 .ob (Dy r2.1 ((6:Int),()) r2.2.1) fun r12=>
 .br (r12.2.2.1 != (0:Int)) (
 .leaf ((r1.1,r1.2.1,u11.1,u11.2.1,(3:Int),u12.2.1,(0:Int),(0:Int),([]:List YB),([]:List YB),(0:Int),([]:List YB),([]:List YB),(0:Int),(0:Int),([]:List YB),([]:List YB),r2.1.1,r2.1.2.1,u23.1,u23.2.1,u24.1,u24.2.1,u25.1,u25.2.1,u26.1,u26.2.1,u27.1,u27.2.1,u28.1,u28.2.1,u29.1,false,(0:Int),(0:Int),(0:Int),false,(0:Int),(0:Int),(0:Int),a1.1,()),(([]:List Aa),()),(((([r5]++[((3:Int),a0.1,(0:Int),r6.1,r7.1,(0:Int),(0:Int),([]:List YB),r8.1,(0:Int),(0:Int),(0:Int),())])++[((10:Int),(0:Int),(0:Int),([]:List YB),r9.1,u23.1,(0:Int),([]:List YB),r10.1,(0:Int),(0:Int),(0:Int),())])++[((6:Int),(0:Int),(1:Int),([]:List YB),r11.1,u10.1,u10.2.1,r2.2.1.1,([]:List YB),(0:Int),(0:Int),a1.1,())]),()))) (
 .ob (A1 (r12.2.1.2.2.2.1,())) fun r13=>
 .ob (En r12.1 r12.2.1) fun r14=>
 .fail))) (
 .br (a2.1 != (5:Int)) (
 .leaf ((r1.1,r1.2.1,u11.1,u11.2.1,(3:Int),u12.2.1,(0:Int),(0:Int),([]:List YB),([]:List YB),(0:Int),([]:List YB),([]:List YB),(0:Int),(0:Int),([]:List YB),([]:List YB),r2.1.1,r2.1.2.1,u23.1,u23.2.1,u24.1,u24.2.1,u25.1,u25.2.1,u26.1,u26.2.1,u27.1,u27.2.1,u28.1,u28.2.1,u29.1,false,(0:Int),(0:Int),(0:Int),false,(0:Int),(0:Int),(0:Int),a1.1,()),(([]:List Aa),()),((([r5]++[((3:Int),a0.1,(0:Int),r6.1,r7.1,(0:Int),(0:Int),([]:List YB),r8.1,(0:Int),(0:Int),(0:Int),())])++[((10:Int),(0:Int),(0:Int),([]:List YB),r9.1,u23.1,(0:Int),([]:List YB),r10.1,(0:Int),(0:Int),(0:Int),())]),()))) (
 .ob (Dy r2.1 ((6:Int),()) r2.2.1) fun r15=>letI u30:=r15.1.2.2.2;letI u31:=u30.2.2.2;letI u32:=u31.2.2.2.2;
 .br (r15.2.2.1 != (0:Int)) (
 .leaf ((r1.1,r1.2.1,u11.1,u11.2.1,(3:Int),u12.2.1,(0:Int),(0:Int),([]:List YB),([]:List YB),(0:Int),([]:List YB),([]:List YB),(0:Int),(0:Int),([]:List YB),([]:List YB),r2.1.1,r2.1.2.1,u23.1,u23.2.1,u24.1,u24.2.1,u25.1,u25.2.1,u26.1,u26.2.1,u27.1,u27.2.1,u28.1,u28.2.1,u29.1,false,(0:Int),(0:Int),(0:Int),false,(0:Int),(0:Int),(0:Int),a1.1,()),(([]:List Aa),()),((([r5]++[((3:Int),a0.1,(0:Int),r6.1,r7.1,(0:Int),(0:Int),([]:List YB),r8.1,(0:Int),(0:Int),(0:Int),())])++[((10:Int),(0:Int),(0:Int),([]:List YB),r9.1,u23.1,(0:Int),([]:List YB),r10.1,(0:Int),(0:Int),(0:Int),())]),()))) (
 .ob (A1 (r15.2.1.2.2.2.1,())) fun r16=>
 .ob (En r15.1 r15.2.1) fun r17=>
 .chk (decide ((([r5]++[((3:Int),a0.1,(0:Int),r6.1,r7.1,(0:Int),(0:Int),([]:List YB),r8.1,(0:Int),(0:Int),(0:Int),())])++[((10:Int),(0:Int),(0:Int),([]:List YB),r9.1,u23.1,(0:Int),([]:List YB),r10.1,(0:Int),(0:Int),(0:Int),())]).length+[r17,((8:Int),(0:Int),(0:Int),([]:List YB),r16.1,r15.2.1.2.2.2.2.2.2.2.1,(0:Int),r2.2.1.1,([]:List YB),(0:Int),(0:Int),(0:Int),())].length≤4294967296)) <|
 .leaf ((r1.1,r1.2.1,u11.1,u11.2.1,(3:Int),u12.2.1,(0:Int),(0:Int),([]:List YB),([]:List YB),(0:Int),([]:List YB),([]:List YB),(0:Int),(0:Int),([]:List YB),([]:List YB),r15.1.1,r15.1.2.1,r15.1.2.2.1,u30.1,u30.2.1,u30.2.2.1,u31.1,u31.2.1,u31.2.2.1,u31.2.2.2.1,u32.1,u32.2.1,u32.2.2.1,u32.2.2.2.1,u32.2.2.2.2.1,false,(0:Int),(0:Int),(0:Int),false,(0:Int),(0:Int),(0:Int),a1.1,()),([r15.2.1],()),(((([r5]++[((3:Int),a0.1,(0:Int),r6.1,r7.1,(0:Int),(0:Int),([]:List YB),r8.1,(0:Int),(0:Int),(0:Int),())])++[((10:Int),(0:Int),(0:Int),([]:List YB),r9.1,u23.1,(0:Int),([]:List YB),r10.1,(0:Int),(0:Int),(0:Int),())])++[r17,((8:Int),(0:Int),(0:Int),([]:List YB),r16.1,r15.2.1.2.2.2.2.2.2.2.1,(0:Int),r2.2.1.1,([]:List YB),(0:Int),(0:Int),(0:Int),())]),())))))) (
 .br (a2.1==(4:Int)) (
 .ob (A1 (u9.1,())) fun r18=>
 .chk (decide (([r5]++[((3:Int),a0.1,(0:Int),r6.1,r7.1,(0:Int),(0:Int),([]:List YB),r8.1,(0:Int),(0:Int),(0:Int),())]).length+[((6:Int),(0:Int),(1:Int),([]:List YB),r18.1,u10.1,u10.2.1,r2.2.1.1,([]:List YB),(0:Int),(0:Int),a1.1,())].length≤4294967296)) <|
 .br (a2.1 != (5:Int)) (
 .leaf ((r1.1,r1.2.1,u11.1,u11.2.1,(3:Int),u12.2.1,(0:Int),(0:Int),([]:List YB),([]:List YB),(0:Int),([]:List YB),([]:List YB),(0:Int),(0:Int),([]:List YB),([]:List YB),r2.1.1,r2.1.2.1,u23.1,u23.2.1,u24.1,u24.2.1,u25.1,u25.2.1,u26.1,u26.2.1,u27.1,u27.2.1,u28.1,u28.2.1,u29.1,false,(0:Int),(0:Int),(0:Int),u21.1,u21.2.1,u22.1,u22.2.1,a1.1,()),(([]:List Aa),()),((([r5]++[((3:Int),a0.1,(0:Int),r6.1,r7.1,(0:Int),(0:Int),([]:List YB),r8.1,(0:Int),(0:Int),(0:Int),())])++[((6:Int),(0:Int),(1:Int),([]:List YB),r18.1,u10.1,u10.2.1,r2.2.1.1,([]:List YB),(0:Int),(0:Int),a1.1,())]),()))) (
 .ob (Dy r2.1 ((6:Int),()) r2.2.1) fun r19=>
 .br (r19.2.2.1 != (0:Int)) (
 .leaf ((r1.1,r1.2.1,u11.1,u11.2.1,(3:Int),u12.2.1,(0:Int),(0:Int),([]:List YB),([]:List YB),(0:Int),([]:List YB),([]:List YB),(0:Int),(0:Int),([]:List YB),([]:List YB),r2.1.1,r2.1.2.1,u23.1,u23.2.1,u24.1,u24.2.1,u25.1,u25.2.1,u26.1,u26.2.1,u27.1,u27.2.1,u28.1,u28.2.1,u29.1,false,(0:Int),(0:Int),(0:Int),u21.1,u21.2.1,u22.1,u22.2.1,a1.1,()),(([]:List Aa),()),((([r5]++[((3:Int),a0.1,(0:Int),r6.1,r7.1,(0:Int),(0:Int),([]:List YB),r8.1,(0:Int),(0:Int),(0:Int),())])++[((6:Int),(0:Int),(1:Int),([]:List YB),r18.1,u10.1,u10.2.1,r2.2.1.1,([]:List YB),(0:Int),(0:Int),a1.1,())]),()))) (
 .ob (A1 (r19.2.1.2.2.2.1,())) fun r20=>
 .ob (En r19.1 r19.2.1) fun r21=>
 .fail))) (
 .br (a2.1 != (5:Int)) (
 .leaf ((r1.1,r1.2.1,u11.1,u11.2.1,(3:Int),u12.2.1,(0:Int),(0:Int),([]:List YB),([]:List YB),(0:Int),([]:List YB),([]:List YB),(0:Int),(0:Int),([]:List YB),([]:List YB),r2.1.1,r2.1.2.1,u23.1,u23.2.1,u24.1,u24.2.1,u25.1,u25.2.1,u26.1,u26.2.1,u27.1,u27.2.1,u28.1,u28.2.1,u29.1,false,(0:Int),(0:Int),(0:Int),u21.1,u21.2.1,u22.1,u22.2.1,a1.1,()),(([]:List Aa),()),(([r5]++[((3:Int),a0.1,(0:Int),r6.1,r7.1,(0:Int),(0:Int),([]:List YB),r8.1,(0:Int),(0:Int),(0:Int),())]),()))) (
 .ob (Dy r2.1 ((6:Int),()) r2.2.1) fun r22=>letI u33:=r22.1.2.2.2;letI u34:=u33.2.2.2;letI u35:=u34.2.2.2.2;
 .br (r22.2.2.1 != (0:Int)) (
 .leaf ((r1.1,r1.2.1,u11.1,u11.2.1,(3:Int),u12.2.1,(0:Int),(0:Int),([]:List YB),([]:List YB),(0:Int),([]:List YB),([]:List YB),(0:Int),(0:Int),([]:List YB),([]:List YB),r2.1.1,r2.1.2.1,u23.1,u23.2.1,u24.1,u24.2.1,u25.1,u25.2.1,u26.1,u26.2.1,u27.1,u27.2.1,u28.1,u28.2.1,u29.1,false,(0:Int),(0:Int),(0:Int),u21.1,u21.2.1,u22.1,u22.2.1,a1.1,()),(([]:List Aa),()),(([r5]++[((3:Int),a0.1,(0:Int),r6.1,r7.1,(0:Int),(0:Int),([]:List YB),r8.1,(0:Int),(0:Int),(0:Int),())]),()))) (
 .ob (A1 (r22.2.1.2.2.2.1,())) fun r23=>
 .ob (En r22.1 r22.2.1) fun r24=>
 .chk (decide (([r5]++[((3:Int),a0.1,(0:Int),r6.1,r7.1,(0:Int),(0:Int),([]:List YB),r8.1,(0:Int),(0:Int),(0:Int),())]).length+[r24,((8:Int),(0:Int),(0:Int),([]:List YB),r23.1,r22.2.1.2.2.2.2.2.2.2.1,(0:Int),r2.2.1.1,([]:List YB),(0:Int),(0:Int),(0:Int),())].length≤4294967296)) <|
 .leaf ((r1.1,r1.2.1,u11.1,u11.2.1,(3:Int),u12.2.1,(0:Int),(0:Int),([]:List YB),([]:List YB),(0:Int),([]:List YB),([]:List YB),(0:Int),(0:Int),([]:List YB),([]:List YB),r22.1.1,r22.1.2.1,r22.1.2.2.1,u33.1,u33.2.1,u33.2.2.1,u34.1,u34.2.1,u34.2.2.1,u34.2.2.2.1,u35.1,u35.2.1,u35.2.2.1,u35.2.2.2.1,u35.2.2.2.2.1,false,(0:Int),(0:Int),(0:Int),u21.1,u21.2.1,u22.1,u22.2.1,a1.1,()),([r22.2.1],()),((([r5]++[((3:Int),a0.1,(0:Int),r6.1,r7.1,(0:Int),(0:Int),([]:List YB),r8.1,(0:Int),(0:Int),(0:Int),())])++[r24,((8:Int),(0:Int),(0:Int),([]:List YB),r23.1,r22.2.1.2.2.2.2.2.2.2.1,(0:Int),r2.2.1.1,([]:List YB),(0:Int),(0:Int),(0:Int),())]),()))))))) (
 .br (u23.1 != u3.1) (
 .ob (A1 (r2.1.2.1,())) fun r25=>
 .ob (A1 (u23.2.1,())) fun r26=>
 .chk (decide ([r5].length+[((10:Int),(0:Int),(0:Int),([]:List YB),r25.1,u23.1,(0:Int),([]:List YB),r26.1,(0:Int),(0:Int),(0:Int),())].length≤4294967296)) <|
 .br (a2.1==(4:Int)) (
 .ob (A1 (u9.1,())) fun r27=>
 .chk (decide (([r5]++[((10:Int),(0:Int),(0:Int),([]:List YB),r25.1,u23.1,(0:Int),([]:List YB),r26.1,(0:Int),(0:Int),(0:Int),())]).length+[((6:Int),(0:Int),(1:Int),([]:List YB),r27.1,u10.1,u10.2.1,r2.2.1.1,([]:List YB),(0:Int),(0:Int),a1.1,())].length≤4294967296)) <|
 .br (a2.1 != (5:Int)) (
 .leaf ((r1.1,r1.2.1,u11.1,u11.2.1,u12.1,u12.2.1,u13.1,u13.2.1,u14.1,u14.2.1,u15.1,u15.2.1,u16.1,u16.2.1,u17.1,u17.2.1,u18.1,r2.1.1,r2.1.2.1,u23.1,u23.2.1,u24.1,u24.2.1,u25.1,u25.2.1,u26.1,u26.2.1,u27.1,u27.2.1,u28.1,u28.2.1,u29.1,u19.1,u19.2.1,u20.1,u20.2.1,false,(0:Int),(0:Int),(0:Int),a1.1,()),(([]:List Aa),()),((([r5]++[((10:Int),(0:Int),(0:Int),([]:List YB),r25.1,u23.1,(0:Int),([]:List YB),r26.1,(0:Int),(0:Int),(0:Int),())])++[((6:Int),(0:Int),(1:Int),([]:List YB),r27.1,u10.1,u10.2.1,r2.2.1.1,([]:List YB),(0:Int),(0:Int),a1.1,())]),()))) (
 .ob (Dy r2.1 ((6:Int),()) r2.2.1) fun r28=>
 .br (r28.2.2.1 != (0:Int)) (
 .leaf ((r1.1,r1.2.1,u11.1,u11.2.1,u12.1,u12.2.1,u13.1,u13.2.1,u14.1,u14.2.1,u15.1,u15.2.1,u16.1,u16.2.1,u17.1,u17.2.1,u18.1,r2.1.1,r2.1.2.1,u23.1,u23.2.1,u24.1,u24.2.1,u25.1,u25.2.1,u26.1,u26.2.1,u27.1,u27.2.1,u28.1,u28.2.1,u29.1,u19.1,u19.2.1,u20.1,u20.2.1,false,(0:Int),(0:Int),(0:Int),a1.1,()),(([]:List Aa),()),((([r5]++[((10:Int),(0:Int),(0:Int),([]:List YB),r25.1,u23.1,(0:Int),([]:List YB),r26.1,(0:Int),(0:Int),(0:Int),())])++[((6:Int),(0:Int),(1:Int),([]:List YB),r27.1,u10.1,u10.2.1,r2.2.1.1,([]:List YB),(0:Int),(0:Int),a1.1,())]),()))) (
 .ob (A1 (r28.2.1.2.2.2.1,())) fun r29=>
 .ob (En r28.1 r28.2.1) fun r30=>
 .fail))) (
 .br (a2.1 != (5:Int)) (
 .leaf ((r1.1,r1.2.1,u11.1,u11.2.1,u12.1,u12.2.1,u13.1,u13.2.1,u14.1,u14.2.1,u15.1,u15.2.1,u16.1,u16.2.1,u17.1,u17.2.1,u18.1,r2.1.1,r2.1.2.1,u23.1,u23.2.1,u24.1,u24.2.1,u25.1,u25.2.1,u26.1,u26.2.1,u27.1,u27.2.1,u28.1,u28.2.1,u29.1,u19.1,u19.2.1,u20.1,u20.2.1,false,(0:Int),(0:Int),(0:Int),a1.1,()),(([]:List Aa),()),(([r5]++[((10:Int),(0:Int),(0:Int),([]:List YB),r25.1,u23.1,(0:Int),([]:List YB),r26.1,(0:Int),(0:Int),(0:Int),())]),()))) (
 .ob (Dy r2.1 ((6:Int),()) r2.2.1) fun r31=>letI u36:=r31.1.2.2.2;letI u37:=u36.2.2.2;letI u38:=u37.2.2.2.2;
 .br (r31.2.2.1 != (0:Int)) (
 .leaf ((r1.1,r1.2.1,u11.1,u11.2.1,u12.1,u12.2.1,u13.1,u13.2.1,u14.1,u14.2.1,u15.1,u15.2.1,u16.1,u16.2.1,u17.1,u17.2.1,u18.1,r2.1.1,r2.1.2.1,u23.1,u23.2.1,u24.1,u24.2.1,u25.1,u25.2.1,u26.1,u26.2.1,u27.1,u27.2.1,u28.1,u28.2.1,u29.1,u19.1,u19.2.1,u20.1,u20.2.1,false,(0:Int),(0:Int),(0:Int),a1.1,()),(([]:List Aa),()),(([r5]++[((10:Int),(0:Int),(0:Int),([]:List YB),r25.1,u23.1,(0:Int),([]:List YB),r26.1,(0:Int),(0:Int),(0:Int),())]),()))) (
 .ob (A1 (r31.2.1.2.2.2.1,())) fun r32=>
 .ob (En r31.1 r31.2.1) fun r33=>
 .chk (decide (([r5]++[((10:Int),(0:Int),(0:Int),([]:List YB),r25.1,u23.1,(0:Int),([]:List YB),r26.1,(0:Int),(0:Int),(0:Int),())]).length+[r33,((8:Int),(0:Int),(0:Int),([]:List YB),r32.1,r31.2.1.2.2.2.2.2.2.2.1,(0:Int),r2.2.1.1,([]:List YB),(0:Int),(0:Int),(0:Int),())].length≤4294967296)) <|
 .leaf ((r1.1,r1.2.1,u11.1,u11.2.1,u12.1,u12.2.1,u13.1,u13.2.1,u14.1,u14.2.1,u15.1,u15.2.1,u16.1,u16.2.1,u17.1,u17.2.1,u18.1,r31.1.1,r31.1.2.1,r31.1.2.2.1,u36.1,u36.2.1,u36.2.2.1,u37.1,u37.2.1,u37.2.2.1,u37.2.2.2.1,u38.1,u38.2.1,u38.2.2.1,u38.2.2.2.1,u38.2.2.2.2.1,u19.1,u19.2.1,u20.1,u20.2.1,false,(0:Int),(0:Int),(0:Int),a1.1,()),([r31.2.1],()),((([r5]++[((10:Int),(0:Int),(0:Int),([]:List YB),r25.1,u23.1,(0:Int),([]:List YB),r26.1,(0:Int),(0:Int),(0:Int),())])++[r33,((8:Int),(0:Int),(0:Int),([]:List YB),r32.1,r31.2.1.2.2.2.2.2.2.2.1,(0:Int),r2.2.1.1,([]:List YB),(0:Int),(0:Int),(0:Int),())]),())))))) (
 .br (a2.1==(4:Int)) (
 .ob (A1 (u9.1,())) fun r34=>
 .chk (decide ([r5].length+[((6:Int),(0:Int),(1:Int),([]:List YB),r34.1,u10.1,u10.2.1,r2.2.1.1,([]:List YB),(0:Int),(0:Int),a1.1,())].length≤4294967296)) <|
 .br (a2.1 != (5:Int)) (
 .leaf ((r1.1,r1.2.1,u11.1,u11.2.1,u12.1,u12.2.1,u13.1,u13.2.1,u14.1,u14.2.1,u15.1,u15.2.1,u16.1,u16.2.1,u17.1,u17.2.1,u18.1,r2.1.1,r2.1.2.1,u23.1,u23.2.1,u24.1,u24.2.1,u25.1,u25.2.1,u26.1,u26.2.1,u27.1,u27.2.1,u28.1,u28.2.1,u29.1,u19.1,u19.2.1,u20.1,u20.2.1,u21.1,u21.2.1,u22.1,u22.2.1,a1.1,()),(([]:List Aa),()),(([r5]++[((6:Int),(0:Int),(1:Int),([]:List YB),r34.1,u10.1,u10.2.1,r2.2.1.1,([]:List YB),(0:Int),(0:Int),a1.1,())]),()))) (
 .ob (Dy r2.1 ((6:Int),()) r2.2.1) fun r35=>
 .br (r35.2.2.1 != (0:Int)) (
 .leaf ((r1.1,r1.2.1,u11.1,u11.2.1,u12.1,u12.2.1,u13.1,u13.2.1,u14.1,u14.2.1,u15.1,u15.2.1,u16.1,u16.2.1,u17.1,u17.2.1,u18.1,r2.1.1,r2.1.2.1,u23.1,u23.2.1,u24.1,u24.2.1,u25.1,u25.2.1,u26.1,u26.2.1,u27.1,u27.2.1,u28.1,u28.2.1,u29.1,u19.1,u19.2.1,u20.1,u20.2.1,u21.1,u21.2.1,u22.1,u22.2.1,a1.1,()),(([]:List Aa),()),(([r5]++[((6:Int),(0:Int),(1:Int),([]:List YB),r34.1,u10.1,u10.2.1,r2.2.1.1,([]:List YB),(0:Int),(0:Int),a1.1,())]),()))) (
 .ob (A1 (r35.2.1.2.2.2.1,())) fun r36=>
 .ob (En r35.1 r35.2.1) fun r37=>
 .fail))) (
 .br (a2.1 != (5:Int)) (
 .leaf ((r1.1,r1.2.1,u11.1,u11.2.1,u12.1,u12.2.1,u13.1,u13.2.1,u14.1,u14.2.1,u15.1,u15.2.1,u16.1,u16.2.1,u17.1,u17.2.1,u18.1,r2.1.1,r2.1.2.1,u23.1,u23.2.1,u24.1,u24.2.1,u25.1,u25.2.1,u26.1,u26.2.1,u27.1,u27.2.1,u28.1,u28.2.1,u29.1,u19.1,u19.2.1,u20.1,u20.2.1,u21.1,u21.2.1,u22.1,u22.2.1,a1.1,()),(([]:List Aa),()),([r5],()))) (
 .ob (Dy r2.1 ((6:Int),()) r2.2.1) fun r38=>letI u39:=r38.1.2.2.2;letI u40:=u39.2.2.2;letI u41:=u40.2.2.2.2;
 .br (r38.2.2.1 != (0:Int)) (
 .leaf ((r1.1,r1.2.1,u11.1,u11.2.1,u12.1,u12.2.1,u13.1,u13.2.1,u14.1,u14.2.1,u15.1,u15.2.1,u16.1,u16.2.1,u17.1,u17.2.1,u18.1,r2.1.1,r2.1.2.1,u23.1,u23.2.1,u24.1,u24.2.1,u25.1,u25.2.1,u26.1,u26.2.1,u27.1,u27.2.1,u28.1,u28.2.1,u29.1,u19.1,u19.2.1,u20.1,u20.2.1,u21.1,u21.2.1,u22.1,u22.2.1,a1.1,()),(([]:List Aa),()),([r5],()))) (
 .ob (A1 (r38.2.1.2.2.2.1,())) fun r39=>
 .ob (En r38.1 r38.2.1) fun r40=>
 .chk (decide ([r5].length+[r40,((8:Int),(0:Int),(0:Int),([]:List YB),r39.1,r38.2.1.2.2.2.2.2.2.2.1,(0:Int),r2.2.1.1,([]:List YB),(0:Int),(0:Int),(0:Int),())].length≤4294967296)) <|
 .leaf ((r1.1,r1.2.1,u11.1,u11.2.1,u12.1,u12.2.1,u13.1,u13.2.1,u14.1,u14.2.1,u15.1,u15.2.1,u16.1,u16.2.1,u17.1,u17.2.1,u18.1,r38.1.1,r38.1.2.1,r38.1.2.2.1,u39.1,u39.2.1,u39.2.2.1,u40.1,u40.2.1,u40.2.2.1,u40.2.2.2.1,u41.1,u41.2.1,u41.2.2.1,u41.2.2.2.1,u41.2.2.2.2.1,u19.1,u19.2.1,u20.1,u20.2.1,u21.1,u21.2.1,u22.1,u22.2.1,a1.1,()),([r38.2.1],()),(([r5]++[r40,((8:Int),(0:Int),(0:Int),([]:List YB),r39.1,r38.2.1.2.2.2.2.2.2.2.1,(0:Int),r2.2.1.1,([]:List YB),(0:Int),(0:Int),(0:Int),())]),()))))))))
def Dn (a0:Ab) (a1:YI) (a2:Aa):Option (Ab×((List Aa)×Unit)×((List Ae)×Unit)):=(Aeq a0 a1 a2).val
def Aer (a0:Ab) (a1:YI) (a2:Aa):Tree (Ab×((List Aa)×Unit)×((List Ae)×Unit)):=
 letI u1:=a0.2.2.2.2;.ob (Iy a0) fun r1=>
 .br (!r1.1) (
 .ob (B8 a0) fun r2=>
 .leaf (r2,(([]:List Aa),()),(([]:List Ae),()))) (
 .ob (A5 a1 ((0:Int),()) ((1000000:Int),())) fun r3=>
 .br (!r3.1) (
 .ob (B8 a0) fun r4=>
 .leaf (r4,(([]:List Aa),()),(([]:List Ae),()))) (
 .ob (Gr a2) fun r5=>
 .br (!r5.1) (
 .ob (B8 a0) fun r6=>
 .leaf (r6,(([]:List Aa),()),(([]:List Ae),()))) (
 .br (a2.1==(2:Int)) (
 .br (u1.1==(1:Int)) (
 .ob (Di (a2.2.2.1,()) (u1.2.1,())) fun r7=>
 .br r7.1 (
 .ob (Qk a0 a1 a2) fun r8=>
 .leaf (r8.1,r8.2.1,r8.2.2)) (
 .ob (Gl (a2.1,())) fun r9=>
 .br r9.1 (
 .br (u1.1==(2:Int)) (
 .ob (Dn a0 a1 a2) fun r10=>
 .leaf (r10.1,r10.2.1,r10.2.2)) (
 .br (u1.1==(3:Int)) (
 .ob (Dn a0 a1 a2) fun r11=>
 .leaf (r11.1,r11.2.1,r11.2.2)) (
 .ob (B8 a0) fun r12=>
 .leaf (r12,(([]:List Aa),()),(([]:List Ae),()))))) (
 .ob (B8 a0) fun r13=>
 .leaf (r13,(([]:List Aa),()),(([]:List Ae),()))))) (
 .ob (Gl (a2.1,())) fun r14=>
 .br r14.1 (
 .br (u1.1==(2:Int)) (
 .ob (Dn a0 a1 a2) fun r15=>
 .leaf (r15.1,r15.2.1,r15.2.2)) (
 .br (u1.1==(3:Int)) (
 .ob (Dn a0 a1 a2) fun r16=>
 .leaf (r16.1,r16.2.1,r16.2.2)) (
 .ob (B8 a0) fun r17=>
 .leaf (r17,(([]:List Aa),()),(([]:List Ae),()))))) (
 .ob (B8 a0) fun r18=>
 .leaf (r18,(([]:List Aa),()),(([]:List Ae),()))))) (
 .ob (Gl (a2.1,())) fun r19=>
 .br r19.1 (
 .br (u1.1==(2:Int)) (
 .ob (Dn a0 a1 a2) fun r20=>
 .leaf (r20.1,r20.2.1,r20.2.2)) (
 .br (u1.1==(3:Int)) (
 .ob (Dn a0 a1 a2) fun r21=>
 .leaf (r21.1,r21.2.1,r21.2.2)) (
 .ob (B8 a0) fun r22=>
 .leaf (r22,(([]:List Aa),()),(([]:List Ae),()))))) (
 .ob (B8 a0) fun r23=>
 .leaf (r23,(([]:List Aa),()),(([]:List Ae),())))))))
def Aes (a0:Ab) (a1:YI) (a2:Aa):Option (Ab×((List Aa)×Unit)×((List Ae)×Unit)):=(Aer a0 a1 a2).val
end
end Go.Proofs.YtjlblagmjlmglaaGreat

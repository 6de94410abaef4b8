/-
  What the functions of the seat answer, as plain terms (printed by a program, proved in the texts P); nothing is assumed.
-/
import Derived.Test.YtmhhajdeafijmaaGreatW0
namespace Go.Proofs.YtmhhajdeafijmaaGreat
open Go.RowKit IntKind
set_option linter.unusedVariables false
set_option maxRecDepth 100000
set_option maxHeartbeats 4000000
noncomputable section
def Pw (a0:A4) (a1:YI) (a2:Bw) (a3:Au) (a4:YBs):Tree (A4×((List Bj)×Unit)×((List A2)×Unit)×(Bool×Unit)):=
 letI u1:=a0.2.2;letI u2:=u1.2.2;letI u3:=u2.2.2;letI u4:=u3.2.2;letI u5:=u4.2.2;letI u6:=u5.2.2;letI u7:=u6.2.2;letI u8:=u7.2.2.2;letI u9:=a3.2.2.2.2.2.2.2;.ob (I7 a0) fun r1=>letI u10:=r1.2.2;letI u11:=u10.2.2.2.2.2.2.2.2.2.2.2.2.2.2.2.2;letI u12:=u11.2.2;letI u13:=u12.2.2.2;
 .ob (Gx a0) fun r2=>
 .br (!r2.1) (
 .leaf (r1,(([]:List Bj),()),(([]:List A2),()),(false,()))) (
 .br u8.2.2.2.2.2.2.1 (
 .leaf (r1,(([]:List Bj),()),(([]:List A2),()),(false,()))) (
 .ob (Mi a2) fun r3=>
 .br (!r3.1) (
 .leaf (r1,(([]:List Bj),()),(([]:List A2),()),(false,()))) (
 .ob (Ld (u1.2.1,u2.1,u2.2.1,u3.1,u3.2.1,u4.1,u4.2.1,u5.1,u5.2.1,u6.1,u6.2.1,u7.1,u7.2.1,u7.2.2.1,u8.1,()) a1 a3) fun r4=>letI u14:=r4.1.2.2;letI u15:=u14.2.2;letI u16:=u15.2.2;letI u17:=u16.2.2;letI u18:=u17.2.2;letI u19:=u18.2.2;letI u20:=u19.2.2;
 .br (r4.2.2.1 != (0:Int)) (
 .leaf (r1,(([]:List Bj),()),(([]:List A2),()),(false,()))) (
 .ob (Uo (u1.2.1,u2.1,u2.2.1,u3.1,u3.2.1,u4.1,u4.2.1,u5.1,u5.2.1,u6.1,u6.2.1,u7.1,u7.2.1,u7.2.2.1,u8.1,()) (u9.1,())) fun r5=>
 .ob (Hm ((0:Int),()) a3) fun r6=>
 .ob (Ana r5.1 (u1.1,()) r6) fun r7=>
 .br (a3.1==(4:Int)) (
 .ob (Bg (u1.1,())) fun r8=>
 .chk (decide ([r7].length+[((6:Int),(0:Int),(0:Int),([]:List YB),r8.1,u9.1,u9.2.1,r4.2.1.1,([]:List YB),(0:Int),(0:Int),a1.1,())].length≤4294967296)) <|
 .ob (Dy (u11.1,u11.2.1,u12.1,()) a1 a2 a4) fun r9=>
 .ob (Ch r4.1 ((5:Int),()) a4) fun r10=>letI u21:=r10.1.2.2.2;letI u22:=u21.2.2.2;letI u23:=u22.2.2.2.2;
 .br (!r9.2.1) (
 .leaf ((r1.1,r1.2.1,u10.1,r4.1.1,r4.1.2.1,u14.1,u14.2.1,u15.1,u15.2.1,u16.1,u16.2.1,u17.1,u17.2.1,u18.1,u18.2.1,u19.1,u19.2.1,u20.1,u11.1,u11.2.1,u12.1,u12.2.1,a1.1,u13.1,()),(([]:List Bj),()),(([r7]++[((6:Int),(0:Int),(0:Int),([]:List YB),r8.1,u9.1,u9.2.1,r4.2.1.1,([]:List YB),(0:Int),(0:Int),a1.1,())]),()),(false,()))) (
 .br (r10.2.2.1 != (0:Int)) (
 .leaf ((r1.1,r1.2.1,u10.1,r4.1.1,r4.1.2.1,u14.1,u14.2.1,u15.1,u15.2.1,u16.1,u16.2.1,u17.1,u17.2.1,u18.1,u18.2.1,u19.1,u19.2.1,u20.1,u11.1,u11.2.1,u12.1,u12.2.1,a1.1,u13.1,()),(([]:List Bj),()),(([r7]++[((6:Int),(0:Int),(0:Int),([]:List YB),r8.1,u9.1,u9.2.1,r4.2.1.1,([]:List YB),(0:Int),(0:Int),a1.1,())]),()),(false,()))) (
 .chk (decide (([]:List Bj).length+[(a2.1,a2.2.1,r10.2.1.1,r10.2.1.2.1,r10.2.1.2.2.1,r10.2.1.2.2.2.1,r10.2.1.2.2.2.2.1,r10.2.1.2.2.2.2.2.1,r10.2.1.2.2.2.2.2.2.1,r10.2.1.2.2.2.2.2.2.2.1,r10.2.1.2.2.2.2.2.2.2.2.1,r10.2.1.2.2.2.2.2.2.2.2.2.1,r10.2.1.2.2.2.2.2.2.2.2.2.2.1,())].length≤4294967296)) <|
 .ob (Fb r10.1 r10.2.1) fun r11=>
 .chk (decide (([r7]++[((6:Int),(0:Int),(0:Int),([]:List YB),r8.1,u9.1,u9.2.1,r4.2.1.1,([]:List YB),(0:Int),(0:Int),a1.1,())]).length+[r11].length≤4294967296)) <|
 .leaf ((r1.1,r1.2.1,u10.1,r10.1.1,r10.1.2.1,r10.1.2.2.1,u21.1,u21.2.1,u21.2.2.1,u22.1,u22.2.1,u22.2.2.1,u22.2.2.2.1,u23.1,u23.2.1,u23.2.2.1,u23.2.2.2.1,u23.2.2.2.2.1,r9.1.1,r9.1.2.1,r9.1.2.2.1,u12.2.1,a1.1,u13.1,()),((([]:List Bj)++[(a2.1,a2.2.1,r10.2.1.1,r10.2.1.2.1,r10.2.1.2.2.1,r10.2.1.2.2.2.1,r10.2.1.2.2.2.2.1,r10.2.1.2.2.2.2.2.1,r10.2.1.2.2.2.2.2.2.1,r10.2.1.2.2.2.2.2.2.2.1,r10.2.1.2.2.2.2.2.2.2.2.1,r10.2.1.2.2.2.2.2.2.2.2.2.1,r10.2.1.2.2.2.2.2.2.2.2.2.2.1,())]),()),((([r7]++[((6:Int),(0:Int),(0:Int),([]:List YB),r8.1,u9.1,u9.2.1,r4.2.1.1,([]:List YB),(0:Int),(0:Int),a1.1,())])++[r11]),()),(true,()))))) (
 .br (a3.1==(6:Int)) (
 .ob (Uq (u8.2.1,u8.2.2.1,u8.2.2.2.1,()) a1 a2 r4.2.1) fun r12=>
 .br r12.2.1 (
 .ob (Bg (u1.1,())) fun r13=>
 .chk (decide ([r7].length+[((9:Int),(0:Int),(0:Int),([]:List YB),r13.1,(0:Int),(0:Int),r4.2.1.1,([]:List YB),a2.1,a2.2.1,a1.1,())].length≤4294967296)) <|
 .ob (Dy r12.1 a1 a2 a4) fun r14=>
 .ob (Ch r4.1 ((5:Int),()) a4) fun r15=>letI u24:=r15.1.2.2.2;letI u25:=u24.2.2.2;letI u26:=u25.2.2.2.2;
 .br (!r14.2.1) (
 .leaf ((r1.1,r1.2.1,u10.1,r4.1.1,r4.1.2.1,u14.1,u14.2.1,u15.1,u15.2.1,u16.1,u16.2.1,u17.1,u17.2.1,u18.1,u18.2.1,u19.1,u19.2.1,u20.1,r12.1.1,r12.1.2.1,r12.1.2.2.1,u12.2.1,a1.1,u13.1,()),(([]:List Bj),()),(([r7]++[((9:Int),(0:Int),(0:Int),([]:List YB),r13.1,(0:Int),(0:Int),r4.2.1.1,([]:List YB),a2.1,a2.2.1,a1.1,())]),()),(false,()))) (
 .br (r15.2.2.1 != (0:Int)) (
 .leaf ((r1.1,r1.2.1,u10.1,r4.1.1,r4.1.2.1,u14.1,u14.2.1,u15.1,u15.2.1,u16.1,u16.2.1,u17.1,u17.2.1,u18.1,u18.2.1,u19.1,u19.2.1,u20.1,r12.1.1,r12.1.2.1,r12.1.2.2.1,u12.2.1,a1.1,u13.1,()),(([]:List Bj),()),(([r7]++[((9:Int),(0:Int),(0:Int),([]:List YB),r13.1,(0:Int),(0:Int),r4.2.1.1,([]:List YB),a2.1,a2.2.1,a1.1,())]),()),(false,()))) (
 .chk (decide (([]:List Bj).length+[(a2.1,a2.2.1,r15.2.1.1,r15.2.1.2.1,r15.2.1.2.2.1,r15.2.1.2.2.2.1,r15.2.1.2.2.2.2.1,r15.2.1.2.2.2.2.2.1,r15.2.1.2.2.2.2.2.2.1,r15.2.1.2.2.2.2.2.2.2.1,r15.2.1.2.2.2.2.2.2.2.2.1,r15.2.1.2.2.2.2.2.2.2.2.2.1,r15.2.1.2.2.2.2.2.2.2.2.2.2.1,())].length≤4294967296)) <|
 .ob (Fb r15.1 r15.2.1) fun r16=>
 .chk (decide (([r7]++[((9:Int),(0:Int),(0:Int),([]:List YB),r13.1,(0:Int),(0:Int),r4.2.1.1,([]:List YB),a2.1,a2.2.1,a1.1,())]).length+[r16].length≤4294967296)) <|
 .leaf ((r1.1,r1.2.1,u10.1,r15.1.1,r15.1.2.1,r15.1.2.2.1,u24.1,u24.2.1,u24.2.2.1,u25.1,u25.2.1,u25.2.2.1,u25.2.2.2.1,u26.1,u26.2.1,u26.2.2.1,u26.2.2.2.1,u26.2.2.2.2.1,r14.1.1,r14.1.2.1,r14.1.2.2.1,u12.2.1,a1.1,u13.1,()),((([]:List Bj)++[(a2.1,a2.2.1,r15.2.1.1,r15.2.1.2.1,r15.2.1.2.2.1,r15.2.1.2.2.2.1,r15.2.1.2.2.2.2.1,r15.2.1.2.2.2.2.2.1,r15.2.1.2.2.2.2.2.2.1,r15.2.1.2.2.2.2.2.2.2.1,r15.2.1.2.2.2.2.2.2.2.2.1,r15.2.1.2.2.2.2.2.2.2.2.2.1,r15.2.1.2.2.2.2.2.2.2.2.2.2.1,())]),()),((([r7]++[((9:Int),(0:Int),(0:Int),([]:List YB),r13.1,(0:Int),(0:Int),r4.2.1.1,([]:List YB),a2.1,a2.2.1,a1.1,())])++[r16]),()),(true,()))))) (
 .ob (Dy (u11.1,u11.2.1,u12.1,()) a1 a2 a4) fun r17=>
 .ob (Ch r4.1 ((5:Int),()) a4) fun r18=>letI u27:=r18.1.2.2.2;letI u28:=u27.2.2.2;letI u29:=u28.2.2.2.2;
 .br (!r17.2.1) (
 .leaf ((r1.1,r1.2.1,u10.1,r4.1.1,r4.1.2.1,u14.1,u14.2.1,u15.1,u15.2.1,u16.1,u16.2.1,u17.1,u17.2.1,u18.1,u18.2.1,u19.1,u19.2.1,u20.1,u11.1,u11.2.1,u12.1,u12.2.1,a1.1,u13.1,()),(([]:List Bj),()),([r7],()),(false,()))) (
 .br (r18.2.2.1 != (0:Int)) (
 .leaf ((r1.1,r1.2.1,u10.1,r4.1.1,r4.1.2.1,u14.1,u14.2.1,u15.1,u15.2.1,u16.1,u16.2.1,u17.1,u17.2.1,u18.1,u18.2.1,u19.1,u19.2.1,u20.1,u11.1,u11.2.1,u12.1,u12.2.1,a1.1,u13.1,()),(([]:List Bj),()),([r7],()),(false,()))) (
 .chk (decide (([]:List Bj).length+[(a2.1,a2.2.1,r18.2.1.1,r18.2.1.2.1,r18.2.1.2.2.1,r18.2.1.2.2.2.1,r18.2.1.2.2.2.2.1,r18.2.1.2.2.2.2.2.1,r18.2.1.2.2.2.2.2.2.1,r18.2.1.2.2.2.2.2.2.2.1,r18.2.1.2.2.2.2.2.2.2.2.1,r18.2.1.2.2.2.2.2.2.2.2.2.1,r18.2.1.2.2.2.2.2.2.2.2.2.2.1,())].length≤4294967296)) <|
 .ob (Fb r18.1 r18.2.1) fun r19=>
 .chk (decide ([r7].length+[r19].length≤4294967296)) <|
 .leaf ((r1.1,r1.2.1,u10.1,r18.1.1,r18.1.2.1,r18.1.2.2.1,u27.1,u27.2.1,u27.2.2.1,u28.1,u28.2.1,u28.2.2.1,u28.2.2.2.1,u29.1,u29.2.1,u29.2.2.1,u29.2.2.2.1,u29.2.2.2.2.1,r17.1.1,r17.1.2.1,r17.1.2.2.1,u12.2.1,a1.1,u13.1,()),((([]:List Bj)++[(a2.1,a2.2.1,r18.2.1.1,r18.2.1.2.1,r18.2.1.2.2.1,r18.2.1.2.2.2.1,r18.2.1.2.2.2.2.1,r18.2.1.2.2.2.2.2.1,r18.2.1.2.2.2.2.2.2.1,r18.2.1.2.2.2.2.2.2.2.1,r18.2.1.2.2.2.2.2.2.2.2.1,r18.2.1.2.2.2.2.2.2.2.2.2.1,r18.2.1.2.2.2.2.2.2.2.2.2.2.1,())]),()),(([r7]++[r19]),()),(true,())))))) (
 .br (a3.1==(7:Int)) (
 .ob (Agw (r1.1,r1.2.1,u10.1,r4.1.1,r4.1.2.1,u14.1,u14.2.1,u15.1,u15.2.1,u16.1,u16.2.1,u17.1,u17.2.1,u18.1,u18.2.1,u19.1,u19.2.1,u20.1,u11.1,u11.2.1,u12.1,u12.2.1,a1.1,u13.1,()) (u9.1,()) r4.2.1) fun r20=>letI u30:=r20.1.2.2.2;letI u31:=u30.2.2.2;letI u32:=u31.2.2.2;letI u33:=u32.2.2.2;letI u34:=u33.2.2.2;letI u35:=u34.2.2.2.2;
 .chk (decide (([]:List Bj).length+r20.2.1.1.length≤4294967296)) <|
 .chk (decide ([r7].length+r20.2.2.1.length≤4294967296)) <|
 .ob (Dy (u34.2.2.2.1,u35.1,u35.2.1,()) a1 a2 a4) fun r21=>
 .ob (Ch (u30.1,u30.2.1,u30.2.2.1,u31.1,u31.2.1,u31.2.2.1,u32.1,u32.2.1,u32.2.2.1,u33.1,u33.2.1,u33.2.2.1,u34.1,u34.2.1,u34.2.2.1,()) ((5:Int),()) a4) fun r22=>letI u36:=r22.1.2.2.2;letI u37:=u36.2.2.2;letI u38:=u37.2.2.2.2;
 .br (!r21.2.1) (
 .leaf (r20.1,((([]:List Bj)++r20.2.1.1),()),(([r7]++r20.2.2.1),()),(false,()))) (
 .br (r22.2.2.1 != (0:Int)) (
 .leaf (r20.1,((([]:List Bj)++r20.2.1.1),()),(([r7]++r20.2.2.1),()),(false,()))) (
 .chk (decide ((([]:List Bj)++r20.2.1.1).length+[(a2.1,a2.2.1,r22.2.1.1,r22.2.1.2.1,r22.2.1.2.2.1,r22.2.1.2.2.2.1,r22.2.1.2.2.2.2.1,r22.2.1.2.2.2.2.2.1,r22.2.1.2.2.2.2.2.2.1,r22.2.1.2.2.2.2.2.2.2.1,r22.2.1.2.2.2.2.2.2.2.2.1,r22.2.1.2.2.2.2.2.2.2.2.2.1,r22.2.1.2.2.2.2.2.2.2.2.2.2.1,())].length≤4294967296)) <|
 .ob (Fb r22.1 r22.2.1) fun r23=>
 .chk (decide (([r7]++r20.2.2.1).length+[r23].length≤4294967296)) <|
 .leaf ((r20.1.1,r20.1.2.1,r20.1.2.2.1,r22.1.1,r22.1.2.1,r22.1.2.2.1,u36.1,u36.2.1,u36.2.2.1,u37.1,u37.2.1,u37.2.2.1,u37.2.2.2.1,u38.1,u38.2.1,u38.2.2.1,u38.2.2.2.1,u38.2.2.2.2.1,r21.1.1,r21.1.2.1,r21.1.2.2.1,u35.2.2.1,u35.2.2.2.1,u35.2.2.2.2.1,()),(((([]:List Bj)++r20.2.1.1)++[(a2.1,a2.2.1,r22.2.1.1,r22.2.1.2.1,r22.2.1.2.2.1,r22.2.1.2.2.2.1,r22.2.1.2.2.2.2.1,r22.2.1.2.2.2.2.2.1,r22.2.1.2.2.2.2.2.2.1,r22.2.1.2.2.2.2.2.2.2.1,r22.2.1.2.2.2.2.2.2.2.2.1,r22.2.1.2.2.2.2.2.2.2.2.2.1,r22.2.1.2.2.2.2.2.2.2.2.2.2.1,())]),()),((([r7]++r20.2.2.1)++[r23]),()),(true,()))))) (
 .ob (Dy (u11.1,u11.2.1,u12.1,()) a1 a2 a4) fun r24=>
 .ob (Ch r4.1 ((5:Int),()) a4) fun r25=>letI u39:=r25.1.2.2.2;letI u40:=u39.2.2.2;letI u41:=u40.2.2.2.2;
 .br (!r24.2.1) (
 .leaf ((r1.1,r1.2.1,u10.1,r4.1.1,r4.1.2.1,u14.1,u14.2.1,u15.1,u15.2.1,u16.1,u16.2.1,u17.1,u17.2.1,u18.1,u18.2.1,u19.1,u19.2.1,u20.1,u11.1,u11.2.1,u12.1,u12.2.1,a1.1,u13.1,()),(([]:List Bj),()),([r7],()),(false,()))) (
 .br (r25.2.2.1 != (0:Int)) (
 .leaf ((r1.1,r1.2.1,u10.1,r4.1.1,r4.1.2.1,u14.1,u14.2.1,u15.1,u15.2.1,u16.1,u16.2.1,u17.1,u17.2.1,u18.1,u18.2.1,u19.1,u19.2.1,u20.1,u11.1,u11.2.1,u12.1,u12.2.1,a1.1,u13.1,()),(([]:List Bj),()),([r7],()),(false,()))) (
 .chk (decide (([]:List Bj).length+[(a2.1,a2.2.1,r25.2.1.1,r25.2.1.2.1,r25.2.1.2.2.1,r25.2.1.2.2.2.1,r25.2.1.2.2.2.2.1,r25.2.1.2.2.2.2.2.1,r25.2.1.2.2.2.2.2.2.1,r25.2.1.2.2.2.2.2.2.2.1,r25.2.1.2.2.2.2.2.2.2.2.1,r25.2.1.2.2.2.2.2.2.2.2.2.1,r25.2.1.2.2.2.2.2.2.2.2.2.2.1,())].length≤4294967296)) <|
 .ob (Fb r25.1 r25.2.1) fun r26=>
 .chk (decide ([r7].length+[r26].length≤4294967296)) <|
 .leaf ((r1.1,r1.2.1,u10.1,r25.1.1,r25.1.2.1,r25.1.2.2.1,u39.1,u39.2.1,u39.2.2.1,u40.1,u40.2.1,u40.2.2.1,u40.2.2.2.1,u41.1,u41.2.1,u41.2.2.1,u41.2.2.2.1,u41.2.2.2.2.1,r24.1.1,r24.1.2.1,r24.1.2.2.1,u12.2.1,a1.1,u13.1,()),((([]:List Bj)++[(a2.1,a2.2.1,r25.2.1.1,r25.2.1.2.1,r25.2.1.2.2.1,r25.2.1.2.2.2.1,r25.2.1.2.2.2.2.1,r25.2.1.2.2.2.2.2.1,r25.2.1.2.2.2.2.2.2.1,r25.2.1.2.2.2.2.2.2.2.1,r25.2.1.2.2.2.2.2.2.2.2.1,r25.2.1.2.2.2.2.2.2.2.2.2.1,r25.2.1.2.2.2.2.2.2.2.2.2.2.1,())]),()),(([r7]++[r26]),()),(true,())))))))))))
def Jf (a0:A4) (a1:YI) (a2:Bw) (a3:Au) (a4:YBs):Option (A4×((List Bj)×Unit)×((List A2)×Unit)×(Bool×Unit)):=(Pw a0 a1 a2 a3 a4).val
def Px (x1:(List YB)×(List YB)×Int×Int×Unit):Option (((List YB)×(List YB)×Int×Int×Unit)⊕(YI)):=
 letI u1:=x1.2.2;Tree.val (α:=((List YB)×(List YB)×Int×Int×Unit)⊕(YI)) <|
 .br (decide (u1.2.1<(x1.1.length:Int))) (
 .ob (idx x1.1 u1.2.1) fun e2=>
 .ob (idx x1.2.1 u1.2.1) fun e3=>
 .leaf (.inl (x1.1,x1.2.1,(i64.wrap ((BitVec.ofInt (i64.bits) (u1.1) ||| BitVec.ofInt (i64.bits) ((i64.wrap ((u8.wrap ((BitVec.ofInt (u8.bits) (e2.1) ^^^ BitVec.ofInt (u8.bits) (e3.1)).toNat:Nat)))))).toNat:Nat)),(i64.wrap (u1.2.1+(1:Int))),()))) (
 .leaf (.inr (u1.1,())))
def Anh (a0:YBs) (a1:YBs):Tree (YI):=
 .br ((a0.1.length:Int) != (a1.1.length:Int)) (
 .leaf ((-1:Int),())) (
 .ob (Ay Px (a0.1,a1.1,(0:Int),(0:Int),())) fun o4=>
 .leaf o4)
def Ani (a0:YBs) (a1:YBs):Option (YI):=(Anh a0 a1).val
def Aai (a0:YBs) (a1:YBs):Tree ((Bool×Unit)):=
 .br ((a0.1.length:Int)==(16:Int)) (
 .ob (Ani a0 a1) fun r1=>
 .leaf ((r1.1==(0:Int)),())) (
 .leaf (false,()))
def Aaj (a0:YBs) (a1:YBs):Option ((Bool×Unit)):=(Aai a0 a1).val
def Aex (a0:YBs) (a1:YI) (a2:Au):Tree (YBs×(Bool×Unit)):=
 letI u1:=a2.2.2.2.2.2.2.2;.ob (Hl a1 a2) fun r1=>
 .br ((a0.1.length:Int) != (32:Int)) (
 .leaf ((([]:List YB),()),(false,()))) (
 .br ((r1.1.length:Int)==(0:Int)) (
 .leaf ((([]:List YB),()),(false,()))) (
 .ob (Abp a0 r1) fun r2=>
 .ob (Aaj (u1.2.2.2.1,()) r2) fun r3=>
 .br (!r3.1) (
 .leaf ((([]:List YB),()),(false,()))) (
 .ob (Mf a1 (a2.2.2.2.1,()) (u1.1,()) (u1.2.1,())) fun r4=>
 .ob (Aku a0 r4 (u1.2.2.1,())) fun r5=>
 .leaf (r5,(true,())))))
def Aey (a0:YBs) (a1:YI) (a2:Au):Option (YBs×(Bool×Unit)):=(Aex a0 a1 a2).val
def Aez (a0:YEp) (a1:YI) (a2:Au):Tree (YEp×YBs×YI):=
 letI u1:=a0.2.2.2;letI u2:=a2.2.2.2.2.2.2.2;.ob (Me a0) fun r1=>
 .ob (N7 a0) fun r2=>
 .br (!r2.1) (
 .leaf (r1,(([]:List YB),()),((1:Int),()))) (
 .ob (Hl a1 a2) fun r3=>
 .br ((r3.1.length:Int)==(0:Int)) (
 .leaf (r1,(([]:List YB),()),((1:Int),()))) (
 .br (u2.1 != a0.1) (
 .leaf (r1,(([]:List YB),()),((1:Int),()))) (
 .ob (Uk (u1.1,u1.2.1,()) (u2.2.1,())) fun r4=>
 .br (!r4.1) (
 .leaf (r1,(([]:List YB),()),((3:Int),()))) (
 .ob (Aey (a0.2.1,()) a1 a2) fun r5=>
 .br (!r5.2.1) (
 .leaf (r1,(([]:List YB),()),((2:Int),()))) (
 .ob (Ph (u1.1,u1.2.1,()) (u2.2.1,())) fun r6=>
 .leaf ((r1.1,r1.2.1,r1.2.2.1,r6.1.1,r6.1.2.1,()),r5.1,((0:Int),())))))))
def H8 (a0:YEp) (a1:YI) (a2:Au):Option (YEp×YBs×YI):=(Aez a0 a1 a2).val
def Py (a0:Aj) (a1:YI) (a2:Au):Tree (Aj×YBs×YI):=
 letI u1:=a0.2.2;letI u2:=u1.2.2;letI u3:=u2.2.2.2;letI u4:=u3.2.2;letI u5:=u4.2.2;letI u6:=u5.2.2;letI u7:=a2.2.2.2.2.2.2.2;.ob (Fy a0) fun r1=>letI u8:=r1.2.2;letI u9:=u8.2.2;letI u10:=u9.2.2;letI u11:=u10.2.2;letI u12:=u11.2.2;letI u13:=u12.2.2;letI u14:=u13.2.2;
 .ob (Gw a0) fun r2=>
 .br (!r2.1) (
 .leaf (r1,(([]:List YB),()),((1:Int),()))) (
 .ob (Bk a1 ((0:Int),()) ((1000000:Int),())) fun r3=>
 .br (!r3.1) (
 .leaf (r1,(([]:List YB),()),((1:Int),()))) (
 .ob (Kk a2) fun r4=>
 .br (!r4.1) (
 .leaf (r1,(([]:List YB),()),((1:Int),()))) (
 .ob (Jz (a2.1,())) fun r5=>
 .br (!r5.1) (
 .leaf (r1,(([]:List YB),()),((1:Int),()))) (
 .ob (Pj (a2.2.2.2.1,()) (a0.2.1,())) fun r6=>
 .br (!r6.1) (
 .leaf (r1,(([]:List YB),()),((8:Int),()))) (
 .br (u7.1==u1.1) (
 .ob (H8 (u1.1,u1.2.1,u2.1,u2.2.1,u2.2.2.1,()) ((i64.wrap ((1:Int)-a0.1)),()) a2) fun r7=>letI u15:=r7.1.2.2;
 .br (r7.2.2.1 != (0:Int)) (
 .leaf (r1,(([]:List YB),()),r7.2.2)) (
 .br u5.2.1 (
 .br (u6.1==(-1:Int)) (
 .leaf ((r1.1,r1.2.1,r7.1.1,r7.1.2.1,u15.1,u15.2.1,u15.2.2.1,u10.2.1,u11.1,u11.2.1,u12.1,u12.2.1,u13.1,(i64.wrap (a1.1+(5:Int))),u14.1,()),r7.2.1,((0:Int),()))) (
 .leaf ((r1.1,r1.2.1,r7.1.1,r7.1.2.1,u15.1,u15.2.1,u15.2.2.1,u10.2.1,u11.1,u11.2.1,u12.1,u12.2.1,u13.1,u13.2.1,u14.1,()),r7.2.1,((0:Int),())))) (
 .leaf ((r1.1,r1.2.1,r7.1.1,r7.1.2.1,u15.1,u15.2.1,u15.2.2.1,u10.2.1,u11.1,u11.2.1,u12.1,u12.2.1,u13.1,u13.2.1,u14.1,()),r7.2.1,((0:Int),()))))) (
 .br u5.2.1 (
 .br (u7.1==u3.1) (
 .br (u6.1 != (-1:Int)) (
 .br (decide (a1.1>u6.1)) (
 .leaf (r1,(([]:List YB),()),((9:Int),()))) (
 .ob (H8 (u3.1,u3.2.1,u4.1,u4.2.1,u5.1,()) ((i64.wrap ((1:Int)-a0.1)),()) a2) fun r8=>
 .br (r8.2.2.1 != (0:Int)) (
 .leaf (r1,(([]:List YB),()),r8.2.2)) (
 .leaf ((r1.1,r1.2.1,u8.1,u8.2.1,u9.1,u9.2.1,u10.1,r8.1.1,r8.1.2.1,r8.1.2.2.1,r8.1.2.2.2.1,r8.1.2.2.2.2.1,u13.1,u13.2.1,u14.1,()),r8.2.1,((0:Int),()))))) (
 .ob (H8 (u3.1,u3.2.1,u4.1,u4.2.1,u5.1,()) ((i64.wrap ((1:Int)-a0.1)),()) a2) fun r9=>
 .br (r9.2.2.1 != (0:Int)) (
 .leaf (r1,(([]:List YB),()),r9.2.2)) (
 .leaf ((r1.1,r1.2.1,u8.1,u8.2.1,u9.1,u9.2.1,u10.1,r9.1.1,r9.1.2.1,r9.1.2.2.1,r9.1.2.2.2.1,r9.1.2.2.2.2.1,u13.1,u13.2.1,u14.1,()),r9.2.1,((0:Int),()))))) (
 .br (decide ((a0.2.2.2.2.2.2.2.2.2.2.2.2.2.2.1.length:Int)>(0:Int))) (
 .br (u7.1==(i64.wrap (u1.1+(1:Int)))) (
 .ob (Dx ((i64.wrap (u1.1+(1:Int))),()) (u6.2.1,())) fun r10=>
 .ob (H8 r10 ((i64.wrap ((1:Int)-a0.1)),()) a2) fun r11=>
 .br (r11.2.2.1 != (0:Int)) (
 .leaf (r1,(([]:List YB),()),r11.2.2)) (
 .leaf ((r1.1,r1.2.1,r11.1.1,r11.1.2.1,r11.1.2.2.1,r11.1.2.2.2.1,r11.1.2.2.2.2.1,u8.1,u8.2.1,u9.1,u9.2.1,u10.1,true,(i64.wrap (a1.1+(5:Int))),([]:List YB),()),r11.2.1,((0:Int),())))) (
 .leaf (r1,(([]:List YB),()),((8:Int),())))) (
 .leaf (r1,(([]:List YB),()),((8:Int),()))))) (
 .br (decide ((a0.2.2.2.2.2.2.2.2.2.2.2.2.2.2.1.length:Int)>(0:Int))) (
 .br (u7.1==(i64.wrap (u1.1+(1:Int)))) (
 .ob (Dx ((i64.wrap (u1.1+(1:Int))),()) (u6.2.1,())) fun r12=>
 .ob (H8 r12 ((i64.wrap ((1:Int)-a0.1)),()) a2) fun r13=>
 .br (r13.2.2.1 != (0:Int)) (
 .leaf (r1,(([]:List YB),()),r13.2.2)) (
 .leaf ((r1.1,r1.2.1,r13.1.1,r13.1.2.1,r13.1.2.2.1,r13.1.2.2.2.1,r13.1.2.2.2.2.1,u8.1,u8.2.1,u9.1,u9.2.1,u10.1,true,(i64.wrap (a1.1+(5:Int))),([]:List YB),()),r13.2.1,((0:Int),())))) (
 .leaf (r1,(([]:List YB),()),((8:Int),())))) (
 .leaf (r1,(([]:List YB),()),((8:Int),()))))))))))
def Hn (a0:Aj) (a1:YI) (a2:Au):Option (Aj×YBs×YI):=(Py a0 a1 a2).val
def Ae0 (a0:Aj) (a1:YI):Tree (YBs×(Bool×Unit)):=
 letI u1:=a0.2.2;letI u2:=u1.2.2.2.2.2;letI u3:=u2.2.2.2.2.2;.ob (Gw a0) fun r1=>
 .br (!r1.1) (
 .leaf ((([]:List YB),()),(false,()))) (
 .br u3.1 (
 .br (a1.1==u2.1) (
 .chk (decide (([]:List YB).length+a0.2.2.2.2.2.2.2.2.1.length≤4294967296)) <|
 .leaf (((([]:List YB)++u2.2.1),()),(true,()))) (
 .br (a1.1==u1.1) (
 .chk (decide (([]:List YB).length+a0.2.2.2.1.length≤4294967296)) <|
 .leaf (((([]:List YB)++u1.2.1),()),(true,()))) (
 .br (decide ((a0.2.2.2.2.2.2.2.2.2.2.2.2.2.2.1.length:Int)>(0:Int))) (
 .br (a1.1==(i64.wrap (u1.1+(1:Int)))) (
 .chk (decide (([]:List YB).length+a0.2.2.2.2.2.2.2.2.2.2.2.2.2.2.1.length≤4294967296)) <|
 .leaf (((([]:List YB)++u3.2.2.1),()),(true,()))) (
 .leaf ((([]:List YB),()),(false,())))) (
 .leaf ((([]:List YB),()),(false,())))))) (
 .br (a1.1==u1.1) (
 .chk (decide (([]:List YB).length+a0.2.2.2.1.length≤4294967296)) <|
 .leaf (((([]:List YB)++u1.2.1),()),(true,()))) (
 .br (decide ((a0.2.2.2.2.2.2.2.2.2.2.2.2.2.2.1.length:Int)>(0:Int))) (
 .br (a1.1==(i64.wrap (u1.1+(1:Int)))) (
 .chk (decide (([]:List YB).length+a0.2.2.2.2.2.2.2.2.2.2.2.2.2.2.1.length≤4294967296)) <|
 .leaf (((([]:List YB)++u3.2.2.1),()),(true,()))) (
 .leaf ((([]:List YB),()),(false,())))) (
 .leaf ((([]:List YB),()),(false,()))))))
def Us (a0:Aj) (a1:YI):Option (YBs×(Bool×Unit)):=(Ae0 a0 a1).val
def Anj (a0:YBs) (a1:YBs) (a2:YBs):Tree (A2):=
 .chk (decide (([]:List YB).length+a0.1.length≤4294967296)) <|
 .chk (decide (([]:List YB).length+a1.1.length≤4294967296)) <|
 .chk (decide (([]:List YB).length+a2.1.length≤4294967296)) <|
 .leaf ((16:Int),(0:Int),(0:Int),([]:List YB),(([]:List YB)++a1.1),(0:Int),(0:Int),(([]:List YB)++a2.1),(([]:List YB)++a0.1),(0:Int),(0:Int),(0:Int),())
def Ank (a0:YBs) (a1:YBs) (a2:YBs):Option (A2):=(Anj a0 a1 a2).val
def Jg (x2:Int×Int×Int×(List Am)×Int×Int×Int×Int×(List YB)×Int×Unit):Option ((Int×Int×Int×(List Am)×Int×Int×Int×Int×(List YB)×Int×Unit)⊕((Bool×Int×Int×(List YB)×Int×Unit)⊕Am)):=
 letI u1:=x2.2.2.2;letI u2:=u1.2.2;letI u3:=u2.2.2;Tree.val (α:=(Int×Int×Int×(List Am)×Int×Int×Int×Int×(List YB)×Int×Unit)⊕((Bool×Int×Int×(List YB)×Int×Unit)⊕Am)) <|
 .br (decide (x2.1<(x2.2.2.2.1.length:Int))) (
 .ob (idx u1.1 x2.1) fun e3=>
 .br (and (e3.1==u1.2.1) (and (e3.2.1==u2.1) true)) (
 .ob (idx u1.1 x2.1) fun e4=>
 .ob (Ko e4) fun r5=>
 .leaf (.inr (.inl (true,r5.1,r5.2.1,r5.2.2.1,r5.2.2.2.1,())))) (
 .leaf (.inl ((i64.wrap (x2.1+(1:Int))),x2.2.1,x2.2.2.1,u1.1,u1.2.1,u2.1,u2.2.1,u3.1,u3.2.1,u3.2.2.1,())))) (
 .leaf (.inr (.inr (u2.2.1,u3.1,u3.2.1,u3.2.2.1,()))))
def Ae1 (a0:A7) (a1:Bw):Tree (Am×(Bool×Unit)):=
 .ob (Kn a0) fun r1=>
 .br (!r1.1) (
 .leaf (((0:Int),(0:Int),([]:List YB),(0:Int),()),(false,()))) (
 .ob (Ay Jg ((0:Int),a0.1,a0.2.1,a0.2.2.1,a1.1,a1.2.1,(0:Int),(0:Int),([]:List YB),(0:Int),())) fun o6=>
 .sm o6 (fun o7=>
 .leaf ((o7.2.1,o7.2.2.1,o7.2.2.2.1,o7.2.2.2.2.1,()),(o7.1,()))) (fun o8=>
 .leaf (((0:Int),(0:Int),([]:List YB),(0:Int),()),(false,()))))
def Ao1 (a0:A7) (a1:Bw):Option (Am×(Bool×Unit)):=(Ae1 a0 a1).val
def Jh (x8:Int×Int×Int×(List Am)×Int×Int×Int×Int×(List Am)×Int×Int×(List Am)×Unit):Option ((Int×Int×Int×(List Am)×Int×Int×Int×Int×(List Am)×Int×Int×(List Am)×Unit)⊕((Int×Int×(List Am)×Int×Int×(List Am)×Unit))):=
 letI u1:=x8.2.2.2;letI u2:=u1.2.2;letI u3:=u2.2.2;letI u4:=u3.2.2;Tree.val (α:=(Int×Int×Int×(List Am)×Int×Int×Int×Int×(List Am)×Int×Int×(List Am)×Unit)⊕((Int×Int×(List Am)×Int×Int×(List Am)×Unit))) <|
 .br (decide (x8.1<(x8.2.2.2.1.length:Int))) (
 .ob (idx u1.1 x8.1) fun e9=>
 .br (!(and (e9.1==u1.2.1) (and (e9.2.1==u2.1) true))) (
 .ob (idx u1.1 x8.1) fun e10=>
 .ob (Ko e10) fun r11=>
 .chk (decide (x8.2.2.2.2.2.2.2.2.2.2.2.1.length+[r11].length≤4294967296)) <|
 .leaf (.inl ((i64.wrap (x8.1+(1:Int))),x8.2.1,x8.2.2.1,u1.1,u1.2.1,u2.1,u2.2.1,u3.1,u3.2.1,u4.1,u4.2.1,(u4.2.2.1++[r11]),()))) (
 .leaf (.inl ((i64.wrap (x8.1+(1:Int))),x8.2.1,x8.2.2.1,u1.1,u1.2.1,u2.1,u2.2.1,u3.1,u3.2.1,u4.1,u4.2.1,u4.2.2.1,())))) (
 .leaf (.inr (u2.2.1,u3.1,u3.2.1,u4.1,u4.2.1,u4.2.2.1,())))
def Ae2 (a0:A7) (a1:YI) (a2:Bw) (a3:YBs):Tree (A7×(Bool×Unit)):=
 .ob (Ao1 a0 a2) fun r1=>
 .br (!r1.2.1) (
 .ob (Ct a0) fun r2=>
 .leaf (r2,(false,()))) (
 .ob (Bk a1 ((0:Int),()) ((1000000:Int),())) fun r3=>
 .br (!r3.1) (
 .ob (Ct a0) fun r4=>
 .leaf (r4,(false,()))) (
 .ob (Pj (r1.1.2.2.1,()) a3) fun r5=>
 .br (!r5.1) (
 .ob (Ct a0) fun r6=>
 .leaf (r6,(false,()))) (
 .br (decide (a1.1>r1.1.2.2.2.1)) (
 .ob (Ct a0) fun r7=>
 .leaf (r7,(false,()))) (
 .ob (Ay Jh ((0:Int),a0.1,a0.2.1,a0.2.2.1,a2.1,a2.2.1,(0:Int),(0:Int),([]:List Am),a2.1,a2.2.1,([]:List Am),())) fun o12=>
 .leaf ((o12.2.2.2.1,o12.2.2.2.2.1,o12.2.2.2.2.2.1,()),(true,()))))))
def Ut (a0:A7) (a1:YI) (a2:Bw) (a3:YBs):Option (A7×(Bool×Unit)):=(Ae2 a0 a1 a2 a3).val
def Anl (a0:Aj):Tree (Aj×(Bool×Unit)):=
 .ob (Fy a0) fun r1=>letI u1:=r1.2.2.2;
 .ob (Gw a0) fun r2=>
 .br (!r2.1) (
 .leaf (r1,(false,()))) (
 .br (a0.1 != (1:Int)) (
 .leaf (r1,(false,()))) (
 .br (a0.2.2.1==(4294967295:Int)) (
 .leaf (r1,(false,()))) (
 .ob (Cr (a0.2.2.2.1,()) ((C8 [114,101,107,101,121]),())) fun r3=>
 .ob (Dx ((i64.wrap (a0.2.2.1+(1:Int))),()) r3) fun r4=>
 .leaf ((r1.1,r1.2.1,r4.1,r4.2.1,r4.2.2.1,r4.2.2.2.1,r4.2.2.2.2.1,r1.2.2.1,u1.1,u1.2.1,u1.2.2.1,u1.2.2.2.1,true,(-1:Int),u1.2.2.2.2.2.2.2.2.2.2.2.1,()),(true,())))))
def Anm (a0:Aj):Option (Aj×(Bool×Unit)):=(Anl a0).val
def T6 (a0:Aj) (a1:YI) (a2:YBs):Tree (Aj×YI):=
 .ob (Fy a0) fun r1=>
 .ob (Gw a0) fun r2=>
 .br (!r2.1) (
 .leaf (r1,((6:Int),()))) (
 .br (a0.1 != (1:Int)) (
 .leaf (r1,((6:Int),()))) (
 .ob (Bk a1 ((0:Int),()) ((4294967294:Int),())) fun r3=>
 .br (!r3.1) (
 .leaf (r1,((6:Int),()))) (
 .ob (Dj ((i64.wrap (a1.1+(1:Int))),())) fun r4=>
 .ob (Pj a2 r4) fun r5=>
 .br (!r5.1) (
 .leaf (r1,((6:Int),()))) (
 .br (a1.1==a0.2.2.1) (
 .ob (Anm a0) fun r6=>
 .br (!r6.2.1) (
 .leaf (r1,((6:Int),()))) (
 .leaf (r6.1,((0:Int),())))) (
 .br (a1.1==(i64.wrap (a0.2.2.1-(1:Int)))) (
 .leaf (r1,((0:Int),()))) (
 .leaf (r1,((6:Int),()))))))))
def Nw (a0:Aj) (a1:YI) (a2:YBs):Option (Aj×YI):=(T6 a0 a1 a2).val
def Ae3 (a0:YEp) (a1:YI) (a2:YBs) (a3:YI) (a4:YBs):Tree (YEp×Au×YI):=
 letI u1:=a0.2.2;.ob (Me a0) fun r1=>letI u2:=r1.2.2.2;
 .ob (N7 a0) fun r2=>
 .br (!r2.1) (
 .leaf (r1,((0:Int),(0:Int),([]:List YB),([]:List YB),(0:Int),([]:List YB),([]:List YB),(0:Int),(0:Int),([]:List YB),([]:List YB),()),((1:Int),()))) (
 .ob (Mf a1 a2 (a0.1,()) ((0:Int),())) fun r3=>
 .br ((r3.1.length:Int)==(0:Int)) (
 .leaf (r1,((0:Int),(0:Int),([]:List YB),([]:List YB),(0:Int),([]:List YB),([]:List YB),(0:Int),(0:Int),([]:List YB),([]:List YB),()),((1:Int),()))) (
 .ob (Jz a3) fun r4=>
 .br (!r4.1) (
 .leaf (r1,((0:Int),(0:Int),([]:List YB),([]:List YB),(0:Int),([]:List YB),([]:List YB),(0:Int),(0:Int),([]:List YB),([]:List YB),()),((1:Int),()))) (
 .ob (Pa a3 ((a4.1.length:Int),())) fun r5=>
 .br (!r5.1) (
 .leaf (r1,((0:Int),(0:Int),([]:List YB),([]:List YB),(0:Int),([]:List YB),([]:List YB),(0:Int),(0:Int),([]:List YB),([]:List YB),()),((1:Int),()))) (
 .br (a3.1==(4:Int)) (
 .br (decide (u1.1≥(281474976709656:Int))) (
 .leaf (r1,((0:Int),(0:Int),([]:List YB),([]:List YB),(0:Int),([]:List YB),([]:List YB),(0:Int),(0:Int),([]:List YB),([]:List YB),()),((4:Int),()))) (
 .br (u1.1==(281474976710656:Int)) (
 .leaf (r1,((0:Int),(0:Int),([]:List YB),([]:List YB),(0:Int),([]:List YB),([]:List YB),(0:Int),(0:Int),([]:List YB),([]:List YB),()),((5:Int),()))) (
 .ob (Bc (a0.2.1,()) a1 a2 (a0.1,()) (u1.1,()) a3 a4) fun r6=>
 .leaf ((r1.1,r1.2.1,(i64.wrap (u1.1+(1:Int))),u2.1,u2.2.1,()),r6.1,((0:Int),()))))) (
 .br (u1.1==(281474976710656:Int)) (
 .leaf (r1,((0:Int),(0:Int),([]:List YB),([]:List YB),(0:Int),([]:List YB),([]:List YB),(0:Int),(0:Int),([]:List YB),([]:List YB),()),((5:Int),()))) (
 .ob (Bc (a0.2.1,()) a1 a2 (a0.1,()) (u1.1,()) a3 a4) fun r7=>
 .leaf ((r1.1,r1.2.1,(i64.wrap (u1.1+(1:Int))),u2.1,u2.2.1,()),r7.1,((0:Int),()))))))))
def Ae4 (a0:YEp) (a1:YI) (a2:YBs) (a3:YI) (a4:YBs):Option (YEp×Au×YI):=(Ae3 a0 a1 a2 a3 a4).val
def Wa (a0:Aj) (a1:YI) (a2:YBs):Tree (Aj×Au×YI):=
 letI u1:=a0.2.2.2;.ob (Fy a0) fun r1=>letI u2:=r1.2.2.2.2.2.2.2;letI u3:=u2.2.2.2;
 .ob (Gw a0) fun r2=>
 .br (!r2.1) (
 .leaf (r1,((0:Int),(0:Int),([]:List YB),([]:List YB),(0:Int),([]:List YB),([]:List YB),(0:Int),(0:Int),([]:List YB),([]:List YB),()),((1:Int),()))) (
 .ob (Ae4 (a0.2.2.1,u1.1,u1.2.1,u1.2.2.1,u1.2.2.2.1,()) (a0.1,()) (a0.2.1,()) a1 a2) fun r3=>
 .br (r3.2.2.1==(0:Int)) (
 .leaf ((r1.1,r1.2.1,r3.1.1,r3.1.2.1,r3.1.2.2.1,r3.1.2.2.2.1,r3.1.2.2.2.2.1,u2.1,u2.2.1,u2.2.2.1,u3.1,u3.2.1,u3.2.2.1,u3.2.2.2.1,u3.2.2.2.2.1,()),r3.2.1,r3.2.2)) (
 .leaf (r1,r3.2.1,r3.2.2)))
def B9 (a0:Aj) (a1:YI) (a2:YBs):Option (Aj×Au×YI):=(Wa a0 a1 a2).val
def Arv (a0:Aj):Tree (Aj×Au×YI):=
 .ob (Gw a0) fun r1=>
 .br (!r1.1) (
 .ob (Fy a0) fun r2=>
 .leaf (r2,((0:Int),(0:Int),([]:List YB),([]:List YB),(0:Int),([]:List YB),([]:List YB),(0:Int),(0:Int),([]:List YB),([]:List YB),()),((6:Int),()))) (
 .br (a0.1 != (1:Int)) (
 .ob (Fy a0) fun r3=>
 .leaf (r3,((0:Int),(0:Int),([]:List YB),([]:List YB),(0:Int),([]:List YB),([]:List YB),(0:Int),(0:Int),([]:List YB),([]:List YB),()),((6:Int),()))) (
 .ob (Dj (a0.2.2.1,())) fun r4=>
 .ob (B9 a0 ((8:Int),()) r4) fun r5=>
 .leaf (r5.1,r5.2.1,r5.2.2)))
def Akx (a0:Aj):Option (Aj×Au×YI):=(Arv a0).val
def Ann (a0:YBs) (a1:YBs):Tree (A2):=
 .chk (decide (([]:List YB).length+a0.1.length≤4294967296)) <|
 .chk (decide (([]:List YB).length+a1.1.length≤4294967296)) <|
 .leaf ((15:Int),(0:Int),(0:Int),([]:List YB),([]:List YB),(0:Int),(0:Int),(([]:List YB)++a1.1),(([]:List YB)++a0.1),(0:Int),(0:Int),(0:Int),())
def Ano (a0:YBs) (a1:YBs):Option (A2):=(Ann a0 a1).val
def Aak (a0:Aj) (a1:Au):Tree (A2):=
 .ob (Hl (a0.1,()) a1) fun r1=>
 .ob (Ano (a0.2.2.2.1,()) r1) fun r2=>
 .leaf r2
def E5 (a0:Aj) (a1:Au):Option (A2):=(Aak a0 a1).val
def Abv (r7:A2) (r17:A2) (r1:A4) (r16:Aj×Au×YI) (r15:A7×(Bool×Unit)) (a1:YI) (a2:Bw):Tree (A4×((List Bj)×Unit)×((List A2)×Unit)×(Bool×Unit)):=
 letI u1:=r1.2.2.2.2.2.2.2.2.2.2.2.2.2.2.2.2.2.2.2.2.2;letI u2:=r16.1.2.2.2;letI u3:=u2.2.2.2;letI u4:=u3.2.2.2.2;.chk (decide ((([]:List A2)++[r7]).length+[r17].length≤4294967296)) <|
 .leaf ((r1.1,r1.2.1,r1.2.2.1,r16.1.1,r16.1.2.1,r16.1.2.2.1,u2.1,u2.2.1,u2.2.2.1,u3.1,u3.2.1,u3.2.2.1,u3.2.2.2.1,u4.1,u4.2.1,u4.2.2.1,u4.2.2.2.1,u4.2.2.2.2.1,r15.1.1,r15.1.2.1,r15.1.2.2.1,u1.1,a1.1,u1.2.2.1,()),((([]:List Bj)++[(a2.1,a2.2.1,r16.2.1.1,r16.2.1.2.1,r16.2.1.2.2.1,r16.2.1.2.2.2.1,r16.2.1.2.2.2.2.1,r16.2.1.2.2.2.2.2.1,r16.2.1.2.2.2.2.2.2.1,r16.2.1.2.2.2.2.2.2.2.1,r16.2.1.2.2.2.2.2.2.2.2.1,r16.2.1.2.2.2.2.2.2.2.2.2.1,r16.2.1.2.2.2.2.2.2.2.2.2.2.1,())]),()),(((([]:List A2)++[r7])++[r17]),()),(true,()))
def Abw (r16:Aj×Au×YI) (r7:A2) (r1:A4) (r15:A7×(Bool×Unit)) (a1:YI) (a2:Bw):Tree (A4×((List Bj)×Unit)×((List A2)×Unit)×(Bool×Unit)):=
 .ob (E5 r16.1 r16.2.1) fun r17=>
 Abv r7 r17 r1 r16 r15 a1 a2
def Rg (a2:Bw) (r16:Aj×Au×YI) (r7:A2) (r1:A4) (r15:A7×(Bool×Unit)) (a1:YI):Tree (A4×((List Bj)×Unit)×((List A2)×Unit)×(Bool×Unit)):=
 .chk (decide (([]:List Bj).length+[(a2.1,a2.2.1,r16.2.1.1,r16.2.1.2.1,r16.2.1.2.2.1,r16.2.1.2.2.2.1,r16.2.1.2.2.2.2.1,r16.2.1.2.2.2.2.2.1,r16.2.1.2.2.2.2.2.2.1,r16.2.1.2.2.2.2.2.2.2.1,r16.2.1.2.2.2.2.2.2.2.2.1,r16.2.1.2.2.2.2.2.2.2.2.2.1,r16.2.1.2.2.2.2.2.2.2.2.2.2.1,())].length≤4294967296)) <|
 Abw r16 r7 r1 r15 a1 a2
def Abx (r16:Aj×Au×YI) (r1:A4) (r4:Aj×YBs×YI) (a1:YI) (r7:A2) (a2:Bw) (r15:A7×(Bool×Unit)):Tree (A4×((List Bj)×Unit)×((List A2)×Unit)×(Bool×Unit)):=
 letI u1:=r1.2.2.2.2.2.2.2.2.2.2.2.2.2.2.2.2.2.2;letI u2:=r4.1.2.2.2;letI u3:=u2.2.2.2;letI u4:=u3.2.2.2.2;.br (r16.2.2.1 != (0:Int)) (
 .leaf ((r1.1,r1.2.1,r1.2.2.1,r4.1.1,r4.1.2.1,r4.1.2.2.1,u2.1,u2.2.1,u2.2.2.1,u3.1,u3.2.1,u3.2.2.1,u3.2.2.2.1,u4.1,u4.2.1,u4.2.2.1,u4.2.2.2.1,u4.2.2.2.2.1,u1.1,u1.2.1,u1.2.2.1,u1.2.2.2.1,a1.1,u1.2.2.2.2.2.1,()),(([]:List Bj),()),((([]:List A2)++[r7]),()),(false,()))) (
 Rg a2 r16 r7 r1 r15 a1)
def Aby (r15:A7×(Bool×Unit)) (r1:A4) (r4:Aj×YBs×YI) (a1:YI) (r7:A2) (r16:Aj×Au×YI) (a2:Bw):Tree (A4×((List Bj)×Unit)×((List A2)×Unit)×(Bool×Unit)):=
 letI u1:=r1.2.2.2.2.2.2.2.2.2.2.2.2.2.2.2.2.2.2;letI u2:=r4.1.2.2.2;letI u3:=u2.2.2.2;letI u4:=u3.2.2.2.2;.br (!r15.2.1) (
 .leaf ((r1.1,r1.2.1,r1.2.2.1,r4.1.1,r4.1.2.1,r4.1.2.2.1,u2.1,u2.2.1,u2.2.2.1,u3.1,u3.2.1,u3.2.2.1,u3.2.2.2.1,u4.1,u4.2.1,u4.2.2.1,u4.2.2.2.1,u4.2.2.2.2.1,u1.1,u1.2.1,u1.2.2.1,u1.2.2.2.1,a1.1,u1.2.2.2.2.2.1,()),(([]:List Bj),()),((([]:List A2)++[r7]),()),(false,()))) (
 Abx r16 r1 r4 a1 r7 a2 r15)
def Abz (r4:Aj×YBs×YI) (a4:YBs) (r15:A7×(Bool×Unit)) (r1:A4) (a1:YI) (r7:A2) (a2:Bw):Tree (A4×((List Bj)×Unit)×((List A2)×Unit)×(Bool×Unit)):=
 .ob (B9 r4.1 ((5:Int),()) a4) fun r16=>
 Aby r15 r1 r4 a1 r7 r16 a2
def Mn (r1:A4) (a1:YI) (a2:Bw) (a4:YBs) (r4:Aj×YBs×YI) (r7:A2):Tree (A4×((List Bj)×Unit)×((List A2)×Unit)×(Bool×Unit)):=
 letI u1:=r1.2.2.2.2.2.2.2.2.2.2.2.2.2.2.2.2.2.2;.ob (Da (u1.1,u1.2.1,u1.2.2.1,()) a1 a2 a4) fun r15=>
 Abz r4 a4 r15 r1 a1 r7 a2
def Wb (a0:A4) (a1:YI) (a2:Bw) (a3:Au) (a4:YBs):Tree (A4×((List Bj)×Unit)×((List A2)×Unit)×(Bool×Unit)):=
 letI u1:=a0.2.2;letI u2:=u1.2.2;letI u3:=u2.2.2;letI u4:=u3.2.2;letI u5:=u4.2.2;letI u6:=u5.2.2;letI u7:=u6.2.2;letI u8:=u7.2.2;letI u9:=a3.2.2.2.2.2.2.2;.ob (Sa a0) fun r1=>letI u10:=r1.2.2;letI u11:=u10.2.2.2.2.2.2.2.2.2.2.2.2.2.2.2.2;letI u12:=u11.2.2;letI u13:=u12.2.2.2;
 .ob (Pk a0) fun r2=>
 .br (!r2.1) (
 .leaf (r1,(([]:List Bj),()),(([]:List A2),()),(false,()))) (
 .br u8.2.2.2.2.2.2.2.1 (
 .leaf (r1,(([]:List Bj),()),(([]:List A2),()),(false,()))) (
 .ob (H5 a2) fun r3=>
 .br (!r3.1) (
 .leaf (r1,(([]:List Bj),()),(([]:List A2),()),(false,()))) (
 .ob (Hn (u1.2.1,u2.1,u2.2.1,u3.1,u3.2.1,u4.1,u4.2.1,u5.1,u5.2.1,u6.1,u6.2.1,u7.1,u7.2.1,u8.1,u8.2.1,()) a1 a3) fun r4=>letI u14:=r4.1.2.2;letI u15:=u14.2.2;letI u16:=u15.2.2;letI u17:=u16.2.2;letI u18:=u17.2.2;letI u19:=u18.2.2;
 .br (r4.2.2.1 != (0:Int)) (
 .leaf (r1,(([]:List Bj),()),(([]:List A2),()),(false,()))) (
 .ob (Us (u1.2.1,u2.1,u2.2.1,u3.1,u3.2.1,u4.1,u4.2.1,u5.1,u5.2.1,u6.1,u6.2.1,u7.1,u7.2.1,u8.1,u8.2.1,()) (u9.1,())) fun r5=>
 .ob (Hl ((0:Int),()) a3) fun r6=>
 .ob (Ank r5.1 (u1.1,()) r6) fun r7=>
 .chk (decide (([]:List A2).length+[r7].length≤4294967296)) <|
 .br (a3.1==(4:Int)) (
 .chk (decide (([]:List YB).length+a0.2.2.1.length≤4294967296)) <|
 .chk (decide (([]:List YB).length+r4.2.1.1.length≤4294967296)) <|
 .chk (decide ((([]:List A2)++[r7]).length+[((6:Int),(0:Int),(0:Int),([]:List YB),(([]:List YB)++u1.1),u9.1,u9.2.1,(([]:List YB)++r4.2.1.1),([]:List YB),(0:Int),(0:Int),a1.1,())].length≤4294967296)) <|
 .ob (Da (u11.1,u11.2.1,u12.1,()) a1 a2 a4) fun r8=>
 .ob (B9 r4.1 ((5:Int),()) a4) fun r9=>letI u20:=r9.1.2.2.2;letI u21:=u20.2.2.2;letI u22:=u21.2.2.2.2;
 .br (!r8.2.1) (
 .leaf ((r1.1,r1.2.1,u10.1,r4.1.1,r4.1.2.1,u14.1,u14.2.1,u15.1,u15.2.1,u16.1,u16.2.1,u17.1,u17.2.1,u18.1,u18.2.1,u19.1,u19.2.1,u19.2.2.1,u11.1,u11.2.1,u12.1,u12.2.1,a1.1,u13.1,()),(([]:List Bj),()),(((([]:List A2)++[r7])++[((6:Int),(0:Int),(0:Int),([]:List YB),(([]:List YB)++u1.1),u9.1,u9.2.1,(([]:List YB)++r4.2.1.1),([]:List YB),(0:Int),(0:Int),a1.1,())]),()),(false,()))) (
 .br (r9.2.2.1 != (0:Int)) (
 .leaf ((r1.1,r1.2.1,u10.1,r4.1.1,r4.1.2.1,u14.1,u14.2.1,u15.1,u15.2.1,u16.1,u16.2.1,u17.1,u17.2.1,u18.1,u18.2.1,u19.1,u19.2.1,u19.2.2.1,u11.1,u11.2.1,u12.1,u12.2.1,a1.1,u13.1,()),(([]:List Bj),()),(((([]:List A2)++[r7])++[((6:Int),(0:Int),(0:Int),([]:List YB),(([]:List YB)++u1.1),u9.1,u9.2.1,(([]:List YB)++r4.2.1.1),([]:List YB),(0:Int),(0:Int),a1.1,())]),()),(false,()))) (
 .chk (decide (([]:List Bj).length+[(a2.1,a2.2.1,r9.2.1.1,r9.2.1.2.1,r9.2.1.2.2.1,r9.2.1.2.2.2.1,r9.2.1.2.2.2.2.1,r9.2.1.2.2.2.2.2.1,r9.2.1.2.2.2.2.2.2.1,r9.2.1.2.2.2.2.2.2.2.1,r9.2.1.2.2.2.2.2.2.2.2.1,r9.2.1.2.2.2.2.2.2.2.2.2.1,r9.2.1.2.2.2.2.2.2.2.2.2.2.1,())].length≤4294967296)) <|
 .ob (E5 r9.1 r9.2.1) fun r10=>
 .chk (decide (((([]:List A2)++[r7])++[((6:Int),(0:Int),(0:Int),([]:List YB),(([]:List YB)++u1.1),u9.1,u9.2.1,(([]:List YB)++r4.2.1.1),([]:List YB),(0:Int),(0:Int),a1.1,())]).length+[r10].length≤4294967296)) <|
 .leaf ((r1.1,r1.2.1,u10.1,r9.1.1,r9.1.2.1,r9.1.2.2.1,u20.1,u20.2.1,u20.2.2.1,u21.1,u21.2.1,u21.2.2.1,u21.2.2.2.1,u22.1,u22.2.1,u22.2.2.1,u22.2.2.2.1,u22.2.2.2.2.1,r8.1.1,r8.1.2.1,r8.1.2.2.1,u12.2.1,a1.1,u13.1,()),((([]:List Bj)++[(a2.1,a2.2.1,r9.2.1.1,r9.2.1.2.1,r9.2.1.2.2.1,r9.2.1.2.2.2.1,r9.2.1.2.2.2.2.1,r9.2.1.2.2.2.2.2.1,r9.2.1.2.2.2.2.2.2.1,r9.2.1.2.2.2.2.2.2.2.1,r9.2.1.2.2.2.2.2.2.2.2.1,r9.2.1.2.2.2.2.2.2.2.2.2.1,r9.2.1.2.2.2.2.2.2.2.2.2.2.1,())]),()),((((([]:List A2)++[r7])++[((6:Int),(0:Int),(0:Int),([]:List YB),(([]:List YB)++u1.1),u9.1,u9.2.1,(([]:List YB)++r4.2.1.1),([]:List YB),(0:Int),(0:Int),a1.1,())])++[r10]),()),(true,()))))) (
 .br (a3.1==(6:Int)) (
 .ob (Ut (u11.1,u11.2.1,u12.1,()) a1 a2 r4.2.1) fun r11=>
 .br r11.2.1 (
 .chk (decide (([]:List YB).length+a0.2.2.1.length≤4294967296)) <|
 .chk (decide (([]:List YB).length+r4.2.1.1.length≤4294967296)) <|
 .chk (decide ((([]:List A2)++[r7]).length+[((9:Int),(0:Int),(0:Int),([]:List YB),(([]:List YB)++u1.1),(0:Int),(0:Int),(([]:List YB)++r4.2.1.1),([]:List YB),a2.1,a2.2.1,a1.1,())].length≤4294967296)) <|
 .ob (Da r11.1 a1 a2 a4) fun r12=>
 .ob (B9 r4.1 ((5:Int),()) a4) fun r13=>letI u23:=r13.1.2.2.2;letI u24:=u23.2.2.2;letI u25:=u24.2.2.2.2;
 .br (!r12.2.1) (
 .leaf ((r1.1,r1.2.1,u10.1,r4.1.1,r4.1.2.1,u14.1,u14.2.1,u15.1,u15.2.1,u16.1,u16.2.1,u17.1,u17.2.1,u18.1,u18.2.1,u19.1,u19.2.1,u19.2.2.1,r11.1.1,r11.1.2.1,r11.1.2.2.1,u12.2.1,a1.1,u13.1,()),(([]:List Bj),()),(((([]:List A2)++[r7])++[((9:Int),(0:Int),(0:Int),([]:List YB),(([]:List YB)++u1.1),(0:Int),(0:Int),(([]:List YB)++r4.2.1.1),([]:List YB),a2.1,a2.2.1,a1.1,())]),()),(false,()))) (
 .br (r13.2.2.1 != (0:Int)) (
 .leaf ((r1.1,r1.2.1,u10.1,r4.1.1,r4.1.2.1,u14.1,u14.2.1,u15.1,u15.2.1,u16.1,u16.2.1,u17.1,u17.2.1,u18.1,u18.2.1,u19.1,u19.2.1,u19.2.2.1,r11.1.1,r11.1.2.1,r11.1.2.2.1,u12.2.1,a1.1,u13.1,()),(([]:List Bj),()),(((([]:List A2)++[r7])++[((9:Int),(0:Int),(0:Int),([]:List YB),(([]:List YB)++u1.1),(0:Int),(0:Int),(([]:List YB)++r4.2.1.1),([]:List YB),a2.1,a2.2.1,a1.1,())]),()),(false,()))) (
 .chk (decide (([]:List Bj).length+[(a2.1,a2.2.1,r13.2.1.1,r13.2.1.2.1,r13.2.1.2.2.1,r13.2.1.2.2.2.1,r13.2.1.2.2.2.2.1,r13.2.1.2.2.2.2.2.1,r13.2.1.2.2.2.2.2.2.1,r13.2.1.2.2.2.2.2.2.2.1,r13.2.1.2.2.2.2.2.2.2.2.1,r13.2.1.2.2.2.2.2.2.2.2.2.1,r13.2.1.2.2.2.2.2.2.2.2.2.2.1,())].length≤4294967296)) <|
 .ob (E5 r13.1 r13.2.1) fun r14=>
 .chk (decide (((([]:List A2)++[r7])++[((9:Int),(0:Int),(0:Int),([]:List YB),(([]:List YB)++u1.1),(0:Int),(0:Int),(([]:List YB)++r4.2.1.1),([]:List YB),a2.1,a2.2.1,a1.1,())]).length+[r14].length≤4294967296)) <|
 .leaf ((r1.1,r1.2.1,u10.1,r13.1.1,r13.1.2.1,r13.1.2.2.1,u23.1,u23.2.1,u23.2.2.1,u24.1,u24.2.1,u24.2.2.1,u24.2.2.2.1,u25.1,u25.2.1,u25.2.2.1,u25.2.2.2.1,u25.2.2.2.2.1,r12.1.1,r12.1.2.1,r12.1.2.2.1,u12.2.1,a1.1,u13.1,()),((([]:List Bj)++[(a2.1,a2.2.1,r13.2.1.1,r13.2.1.2.1,r13.2.1.2.2.1,r13.2.1.2.2.2.1,r13.2.1.2.2.2.2.1,r13.2.1.2.2.2.2.2.1,r13.2.1.2.2.2.2.2.2.1,r13.2.1.2.2.2.2.2.2.2.1,r13.2.1.2.2.2.2.2.2.2.2.1,r13.2.1.2.2.2.2.2.2.2.2.2.1,r13.2.1.2.2.2.2.2.2.2.2.2.2.1,())]),()),((((([]:List A2)++[r7])++[((9:Int),(0:Int),(0:Int),([]:List YB),(([]:List YB)++u1.1),(0:Int),(0:Int),(([]:List YB)++r4.2.1.1),([]:List YB),a2.1,a2.2.1,a1.1,())])++[r14]),()),(true,()))))) (
 Mn r1 a1 a2 a4 r4 r7)) (
 .br (a3.1==(7:Int)) (
 .ob (Nw r4.1 (u9.1,()) r4.2.1) fun r18=>letI u26:=r18.1.2.2;letI u27:=u26.2.2;letI u28:=u27.2.2;letI u29:=u28.2.2;letI u30:=u29.2.2;letI u31:=u30.2.2;
 .br (r18.2.1==(0:Int)) (
 .br (u26.1 != u14.1) (
 .chk (decide (([]:List YB).length+a0.2.2.1.length≤4294967296)) <|
 .chk (decide (([]:List YB).length+r18.1.2.2.2.1.length≤4294967296)) <|
 .chk (decide ((([]:List A2)++[r7]).length+[((10:Int),(0:Int),(1:Int),([]:List YB),(([]:List YB)++u1.1),u26.1,(0:Int),([]:List YB),(([]:List YB)++u26.2.1),(0:Int),(0:Int),(0:Int),())].length≤4294967296)) <|
 .ob (Akx r18.1) fun r19=>letI u32:=r19.1.2.2;letI u33:=u32.2.2;letI u34:=u33.2.2;letI u35:=u34.2.2;letI u36:=u35.2.2;letI u37:=u36.2.2;
 .br (r19.2.2.1==(0:Int)) (
 .chk (decide (([]:List Bj).length+[(u11.1,u11.2.1,r19.2.1.1,r19.2.1.2.1,r19.2.1.2.2.1,r19.2.1.2.2.2.1,r19.2.1.2.2.2.2.1,r19.2.1.2.2.2.2.2.1,r19.2.1.2.2.2.2.2.2.1,r19.2.1.2.2.2.2.2.2.2.1,r19.2.1.2.2.2.2.2.2.2.2.1,r19.2.1.2.2.2.2.2.2.2.2.2.1,r19.2.1.2.2.2.2.2.2.2.2.2.2.1,())].length≤4294967296)) <|
 .ob (E5 r19.1 r19.2.1) fun r20=>
 .chk (decide (((([]:List A2)++[r7])++[((10:Int),(0:Int),(1:Int),([]:List YB),(([]:List YB)++u1.1),u26.1,(0:Int),([]:List YB),(([]:List YB)++u26.2.1),(0:Int),(0:Int),(0:Int),())]).length+[r20].length≤4294967296)) <|
 .ob (Da (u11.1,u11.2.1,u12.1,()) a1 a2 a4) fun r21=>
 .ob (B9 r19.1 ((5:Int),()) a4) fun r22=>letI u38:=r22.1.2.2.2;letI u39:=u38.2.2.2;letI u40:=u39.2.2.2.2;
 .br (!r21.2.1) (
 .leaf ((r1.1,r1.2.1,u10.1,r19.1.1,r19.1.2.1,u32.1,u32.2.1,u33.1,u33.2.1,u34.1,u34.2.1,u35.1,u35.2.1,u36.1,u36.2.1,u37.1,u37.2.1,u37.2.2.1,u11.1,u11.2.1,u12.1,u12.2.1,a1.1,u13.1,()),((([]:List Bj)++[(u11.1,u11.2.1,r19.2.1.1,r19.2.1.2.1,r19.2.1.2.2.1,r19.2.1.2.2.2.1,r19.2.1.2.2.2.2.1,r19.2.1.2.2.2.2.2.1,r19.2.1.2.2.2.2.2.2.1,r19.2.1.2.2.2.2.2.2.2.1,r19.2.1.2.2.2.2.2.2.2.2.1,r19.2.1.2.2.2.2.2.2.2.2.2.1,r19.2.1.2.2.2.2.2.2.2.2.2.2.1,())]),()),((((([]:List A2)++[r7])++[((10:Int),(0:Int),(1:Int),([]:List YB),(([]:List YB)++u1.1),u26.1,(0:Int),([]:List YB),(([]:List YB)++u26.2.1),(0:Int),(0:Int),(0:Int),())])++[r20]),()),(false,()))) (
 .br (r22.2.2.1 != (0:Int)) (
 .leaf ((r1.1,r1.2.1,u10.1,r19.1.1,r19.1.2.1,u32.1,u32.2.1,u33.1,u33.2.1,u34.1,u34.2.1,u35.1,u35.2.1,u36.1,u36.2.1,u37.1,u37.2.1,u37.2.2.1,u11.1,u11.2.1,u12.1,u12.2.1,a1.1,u13.1,()),((([]:List Bj)++[(u11.1,u11.2.1,r19.2.1.1,r19.2.1.2.1,r19.2.1.2.2.1,r19.2.1.2.2.2.1,r19.2.1.2.2.2.2.1,r19.2.1.2.2.2.2.2.1,r19.2.1.2.2.2.2.2.2.1,r19.2.1.2.2.2.2.2.2.2.1,r19.2.1.2.2.2.2.2.2.2.2.1,r19.2.1.2.2.2.2.2.2.2.2.2.1,r19.2.1.2.2.2.2.2.2.2.2.2.2.1,())]),()),((((([]:List A2)++[r7])++[((10:Int),(0:Int),(1:Int),([]:List YB),(([]:List YB)++u1.1),u26.1,(0:Int),([]:List YB),(([]:List YB)++u26.2.1),(0:Int),(0:Int),(0:Int),())])++[r20]),()),(false,()))) (
 .chk (decide ((([]:List Bj)++[(u11.1,u11.2.1,r19.2.1.1,r19.2.1.2.1,r19.2.1.2.2.1,r19.2.1.2.2.2.1,r19.2.1.2.2.2.2.1,r19.2.1.2.2.2.2.2.1,r19.2.1.2.2.2.2.2.2.1,r19.2.1.2.2.2.2.2.2.2.1,r19.2.1.2.2.2.2.2.2.2.2.1,r19.2.1.2.2.2.2.2.2.2.2.2.1,r19.2.1.2.2.2.2.2.2.2.2.2.2.1,())]).length+[(a2.1,a2.2.1,r22.2.1.1,r22.2.1.2.1,r22.2.1.2.2.1,r22.2.1.2.2.2.1,r22.2.1.2.2.2.2.1,r22.2.1.2.2.2.2.2.1,r22.2.1.2.2.2.2.2.2.1,r22.2.1.2.2.2.2.2.2.2.1,r22.2.1.2.2.2.2.2.2.2.2.1,r22.2.1.2.2.2.2.2.2.2.2.2.1,r22.2.1.2.2.2.2.2.2.2.2.2.2.1,())].length≤4294967296)) <|
 .ob (E5 r22.1 r22.2.1) fun r23=>
 .chk (decide ((((([]:List A2)++[r7])++[((10:Int),(0:Int),(1:Int),([]:List YB),(([]:List YB)++u1.1),u26.1,(0:Int),([]:List YB),(([]:List YB)++u26.2.1),(0:Int),(0:Int),(0:Int),())])++[r20]).length+[r23].length≤4294967296)) <|
 .leaf ((r1.1,r1.2.1,u10.1,r22.1.1,r22.1.2.1,r22.1.2.2.1,u38.1,u38.2.1,u38.2.2.1,u39.1,u39.2.1,u39.2.2.1,u39.2.2.2.1,u40.1,u40.2.1,u40.2.2.1,u40.2.2.2.1,u40.2.2.2.2.1,r21.1.1,r21.1.2.1,r21.1.2.2.1,u12.2.1,a1.1,u13.1,()),(((([]:List Bj)++[(u11.1,u11.2.1,r19.2.1.1,r19.2.1.2.1,r19.2.1.2.2.1,r19.2.1.2.2.2.1,r19.2.1.2.2.2.2.1,r19.2.1.2.2.2.2.2.1,r19.2.1.2.2.2.2.2.2.1,r19.2.1.2.2.2.2.2.2.2.1,r19.2.1.2.2.2.2.2.2.2.2.1,r19.2.1.2.2.2.2.2.2.2.2.2.1,r19.2.1.2.2.2.2.2.2.2.2.2.2.1,())])++[(a2.1,a2.2.1,r22.2.1.1,r22.2.1.2.1,r22.2.1.2.2.1,r22.2.1.2.2.2.1,r22.2.1.2.2.2.2.1,r22.2.1.2.2.2.2.2.1,r22.2.1.2.2.2.2.2.2.1,r22.2.1.2.2.2.2.2.2.2.1,r22.2.1.2.2.2.2.2.2.2.2.1,r22.2.1.2.2.2.2.2.2.2.2.2.1,r22.2.1.2.2.2.2.2.2.2.2.2.2.1,())]),()),(((((([]:List A2)++[r7])++[((10:Int),(0:Int),(1:Int),([]:List YB),(([]:List YB)++u1.1),u26.1,(0:Int),([]:List YB),(([]:List YB)++u26.2.1),(0:Int),(0:Int),(0:Int),())])++[r20])++[r23]),()),(true,()))))) (
 .ob (Da (u11.1,u11.2.1,u12.1,()) a1 a2 a4) fun r24=>
 .ob (B9 r18.1 ((5:Int),()) a4) fun r25=>letI u41:=r25.1.2.2.2;letI u42:=u41.2.2.2;letI u43:=u42.2.2.2.2;
 .br (!r24.2.1) (
 .leaf ((r1.1,r1.2.1,u10.1,r18.1.1,r18.1.2.1,u26.1,u26.2.1,u27.1,u27.2.1,u28.1,u28.2.1,u29.1,u29.2.1,u30.1,u30.2.1,u31.1,u31.2.1,u31.2.2.1,u11.1,u11.2.1,u12.1,u12.2.1,a1.1,u13.1,()),(([]:List Bj),()),(((([]:List A2)++[r7])++[((10:Int),(0:Int),(1:Int),([]:List YB),(([]:List YB)++u1.1),u26.1,(0:Int),([]:List YB),(([]:List YB)++u26.2.1),(0:Int),(0:Int),(0:Int),())]),()),(false,()))) (
 .br (r25.2.2.1 != (0:Int)) (
 .leaf ((r1.1,r1.2.1,u10.1,r18.1.1,r18.1.2.1,u26.1,u26.2.1,u27.1,u27.2.1,u28.1,u28.2.1,u29.1,u29.2.1,u30.1,u30.2.1,u31.1,u31.2.1,u31.2.2.1,u11.1,u11.2.1,u12.1,u12.2.1,a1.1,u13.1,()),(([]:List Bj),()),(((([]:List A2)++[r7])++[((10:Int),(0:Int),(1:Int),([]:List YB),(([]:List YB)++u1.1),u26.1,(0:Int),([]:List YB),(([]:List YB)++u26.2.1),(0:Int),(0:Int),(0:Int),())]),()),(false,()))) (
 .chk (decide (([]:List Bj).length+[(a2.1,a2.2.1,r25.2.1.1,r25.2.1.2.1,r25.2.1.2.2.1,r25.2.1.2.2.2.1,r25.2.1.2.2.2.2.1,r25.2.1.2.2.2.2.2.1,r25.2.1.2.2.2.2.2.2.1,r25.2.1.2.2.2.2.2.2.2.1,r25.2.1.2.2.2.2.2.2.2.2.1,r25.2.1.2.2.2.2.2.2.2.2.2.1,r25.2.1.2.2.2.2.2.2.2.2.2.2.1,())].length≤4294967296)) <|
 .ob (E5 r25.1 r25.2.1) fun r26=>
 .chk (decide (((([]:List A2)++[r7])++[((10:Int),(0:Int),(1:Int),([]:List YB),(([]:List YB)++u1.1),u26.1,(0:Int),([]:List YB),(([]:List YB)++u26.2.1),(0:Int),(0:Int),(0:Int),())]).length+[r26].length≤4294967296)) <|
 .leaf ((r1.1,r1.2.1,u10.1,r25.1.1,r25.1.2.1,r25.1.2.2.1,u41.1,u41.2.1,u41.2.2.1,u42.1,u42.2.1,u42.2.2.1,u42.2.2.2.1,u43.1,u43.2.1,u43.2.2.1,u43.2.2.2.1,u43.2.2.2.2.1,r24.1.1,r24.1.2.1,r24.1.2.2.1,u12.2.1,a1.1,u13.1,()),((([]:List Bj)++[(a2.1,a2.2.1,r25.2.1.1,r25.2.1.2.1,r25.2.1.2.2.1,r25.2.1.2.2.2.1,r25.2.1.2.2.2.2.1,r25.2.1.2.2.2.2.2.1,r25.2.1.2.2.2.2.2.2.1,r25.2.1.2.2.2.2.2.2.2.1,r25.2.1.2.2.2.2.2.2.2.2.1,r25.2.1.2.2.2.2.2.2.2.2.2.1,r25.2.1.2.2.2.2.2.2.2.2.2.2.1,())]),()),((((([]:List A2)++[r7])++[((10:Int),(0:Int),(1:Int),([]:List YB),(([]:List YB)++u1.1),u26.1,(0:Int),([]:List YB),(([]:List YB)++u26.2.1),(0:Int),(0:Int),(0:Int),())])++[r26]),()),(true,())))))) (
 .ob (Akx r18.1) fun r27=>letI u44:=r27.1.2.2;letI u45:=u44.2.2;letI u46:=u45.2.2;letI u47:=u46.2.2;letI u48:=u47.2.2;letI u49:=u48.2.2;
 .br (r27.2.2.1==(0:Int)) (
 .chk (decide (([]:List Bj).length+[(u11.1,u11.2.1,r27.2.1.1,r27.2.1.2.1,r27.2.1.2.2.1,r27.2.1.2.2.2.1,r27.2.1.2.2.2.2.1,r27.2.1.2.2.2.2.2.1,r27.2.1.2.2.2.2.2.2.1,r27.2.1.2.2.2.2.2.2.2.1,r27.2.1.2.2.2.2.2.2.2.2.1,r27.2.1.2.2.2.2.2.2.2.2.2.1,r27.2.1.2.2.2.2.2.2.2.2.2.2.1,())].length≤4294967296)) <|
 .ob (E5 r27.1 r27.2.1) fun r28=>
 .chk (decide ((([]:List A2)++[r7]).length+[r28].length≤4294967296)) <|
 .ob (Da (u11.1,u11.2.1,u12.1,()) a1 a2 a4) fun r29=>
 .ob (B9 r27.1 ((5:Int),()) a4) fun r30=>letI u50:=r30.1.2.2.2;letI u51:=u50.2.2.2;letI u52:=u51.2.2.2.2;
 .br (!r29.2.1) (
 .leaf ((r1.1,r1.2.1,u10.1,r27.1.1,r27.1.2.1,u44.1,u44.2.1,u45.1,u45.2.1,u46.1,u46.2.1,u47.1,u47.2.1,u48.1,u48.2.1,u49.1,u49.2.1,u49.2.2.1,u11.1,u11.2.1,u12.1,u12.2.1,a1.1,u13.1,()),((([]:List Bj)++[(u11.1,u11.2.1,r27.2.1.1,r27.2.1.2.1,r27.2.1.2.2.1,r27.2.1.2.2.2.1,r27.2.1.2.2.2.2.1,r27.2.1.2.2.2.2.2.1,r27.2.1.2.2.2.2.2.2.1,r27.2.1.2.2.2.2.2.2.2.1,r27.2.1.2.2.2.2.2.2.2.2.1,r27.2.1.2.2.2.2.2.2.2.2.2.1,r27.2.1.2.2.2.2.2.2.2.2.2.2.1,())]),()),(((([]:List A2)++[r7])++[r28]),()),(false,()))) (
 .br (r30.2.2.1 != (0:Int)) (
 .leaf ((r1.1,r1.2.1,u10.1,r27.1.1,r27.1.2.1,u44.1,u44.2.1,u45.1,u45.2.1,u46.1,u46.2.1,u47.1,u47.2.1,u48.1,u48.2.1,u49.1,u49.2.1,u49.2.2.1,u11.1,u11.2.1,u12.1,u12.2.1,a1.1,u13.1,()),((([]:List Bj)++[(u11.1,u11.2.1,r27.2.1.1,r27.2.1.2.1,r27.2.1.2.2.1,r27.2.1.2.2.2.1,r27.2.1.2.2.2.2.1,r27.2.1.2.2.2.2.2.1,r27.2.1.2.2.2.2.2.2.1,r27.2.1.2.2.2.2.2.2.2.1,r27.2.1.2.2.2.2.2.2.2.2.1,r27.2.1.2.2.2.2.2.2.2.2.2.1,r27.2.1.2.2.2.2.2.2.2.2.2.2.1,())]),()),(((([]:List A2)++[r7])++[r28]),()),(false,()))) (
 .chk (decide ((([]:List Bj)++[(u11.1,u11.2.1,r27.2.1.1,r27.2.1.2.1,r27.2.1.2.2.1,r27.2.1.2.2.2.1,r27.2.1.2.2.2.2.1,r27.2.1.2.2.2.2.2.1,r27.2.1.2.2.2.2.2.2.1,r27.2.1.2.2.2.2.2.2.2.1,r27.2.1.2.2.2.2.2.2.2.2.1,r27.2.1.2.2.2.2.2.2.2.2.2.1,r27.2.1.2.2.2.2.2.2.2.2.2.2.1,())]).length+[(a2.1,a2.2.1,r30.2.1.1,r30.2.1.2.1,r30.2.1.2.2.1,r30.2.1.2.2.2.1,r30.2.1.2.2.2.2.1,r30.2.1.2.2.2.2.2.1,r30.2.1.2.2.2.2.2.2.1,r30.2.1.2.2.2.2.2.2.2.1,r30.2.1.2.2.2.2.2.2.2.2.1,r30.2.1.2.2.2.2.2.2.2.2.2.1,r30.2.1.2.2.2.2.2.2.2.2.2.2.1,())].length≤4294967296)) <|
 .ob (E5 r30.1 r30.2.1) fun r31=>
 .chk (decide (((([]:List A2)++[r7])++[r28]).length+[r31].length≤4294967296)) <|
 .leaf ((r1.1,r1.2.1,u10.1,r30.1.1,r30.1.2.1,r30.1.2.2.1,u50.1,u50.2.1,u50.2.2.1,u51.1,u51.2.1,u51.2.2.1,u51.2.2.2.1,u52.1,u52.2.1,u52.2.2.1,u52.2.2.2.1,u52.2.2.2.2.1,r29.1.1,r29.1.2.1,r29.1.2.2.1,u12.2.1,a1.1,u13.1,()),(((([]:List Bj)++[(u11.1,u11.2.1,r27.2.1.1,r27.2.1.2.1,r27.2.1.2.2.1,r27.2.1.2.2.2.1,r27.2.1.2.2.2.2.1,r27.2.1.2.2.2.2.2.1,r27.2.1.2.2.2.2.2.2.1,r27.2.1.2.2.2.2.2.2.2.1,r27.2.1.2.2.2.2.2.2.2.2.1,r27.2.1.2.2.2.2.2.2.2.2.2.1,r27.2.1.2.2.2.2.2.2.2.2.2.2.1,())])++[(a2.1,a2.2.1,r30.2.1.1,r30.2.1.2.1,r30.2.1.2.2.1,r30.2.1.2.2.2.1,r30.2.1.2.2.2.2.1,r30.2.1.2.2.2.2.2.1,r30.2.1.2.2.2.2.2.2.1,r30.2.1.2.2.2.2.2.2.2.1,r30.2.1.2.2.2.2.2.2.2.2.1,r30.2.1.2.2.2.2.2.2.2.2.2.1,r30.2.1.2.2.2.2.2.2.2.2.2.2.1,())]),()),((((([]:List A2)++[r7])++[r28])++[r31]),()),(true,()))))) (
 .ob (Da (u11.1,u11.2.1,u12.1,()) a1 a2 a4) fun r32=>
 .ob (B9 r18.1 ((5:Int),()) a4) fun r33=>
 .br (!r32.2.1) (
 .leaf ((r1.1,r1.2.1,u10.1,r18.1.1,r18.1.2.1,u26.1,u26.2.1,u27.1,u27.2.1,u28.1,u28.2.1,u29.1,u29.2.1,u30.1,u30.2.1,u31.1,u31.2.1,u31.2.2.1,u11.1,u11.2.1,u12.1,u12.2.1,a1.1,u13.1,()),(([]:List Bj),()),((([]:List A2)++[r7]),()),(false,()))) (
 .br (r33.2.2.1 != (0:Int)) (
 .leaf ((r1.1,r1.2.1,u10.1,r18.1.1,r18.1.2.1,u26.1,u26.2.1,u27.1,u27.2.1,u28.1,u28.2.1,u29.1,u29.2.1,u30.1,u30.2.1,u31.1,u31.2.1,u31.2.2.1,u11.1,u11.2.1,u12.1,u12.2.1,a1.1,u13.1,()),(([]:List Bj),()),((([]:List A2)++[r7]),()),(false,()))) (
 Rg a2 r33 r7 r1 r32 a1))))) (
 Mn r1 a1 a2 a4 r4 r7)) (
 Mn r1 a1 a2 a4 r4 r7)))))))
def Wc (a0:A4) (a1:YI) (a2:Bw) (a3:Au) (a4:YBs):Option (A4×((List Bj)×Unit)×((List A2)×Unit)×(Bool×Unit)):=(Wb a0 a1 a2 a3 a4).val
def Anp (a0:YBs) (a1:YBs):Tree ((Bool×Unit)):=
 .leaf ((decide ((Ku a0.1)=(Ku a1.1))),())
def Is (a0:YBs) (a1:YBs):Option ((Bool×Unit)):=(Anp a0 a1).val
def Hh (x1:(List YI)×(List YI)×Int×Unit):Option (((List YI)×(List YI)×Int×Unit)⊕((Bool×Unit)⊕(Unit))):=
 Tree.val (α:=((List YI)×(List YI)×Int×Unit)⊕((Bool×Unit)⊕(Unit))) <|
 .br (decide (x1.2.2.1<(x1.1.length:Int))) (
 .ob (idx x1.1 x1.2.2.1) fun e2=>
 .ob (idx x1.2.1 x1.2.2.1) fun e3=>
 .br (e2.1 != e3.1) (
 .leaf (.inr (.inl (false,())))) (
 .leaf (.inl (x1.1,x1.2.1,(i64.wrap (x1.2.2.1+(1:Int))),())))) (
 .leaf (.inr (.inr ())))
def Wd (a0:(List YI)×Unit) (a1:(List YI)×Unit):Tree ((Bool×Unit)):=
 .br ((a0.1.length:Int) != (a1.1.length:Int)) (
 .leaf (false,())) (
 .ob (Ay Hh (a0.1,a1.1,(0:Int),())) fun o4=>
 .sm o4 (fun o5=>
 .leaf o5) (fun o6=>
 .leaf (true,())))
def We (a0:(List YI)×Unit) (a1:(List YI)×Unit):Option ((Bool×Unit)):=(Wd a0 a1).val
def Aal (a0:Bv) (a1:Bv):Tree ((Bool×Unit)):=
 .br (a0.1==a1.1) (
 .ob (We (a0.2.1,()) (a1.2.1,())) fun r1=>
 .leaf r1) (
 .leaf (false,()))
def Aam (a0:Bv) (a1:Bv):Option ((Bool×Unit)):=(Aal a0 a1).val
def Ae5 (a0:YEp) (a1:YEp):Tree ((Bool×Unit)):=
 .br (a0.1==a1.1) (
 .ob (Is (a0.2.1,()) (a1.2.1,())) fun r1=>
 .br r1.1 (
 .br (a0.2.2.1==a1.2.2.1) (
 .ob (Aam (a0.2.2.2.1,a0.2.2.2.2.1,()) (a1.2.2.2.1,a1.2.2.2.2.1,())) fun r2=>
 .leaf r2) (
 .leaf (false,()))) (
 .leaf (false,()))) (
 .leaf (false,()))
def Uu (a0:YEp) (a1:YEp):Option ((Bool×Unit)):=(Ae5 a0 a1).val
def Wg (a0:Aj) (a1:Aj):Tree ((Bool×Unit)):=
 letI u1:=a0.2.2.2;letI u2:=u1.2.2.2;letI u3:=u2.2.2.2.2;letI u4:=a1.2.2.2;letI u5:=u4.2.2.2;letI u6:=u5.2.2.2.2;.br (a0.1==a1.1) (
 .ob (Is (a0.2.1,()) (a1.2.1,())) fun r1=>
 .br r1.1 (
 .ob (Uu (a0.2.2.1,u1.1,u1.2.1,u1.2.2.1,u2.1,()) (a1.2.2.1,u4.1,u4.2.1,u4.2.2.1,u5.1,())) fun r2=>
 .br r2.1 (
 .ob (Uu (u2.2.1,u2.2.2.1,u2.2.2.2.1,u3.1,u3.2.1,()) (u5.2.1,u5.2.2.1,u5.2.2.2.1,u6.1,u6.2.1,())) fun r3=>
 .br r3.1 (
 .br (u3.2.2.1==u6.2.2.1) (
 .br (u3.2.2.2.1==u6.2.2.2.1) (
 .ob (Is (u3.2.2.2.2.1,()) (u6.2.2.2.2.1,())) fun r4=>
 .leaf r4) (
 .leaf (false,()))) (
 .leaf (false,()))) (
 .leaf (false,()))) (
 .leaf (false,()))) (
 .leaf (false,()))) (
 .leaf (false,()))
def Pz (a0:Aj) (a1:Aj):Option ((Bool×Unit)):=(Wg a0 a1).val
def Gi (x1:Int×Int×Int×(List Am)×Int×Int×(List Am)×Unit):Option ((Int×Int×Int×(List Am)×Int×Int×(List Am)×Unit)⊕((Bool×Unit)⊕(Unit))):=
 letI u1:=x1.2.2.2;letI u2:=u1.2.2.2;Tree.val (α:=(Int×Int×Int×(List Am)×Int×Int×(List Am)×Unit)⊕((Bool×Unit)⊕(Unit))) <|
 .br (decide (x1.1<(x1.2.2.2.1.length:Int))) (
 .ob (idx u1.1 x1.1) fun e2=>
 .ob (idx u2.1 x1.1) fun e3=>
 .br (!(and (e2.1==e3.1) (and (e2.2.1==e3.2.1) true))) (
 .leaf (.inr (.inl (false,())))) (
 .ob (idx u1.1 x1.1) fun e4=>
 .ob (idx u2.1 x1.1) fun e5=>
 .ob (Is (e4.2.2.1,()) (e5.2.2.1,())) fun r6=>
 .br (!r6.1) (
 .leaf (.inr (.inl (false,())))) (
 .ob (idx u1.1 x1.1) fun e7=>
 .ob (idx u2.1 x1.1) fun e8=>
 .br (e7.2.2.2.1 != e8.2.2.2.1) (
 .leaf (.inr (.inl (false,())))) (
 .leaf (.inl ((i64.wrap (x1.1+(1:Int))),x1.2.1,x1.2.2.1,u1.1,u1.2.1,u1.2.2.1,u2.1,())))))) (
 .leaf (.inr (.inr ())))
def T7 (a0:A7) (a1:A7):Tree ((Bool×Unit)):=
 .br (!(and (a0.1==a1.1) (and (a0.2.1==a1.2.1) true))) (
 .leaf (false,())) (
 .br ((a0.2.2.1.length:Int) != (a1.2.2.1.length:Int)) (
 .leaf (false,())) (
 .ob (Ay Gi ((0:Int),a0.1,a0.2.1,a0.2.2.1,a1.1,a1.2.1,a1.2.2.1,())) fun o9=>
 .sm o9 (fun o10=>
 .leaf o10) (fun o11=>
 .leaf (true,()))))
def Nx (a0:A7) (a1:A7):Option ((Bool×Unit)):=(T7 a0 a1).val
def Wh (a0:A4) (a1:A4):Tree ((Bool×Unit)):=
 letI u1:=a0.2.2.2;letI u2:=u1.2.2.2;letI u3:=u2.2.2.2;letI u4:=u3.2.2.2;letI u5:=u4.2.2.2;letI u6:=u5.2.2.2.2;letI u7:=a1.2.2.2;letI u8:=u7.2.2.2;letI u9:=u8.2.2.2;letI u10:=u9.2.2.2;letI u11:=u10.2.2.2;letI u12:=u11.2.2.2.2;.br (a0.1==a1.1) (
 .ob (Is (a0.2.1,()) (a1.2.1,())) fun r1=>
 .br r1.1 (
 .ob (Is (a0.2.2.1,()) (a1.2.2.1,())) fun r2=>
 .br r2.1 (
 .ob (Pz (u1.1,u1.2.1,u1.2.2.1,u2.1,u2.2.1,u2.2.2.1,u3.1,u3.2.1,u3.2.2.1,u4.1,u4.2.1,u4.2.2.1,u5.1,u5.2.1,u5.2.2.1,()) (u7.1,u7.2.1,u7.2.2.1,u8.1,u8.2.1,u8.2.2.1,u9.1,u9.2.1,u9.2.2.1,u10.1,u10.2.1,u10.2.2.1,u11.1,u11.2.1,u11.2.2.1,())) fun r3=>
 .br r3.1 (
 .ob (Nx (u5.2.2.2.1,u6.1,u6.2.1,()) (u11.2.2.2.1,u12.1,u12.2.1,())) fun r4=>
 .br r4.1 (
 .br (u6.2.2.1==u12.2.2.1) (
 .br (u6.2.2.2.1==u12.2.2.2.1) (
 .leaf ((u6.2.2.2.2.1==u12.2.2.2.2.1),())) (
 .leaf (false,()))) (
 .leaf (false,()))) (
 .leaf (false,()))) (
 .leaf (false,()))) (
 .leaf (false,()))) (
 .leaf (false,()))) (
 .leaf (false,()))
def P0 (a0:A4) (a1:A4):Option ((Bool×Unit)):=(Wh a0 a1).val
def Wi (a0:A2) (a1:A2):Tree ((Bool×Unit)):=
 letI u1:=a0.2.2.2;letI u2:=u1.2.2.2.2;letI u3:=a1.2.2.2;letI u4:=u3.2.2.2.2;.br (a0.1==a1.1) (
 .br (a0.2.1==a1.2.1) (
 .br (a0.2.2.1==a1.2.2.1) (
 .br (u1.2.2.1==u3.2.2.1) (
 .br (u1.2.2.2.1==u3.2.2.2.1) (
 .br (and (u2.2.2.1==u4.2.2.1) (and (u2.2.2.2.1==u4.2.2.2.1) true)) (
 .br (u2.2.2.2.2.1==u4.2.2.2.2.1) (
 .ob (Cv (u1.1,()) (u3.1,())) fun r1=>
 .br r1.1 (
 .ob (Cv (u1.2.1,()) (u3.2.1,())) fun r2=>
 .br r2.1 (
 .ob (Cv (u2.1,()) (u4.1,())) fun r3=>
 .br r3.1 (
 .ob (Cv (u2.2.1,()) (u4.2.1,())) fun r4=>
 .leaf r4) (
 .leaf (false,()))) (
 .leaf (false,()))) (
 .leaf (false,()))) (
 .leaf (false,()))) (
 .leaf (false,()))) (
 .leaf (false,()))) (
 .leaf (false,()))) (
 .leaf (false,()))) (
 .leaf (false,()))) (
 .leaf (false,()))
def Wj (a0:A2) (a1:A2):Option ((Bool×Unit)):=(Wi a0 a1).val
def Gj (x1:(List A2)×(List A2)×Int×Unit):Option (((List A2)×(List A2)×Int×Unit)⊕((Bool×Unit)⊕(Unit))):=
 Tree.val (α:=((List A2)×(List A2)×Int×Unit)⊕((Bool×Unit)⊕(Unit))) <|
 .br (decide (x1.2.2.1<(x1.1.length:Int))) (
 .ob (idx x1.1 x1.2.2.1) fun e2=>
 .ob (idx x1.2.1 x1.2.2.1) fun e3=>
 .ob (Wj e2 e3) fun r4=>
 .br (!r4.1) (
 .leaf (.inr (.inl (false,())))) (
 .leaf (.inl (x1.1,x1.2.1,(i64.wrap (x1.2.2.1+(1:Int))),())))) (
 .leaf (.inr (.inr ())))
def T8 (a0:(List A2)×Unit) (a1:(List A2)×Unit):Tree ((Bool×Unit)):=
 .br ((a0.1.length:Int) != (a1.1.length:Int)) (
 .leaf (false,())) (
 .ob (Ay Gj (a0.1,a1.1,(0:Int),())) fun o5=>
 .sm o5 (fun o6=>
 .leaf o6) (fun o7=>
 .leaf (true,())))
def T9 (a0:(List A2)×Unit) (a1:(List A2)×Unit):Option ((Bool×Unit)):=(T8 a0 a1).val
def Ae6 (a0:A4):Tree (A4):=
 .ob (Gx a0) fun r1=>
 .br (!r1.1) (
 .ob (I7 a0) fun r2=>
 .leaf r2) (
 .ob (Bg (a0.2.1,())) fun r3=>
 .ob (Bg (a0.2.2.1,())) fun r4=>
 .leaf (a0.1,r3.1,r4.1,(0:Int),([]:List YB),(0:Int),([]:List YB),(0:Int),(0:Int),([]:List YI),(0:Int),([]:List YB),(0:Int),(0:Int),([]:List YI),false,(0:Int),([]:List YB),(0:Int),(0:Int),([]:List Am),a0.2.2.2.2.2.2.2.2.2.2.2.2.2.2.2.2.2.2.2.2.2.1,(0:Int),true,()))
def Wk (a0:A4):Option (A4):=(Ae6 a0).val
def Aan (a0:A4):Tree (A4×((List Bj)×Unit)×((List A2)×Unit)):=
 letI u1:=a0.2.2.2;letI u2:=u1.2.2;letI u3:=u2.2.2.2;letI u4:=u3.2.2.2;letI u5:=u4.2.2.2;letI u6:=u5.2.2.2;.ob (I7 a0) fun r1=>letI u7:=r1.2.2.2.2.2.2.2.2.2.2.2.2.2.2.2.2.2.2;
 .ob (Gx a0) fun r2=>
 .br (!r2.1) (
 .leaf (r1,(([]:List Bj),()),(([]:List A2),()))) (
 .br u6.2.2.2.2.2.2.1 (
 .leaf (r1,(([]:List Bj),()),(([]:List A2),()))) (
 .br (u2.1 != (0:Int)) (
 .leaf (r1,(([]:List Bj),()),(([]:List A2),()))) (
 .ob (Abu (u1.1,u1.2.1,u2.1,u2.2.1,u2.2.2.1,u3.1,u3.2.1,u3.2.2.1,u4.1,u4.2.1,u4.2.2.1,u5.1,u5.2.1,u5.2.2.1,u6.1,())) fun r3=>letI u8:=r3.1.2.2.2;letI u9:=u8.2.2.2;letI u10:=u9.2.2.2.2;
 .br (r3.2.2.1 != (0:Int)) (
 .leaf (r1,(([]:List Bj),()),(([]:List A2),()))) (
 .ob (Fb r3.1 r3.2.1) fun r4=>
 .leaf ((r1.1,r1.2.1,r1.2.2.1,r3.1.1,r3.1.2.1,r3.1.2.2.1,u8.1,u8.2.1,u8.2.2.1,u9.1,u9.2.1,u9.2.2.1,u9.2.2.2.1,u10.1,u10.2.1,u10.2.2.1,u10.2.2.2.1,u10.2.2.2.2.1,u7.1,u7.2.1,u7.2.2.1,u7.2.2.2.1,u7.2.2.2.2.1,u7.2.2.2.2.2.1,()),([(u6.2.1,u6.2.2.1,r3.2.1.1,r3.2.1.2.1,r3.2.1.2.2.1,r3.2.1.2.2.2.1,r3.2.1.2.2.2.2.1,r3.2.1.2.2.2.2.2.1,r3.2.1.2.2.2.2.2.2.1,r3.2.1.2.2.2.2.2.2.2.1,r3.2.1.2.2.2.2.2.2.2.2.1,r3.2.1.2.2.2.2.2.2.2.2.2.1,r3.2.1.2.2.2.2.2.2.2.2.2.2.1,())],()),([r4],()))))))
def Aao (a0:A4):Option (A4×((List Bj)×Unit)×((List A2)×Unit)):=(Aan a0).val
def Wl (a0:A4) (a1:YBs):Tree (A4×((List Bj)×Unit)×((List A2)×Unit)×YI):=
 letI u1:=a0.2.2.2;letI u2:=u1.2.2.2;letI u3:=u2.2.2.2;letI u4:=u3.2.2.2;letI u5:=u4.2.2.2.2;.ob (I7 a0) fun r1=>letI u6:=r1.2.2.2.2.2.2.2.2.2.2.2.2.2.2.2.2.2.2;
 .ob (Gx a0) fun r2=>
 .br (!r2.1) (
 .leaf (r1,(([]:List Bj),()),(([]:List A2),()),((1:Int),()))) (
 .br (decide ((a1.1.length:Int)>(40:Int))) (
 .leaf (r1,(([]:List Bj),()),(([]:List A2),()),((1:Int),()))) (
 .br u5.2.2.2.2.2.2.2.1 (
 .leaf (r1,(([]:List Bj),()),(([]:List A2),()),((6:Int),()))) (
 .ob (Ch (u1.1,u1.2.1,u1.2.2.1,u2.1,u2.2.1,u2.2.2.1,u3.1,u3.2.1,u3.2.2.1,u4.1,u4.2.1,u4.2.2.1,u4.2.2.2.1,u5.1,u5.2.1,()) ((4:Int),()) a1) fun r3=>letI u7:=r3.1.2.2.2;letI u8:=u7.2.2.2;letI u9:=u8.2.2.2.2;
 .br (r3.2.2.1 != (0:Int)) (
 .leaf (r1,(([]:List Bj),()),(([]:List A2),()),r3.2.2)) (
 .ob (Bg (r3.2.1.2.2.2.1,())) fun r4=>
 .ob (Bg a1) fun r5=>
 .ob (Fb r3.1 r3.2.1) fun r6=>
 .leaf ((r1.1,r1.2.1,r1.2.2.1,r3.1.1,r3.1.2.1,r3.1.2.2.1,u7.1,u7.2.1,u7.2.2.1,u8.1,u8.2.1,u8.2.2.1,u8.2.2.2.1,u9.1,u9.2.1,u9.2.2.1,u9.2.2.2.1,u9.2.2.2.2.1,u6.1,u6.2.1,u6.2.2.1,u6.2.2.2.1,u6.2.2.2.2.1,u6.2.2.2.2.2.1,()),([(u5.2.2.1,u5.2.2.2.1,r3.2.1.1,r3.2.1.2.1,r3.2.1.2.2.1,r3.2.1.2.2.2.1,r3.2.1.2.2.2.2.1,r3.2.1.2.2.2.2.2.1,r3.2.1.2.2.2.2.2.2.1,r3.2.1.2.2.2.2.2.2.2.1,r3.2.1.2.2.2.2.2.2.2.2.1,r3.2.1.2.2.2.2.2.2.2.2.2.1,r3.2.1.2.2.2.2.2.2.2.2.2.2.1,())],()),([r6,((5:Int),(0:Int),(1:Int),([]:List YB),r4.1,r3.2.1.2.2.2.2.2.2.2.1,r3.2.1.2.2.2.2.2.2.2.2.1,r5.1,([]:List YB),(0:Int),(0:Int),(0:Int),())],()),((0:Int),()))))))
def Wm (a0:A4) (a1:YBs):Option (A4×((List Bj)×Unit)×((List A2)×Unit)×YI):=(Wl a0 a1).val
def Ae7 (a0:Aj):Tree (((List YBs)×Unit)):=
 letI u1:=a0.2.2.2;letI u2:=u1.2.2.2.2.2.2.2.2.2;.ob (Fz a0) fun r1=>
 .br (!r1.1) (
 .leaf (([]:List YBs),())) (
 .br u2.1 (
 .ob (Bg (u1.2.2.2.2.2.1,())) fun r2=>
 .chk (decide (([]:List YBs).length+[r2].length≤4294967296)) <|
 .ob (Bg (u1.1,())) fun r3=>
 .chk (decide ((([]:List YBs)++[r2]).length+[r3].length≤4294967296)) <|
 .br (decide ((a0.2.2.2.2.2.2.2.2.2.2.2.2.2.2.1.length:Int)>(0:Int))) (
 .ob (Bg (u2.2.2.1,())) fun r4=>
 .chk (decide (((([]:List YBs)++[r2])++[r3]).length+[r4].length≤4294967296)) <|
 .leaf ((((([]:List YBs)++[r2])++[r3])++[r4]),())) (
 .leaf (((([]:List YBs)++[r2])++[r3]),()))) (
 .ob (Bg (u1.1,())) fun r5=>
 .chk (decide (([]:List YBs).length+[r5].length≤4294967296)) <|
 .br (decide ((a0.2.2.2.2.2.2.2.2.2.2.2.2.2.2.1.length:Int)>(0:Int))) (
 .ob (Bg (u2.2.2.1,())) fun r6=>
 .chk (decide ((([]:List YBs)++[r5]).length+[r6].length≤4294967296)) <|
 .leaf (((([]:List YBs)++[r5])++[r6]),())) (
 .leaf ((([]:List YBs)++[r5]),()))))
def Uv (a0:Aj):Option (((List YBs)×Unit)):=(Ae7 a0).val
def F6 (a0:YBs):Tree ((Bool×Unit)):=
 .ob (A0z a0) fun r1=>
 .br r1.1 (
 .leaf (true,())) (
 .ob (N9 a0) fun r2=>letI u1:=r2.2.2;
 .ob (Jf r2.1 r2.2.1 u1.1 u1.2.1 u1.2.2) fun r3=>
 .ob (Wc r2.1 r2.2.1 u1.1 u1.2.1 u1.2.2) fun r4=>
 .ob (Gx r2.1) fun r5=>
 .ob (Pk r2.1) fun r6=>
 .br (!(r5.1==r6.1)) (
 .leaf (false,())) (
 .ob (P0 r3.1 r4.1) fun r7=>
 .br (!r7.1) (
 .leaf (false,())) (
 .br (!(r3.2.2.2.1==r4.2.2.2.1)) (
 .leaf (false,())) (
 .ob (T9 r3.2.2.1 r4.2.2.1) fun r8=>
 .br (!r8.1) (
 .leaf (false,())) (
 .ob (Wk r2.1) fun r9=>letI u2:=r9.2.2.2;letI u3:=u2.2.2.2;letI u4:=u3.2.2.2;letI u5:=u4.2.2.2;letI u6:=u5.2.2.2;
 .ob (Gx r2.1) fun r10=>
 .br (!r10.1) (
 .ob (P0 r9 r2.1) fun r11=>
 .br r11.1 (
 .leaf (((r3.2.1.1.length:Int)==(0:Int)),())) (
 .leaf (false,()))) (
 .ob (Jf r9 r2.2.1 u1.1 u1.2.1 u1.2.2) fun r12=>
 .ob (Aao r9) fun r13=>
 .ob (Wm r9 ([((1:Int),())],())) fun r14=>
 .br u6.2.2.2.2.2.2.2.2.1 (
 .ob (Gx r9) fun r15=>
 .br r15.1 (
 .br ((i64.wrap ((i64.wrap ((i64.wrap ((i64.wrap ((i64.wrap ((r12.2.1.1.length:Int)+(r13.2.1.1.length:Int)))+(r14.2.1.1.length:Int)))+(r12.2.2.1.1.length:Int)))+(r13.2.2.1.length:Int)))+(r14.2.2.1.1.length:Int)))==(0:Int)) (
 .br (!r12.2.2.2.1) (
 .br (r14.2.2.2.1==(6:Int)) (
 .ob (Is (r9.2.2.1,()) (r2.1.2.2.1,())) fun r16=>
 .br r16.1 (
 .ob (Uv (u2.1,u2.2.1,u2.2.2.1,u3.1,u3.2.1,u3.2.2.1,u4.1,u4.2.1,u4.2.2.1,u5.1,u5.2.1,u5.2.2.1,u6.1,u6.2.1,u6.2.2.1,())) fun r17=>
 .leaf (((r17.1.length:Int)==(0:Int)),())) (
 .leaf (false,()))) (
 .leaf (false,()))) (
 .leaf (false,()))) (
 .leaf (false,()))) (
 .leaf (false,()))) (
 .leaf (false,()))))))))
def S1 (a0:YBs):Option ((Bool×Unit)):=(F6 a0).val
end
end Go.Proofs.YtmhhajdeafijmaaGreat

/-
  What the functions of the seat answer, as plain terms (printed by a program, proved in the texts P); nothing is assumed.
-/
import Derived.Test.YtmhhajdeafijmaaGreatW0
namespace Go.Proofs.YtmhhajdeafijmaaGreat
open Go.RowKit IntKind
set_option linter.unusedVariables false
set_option maxRecDepth 100000
set_option maxHeartbeats 4000000
noncomputable section
def Qr (a0:Af):Tree ((Bool×Unit)):=
 letI u1:=a0.2.2.2;letI u2:=u1.2.2.2;letI u3:=u2.2.2.2;.br (a0.1==(0:Int)) (
 .br ((a0.2.1.length:Int)==(0:Int)) (
 .ob (Pn (a0.2.2.1,u1.1,u1.2.1,u1.2.2.1,u2.1,()) ((0:Int),([]:List YB),(0:Int),(0:Int),([]:List YI),())) fun r1=>
 .br r1.1 (
 .ob (Pn (u2.2.1,u2.2.2.1,u3.1,u3.2.1,u3.2.2.1,()) ((0:Int),([]:List YB),(0:Int),(0:Int),([]:List YI),())) fun r2=>
 .br r2.1 (
 .br (!u3.2.2.2.1) (
 .br (u3.2.2.2.2.1==(0:Int)) (
 .leaf (((a0.2.2.2.2.2.2.2.2.2.2.2.2.2.2.1.length:Int)==(0:Int)),())) (
 .leaf (false,()))) (
 .leaf (false,()))) (
 .leaf (false,()))) (
 .leaf (false,()))) (
 .leaf (false,()))) (
 .leaf (false,()))
def L8 (a0:Af):Option ((Bool×Unit)):=(Qr a0).val
def Aob (a0:YBs):Tree ((Bool×Unit)):=
 .leaf (((a0.1.length:Int)==(12:Int)),())
def Cs (a0:YBs):Option ((Bool×Unit)):=(Aob a0).val
def Ac6 (a0:A9):Tree ((Bool×Unit)):=
 letI u1:=a0.2.2;.br (!a0.1) (
 .leaf ((and (a0.1==false) (and (a0.2.1==(0:Int)) (and (u1.1==(0:Int)) (and (u1.2.1==(0:Int)) true)))),())) (
 .br (u1.1==(1:Int)) (
 .ob (A3 (a0.2.1,()) ((0:Int),()) ((1000008:Int),())) fun r1=>
 .br r1.1 (
 .ob (A3 (u1.2.1,()) ((1:Int),()) ((5:Int),())) fun r2=>
 .leaf r2) (
 .leaf (false,()))) (
 .br (u1.1==(2:Int)) (
 .ob (A3 (a0.2.1,()) ((0:Int),()) ((1000008:Int),())) fun r3=>
 .br r3.1 (
 .ob (A3 (u1.2.1,()) ((1:Int),()) ((5:Int),())) fun r4=>
 .leaf r4) (
 .leaf (false,()))) (
 .br (u1.1==(4:Int)) (
 .ob (A3 (a0.2.1,()) ((0:Int),()) ((1000008:Int),())) fun r5=>
 .br r5.1 (
 .ob (A3 (u1.2.1,()) ((1:Int),()) ((5:Int),())) fun r6=>
 .leaf r6) (
 .leaf (false,()))) (
 .ob (A3 (a0.2.1,()) ((0:Int),()) ((1000008:Int),())) fun r7=>
 .br r7.1 (
 .br (u1.1==(8:Int)) (
 .ob (A3 (u1.2.1,()) ((1:Int),()) ((5:Int),())) fun r8=>
 .leaf r8) (
 .leaf (false,()))) (
 .leaf (false,()))))))
def Km (a0:A9):Option ((Bool×Unit)):=(Ac6 a0).val
def Ag0 (a0:YI):Tree ((Bool×Unit)):=
 .ob (A3 a0 ((4:Int),()) ((8:Int),())) fun r1=>
 .leaf r1
def Gw (a0:YI):Option ((Bool×Unit)):=(Ag0 a0).val
def Ag1 (a0:YI) (a1:YI):Tree ((Bool×Unit)):=
 .br (a0.1==(4:Int)) (
 .leaf ((decide (a1.1≤(40:Int))),())) (
 .br (a0.1==(5:Int)) (
 .leaf ((a1.1==(12:Int)),())) (
 .br (a0.1==(6:Int)) (
 .leaf ((a1.1==(12:Int)),())) (
 .leaf ((a1.1==(4:Int)),()))))
def Ahu (a0:YI) (a1:YI):Option ((Bool×Unit)):=(Ag1 a0 a1).val
def Ac8 (a0:Aa):Tree ((Bool×Unit)):=
 letI u1:=a0.2.2;letI u2:=u1.2.2;letI u3:=u2.2.2.2;.br (a0.1==(1:Int)) (
 .ob (A3 (a0.2.1,()) ((1:Int),()) ((9:Int),())) fun r1=>
 .br r1.1 (
 .ob (Cs (u1.1,())) fun r2=>
 .br r2.1 (
 .ob (Fm a0 (a0.1,a0.2.1,u1.1,([]:List YB),(0:Int),([]:List YB),([]:List YB),(0:Int),(0:Int),([]:List YB),([]:List YB),())) fun r3=>
 .leaf r3) (
 .leaf (false,()))) (
 .leaf (false,()))) (
 .br (a0.1==(2:Int)) (
 .ob (Cs (u1.1,())) fun r4=>
 .br r4.1 (
 .ob (Cs (u1.2.1,())) fun r5=>
 .br r5.1 (
 .ob (A3 (u2.1,()) ((0:Int),()) ((1000000:Int),())) fun r6=>
 .br r6.1 (
 .br ((a0.2.2.2.2.2.1.length:Int)==(16:Int)) (
 .ob (Fm a0 (a0.1,(0:Int),u1.1,u1.2.1,u2.1,u2.2.1,([]:List YB),(0:Int),(0:Int),([]:List YB),([]:List YB),())) fun r7=>
 .leaf r7) (
 .leaf (false,()))) (
 .leaf (false,()))) (
 .leaf (false,()))) (
 .leaf (false,()))) (
 .br (a0.1==(3:Int)) (
 .ob (A3 (a0.2.1,()) ((1:Int),()) ((9:Int),())) fun r8=>
 .br r8.1 (
 .ob (Cs (u1.1,())) fun r9=>
 .br r9.1 (
 .ob (Cs (u1.2.1,())) fun r10=>
 .br r10.1 (
 .ob (A3 (u2.1,()) ((0:Int),()) ((1000000:Int),())) fun r11=>
 .br r11.1 (
 .br ((a0.2.2.2.2.2.1.length:Int)==(16:Int)) (
 .br ((a0.2.2.2.2.2.2.1.length:Int)==(16:Int)) (
 .ob (Fm a0 (a0.1,a0.2.1,u1.1,u1.2.1,u2.1,u2.2.1,u2.2.2.1,(0:Int),(0:Int),([]:List YB),([]:List YB),())) fun r12=>
 .leaf r12) (
 .leaf (false,()))) (
 .leaf (false,()))) (
 .leaf (false,()))) (
 .leaf (false,()))) (
 .leaf (false,()))) (
 .leaf (false,()))) (
 .ob (Gw (a0.1,())) fun r13=>
 .br r13.1 (
 .ob (Cs (u1.2.1,())) fun r14=>
 .br r14.1 (
 .ob (A3 (u3.1,()) ((0:Int),()) ((4294967295:Int),())) fun r15=>
 .br r15.1 (
 .ob (A3 (u3.2.1,()) ((0:Int),()) ((281474976710655:Int),())) fun r16=>
 .br r16.1 (
 .br ((a0.2.2.2.2.2.2.2.2.2.2.1.length:Int)==(16:Int)) (
 .ob (Ahu (a0.1,()) ((a0.2.2.2.2.2.2.2.2.2.1.length:Int),())) fun r17=>
 .br r17.1 (
 .ob (Fm a0 (a0.1,(0:Int),([]:List YB),u1.2.1,(0:Int),([]:List YB),([]:List YB),u3.1,u3.2.1,u3.2.2.1,u3.2.2.2.1,())) fun r18=>
 .leaf r18) (
 .leaf (false,()))) (
 .leaf (false,()))) (
 .leaf (false,()))) (
 .leaf (false,()))) (
 .leaf (false,()))) (
 .leaf (false,())))))
def F8 (a0:Aa):Option ((Bool×Unit)):=(Ac8 a0).val
def Ag2 (a0:YI):Tree ((Bool×Unit)):=
 .br (a0.1==(0:Int)) (
 .leaf (true,())) (
 .leaf ((a0.1==(1:Int)),()))
def Ju (a0:YI):Option ((Bool×Unit)):=(Ag2 a0).val
def I3 (x1:(List YI)×Int×(List YI)×Int×Int×Unit):Option (((List YI)×Int×(List YI)×Int×Int×Unit)⊕((Bool×Unit)⊕((List YI)×Int×Unit))):=
 letI u1:=x1.2.2;Tree.val (α:=((List YI)×Int×(List YI)×Int×Int×Unit)⊕((Bool×Unit)⊕((List YI)×Int×Unit))) <|
 .br (decide (u1.2.2.1<u1.2.1)) (
 .ob (idx u1.1 u1.2.2.1) fun e2=>
 .ob (A3 e2 ((0:Int),()) ((4294967295:Int),())) fun r3=>
 .br (!r3.1) (
 .leaf (.inr (.inl (false,())))) (
 .leaf (.inl (x1.1,x1.2.1,u1.1,u1.2.1,(i64.wrap (u1.2.2.1+(1:Int))),())))) (
 .leaf (.inr (.inr (x1.1,x1.2.1,()))))
def Zd (a0:(List YI)×Unit) (a1:YI):Tree ((Bool×Unit)):=
 .ob (Ay I3 (a0.1,a1.1,a0.1,(a0.1.length:Int),(0:Int),())) fun o4=>
 .sm o4 (fun o5=>
 .leaf o5) (fun o6=>
 .leaf (((o6.1.length:Int)==o6.2.1),()))
def Lg (a0:(List YI)×Unit) (a1:YI):Option ((Bool×Unit)):=(Zd a0 a1).val
def Ag3 (a0:Bn) (a1:YI):Tree ((Bool×Unit)):=
 .chk (decide ((0:Int)≤a1.1)) <|
 .chk (decide ((0:Int)≤(a1.1%(1024:Int)))) <|
 .ob (idx a0.2.1 ((a1.1%(1024:Int))/(32:Int))) fun e1=>
 .chk (decide ((0:Int)≤a1.1)) <|
 .chk (decide ((0:Int)≤(a1.1%(32:Int)))) <|
 .leaf (((i64.wrap ((BitVec.ofInt (i64.bits) ((Int.fdiv e1.1 (2^(min ((a1.1%(32:Int))).toNat i64.bits)))) &&& BitVec.ofInt (i64.bits) ((1:Int))).toNat:Nat))==(1:Int)),())
def Po (a0:Bn) (a1:YI):Option ((Bool×Unit)):=(Ag3 a0 a1).val
def Kj (x3:Int×Int×(List YI)×Unit):Option ((Int×Int×(List YI)×Unit)⊕((Bool×Unit)⊕Bn)):=
 Tree.val (α:=(Int×Int×(List YI)×Unit)⊕((Bool×Unit)⊕Bn)) <|
 .br (decide (x3.1<(1024:Int))) (
 .ob (Po (x3.2.1,x3.2.2.1,()) (x3.1,())) fun r4=>
 .br r4.1 (
 .leaf (.inr (.inl (false,())))) (
 .leaf (.inl ((i64.wrap (x3.1+(1:Int))),x3.2.1,x3.2.2.1,())))) (
 .leaf (.inr (.inr (x3.2.1,x3.2.2.1,()))))
def Ak0 (a0:Bn):Tree ((Bool×Unit)):=
 .ob (A3 (a0.1,()) ((-1:Int),()) ((281474976710655:Int),())) fun r1=>
 .br (!r1.1) (
 .leaf (false,())) (
 .ob (Lg (a0.2.1,()) ((32:Int),())) fun r2=>
 .br (!r2.1) (
 .leaf (false,())) (
 .ob (Ay Kj ((i64.wrap (a0.1+(1:Int))),a0.1,a0.2.1,())) fun o5=>
 .sm o5 (fun o6=>
 .leaf o6) (fun o7=>
 .br (o7.1==(-1:Int)) (
 .leaf (true,())) (
 .ob (Po o7 (o7.1,())) fun r8=>
 .leaf r8))))
def Abn (a0:Bn):Option ((Bool×Unit)):=(Ak0 a0).val
def Apq (a0:YEp):Tree ((Bool×Unit)):=
 .ob (A3 (a0.1,()) ((0:Int),()) ((4294967295:Int),())) fun r1=>
 .br r1.1 (
 .br ((a0.2.1.length:Int)==(32:Int)) (
 .ob (A3 (a0.2.2.1,()) ((0:Int),()) ((281474976710656:Int),())) fun r2=>
 .br r2.1 (
 .ob (Abn (a0.2.2.2.1,a0.2.2.2.2.1,())) fun r3=>
 .leaf r3) (
 .leaf (false,()))) (
 .leaf (false,()))) (
 .leaf (false,()))
def Qz (a0:YEp):Option ((Bool×Unit)):=(Apq a0).val
def Ak2 (a0:Af):Tree ((Bool×Unit)):=
 letI u1:=a0.2.2.2.2.2.2.2;letI u2:=u1.2.2;letI u3:=u2.2.2;.br (!u3.2.1) (
 .ob (Pn (u1.1,u1.2.1,u2.1,u2.2.1,u3.1,()) ((0:Int),([]:List YB),(0:Int),(0:Int),([]:List YI),())) fun r1=>
 .br r1.1 (
 .leaf ((u3.2.2.1==(0:Int)),())) (
 .leaf (false,()))) (
 .ob (Qz (u1.1,u1.2.1,u2.1,u2.2.1,u3.1,())) fun r2=>
 .br (!r2.1) (
 .leaf (false,())) (
 .br (u1.1 != (i64.wrap (a0.2.2.1-(1:Int)))) (
 .leaf (false,())) (
 .ob (A3 (u3.2.2.1,()) ((0:Int),()) ((1000005:Int),())) fun r3=>
 .br r3.1 (
 .leaf (true,())) (
 .br (u3.2.2.1==(-1:Int)) (
 .leaf ((a0.1==(1:Int)),())) (
 .leaf (false,()))))))
def All (a0:Af):Option ((Bool×Unit)):=(Ak2 a0).val
def Ag5 (a0:Af):Tree ((Bool×Unit)):=
 letI u1:=a0.2.2;.ob (Ju (a0.1,())) fun r1=>
 .br (!r1.1) (
 .leaf (false,())) (
 .ob (Cs (a0.2.1,())) fun r2=>
 .br (!r2.1) (
 .leaf (false,())) (
 .ob (Qz (u1.1,u1.2.1,u1.2.2.1,u1.2.2.2.1,u1.2.2.2.2.1,())) fun r3=>
 .br (!r3.1) (
 .leaf (false,())) (
 .ob (All a0) fun r4=>
 .br (!r4.1) (
 .leaf (false,())) (
 .br ((a0.2.2.2.2.2.2.2.2.2.2.2.2.2.2.1.length:Int)==(0:Int)) (
 .leaf (true,())) (
 .br (a0.1==(0:Int)) (
 .br ((a0.2.2.2.2.2.2.2.2.2.2.2.2.2.2.1.length:Int)==(32:Int)) (
 .leaf ((decide (u1.1<(4294967295:Int))),())) (
 .leaf (false,()))) (
 .leaf (false,())))))))
def F9 (a0:Af):Option ((Bool×Unit)):=(Ag5 a0).val
def Ze (a0:Ab):Tree ((Bool×Unit)):=
 letI u1:=a0.2.2.2.2.2;letI u2:=u1.2.2;letI u3:=u2.2.2;letI u4:=u3.2.2.2.2;letI u5:=u4.2.2.2.2;letI u6:=u5.2.2;letI u7:=u6.2.2.2;letI u8:=u7.2.2.2;letI u9:=u8.2.2.2;.ob (Cs (u1.1,())) fun r1=>
 .br (!r1.1) (
 .leaf (false,())) (
 .br (u1.2.1 != (3:Int)) (
 .leaf (false,())) (
 .ob (F8 (u1.2.1,u2.1,u2.2.1,u3.1,u3.2.1,u3.2.2.1,u3.2.2.2.1,u4.1,u4.2.1,u4.2.2.1,u4.2.2.2.1,())) fun r2=>
 .br (!r2.1) (
 .leaf (false,())) (
 .br (u2.1 != a0.1) (
 .leaf (false,())) (
 .ob (Do (u2.2.1,()) (u1.1,())) fun r3=>
 .br (!r3.1) (
 .leaf (false,())) (
 .ob (F9 (u5.1,u5.2.1,u6.1,u6.2.1,u6.2.2.1,u7.1,u7.2.1,u7.2.2.1,u8.1,u8.2.1,u8.2.2.1,u9.1,u9.2.1,u9.2.2.1,u9.2.2.2.1,())) fun r4=>
 .br r4.1 (
 .br (u5.1==(0:Int)) (
 .ob (Do (u5.2.1,()) (u3.1,())) fun r5=>
 .br r5.1 (
 .br (u6.1==(0:Int)) (
 .br (!u9.2.1) (
 .leaf (((a0.2.2.2.2.2.2.2.2.2.2.2.2.2.2.2.2.2.2.2.2.2.2.2.2.2.2.2.2.2.2.2.1.length:Int)==(0:Int)),())) (
 .leaf (false,()))) (
 .leaf (false,()))) (
 .leaf (false,()))) (
 .leaf (false,()))) (
 .leaf (false,())))))))
def Aad (a0:Ab):Option ((Bool×Unit)):=(Ze a0).val
def Zf (a0:Ab):Tree ((Bool×Unit)):=
 letI u1:=a0.2.2.2.2;letI u2:=u1.2.2.2;letI u3:=u2.2.2.2;letI u4:=u3.2.2.2;letI u5:=u4.2.2.2.2;letI u6:=u5.2.2;letI u7:=u6.2.2;letI u8:=u7.2.2;letI u9:=u8.2.2;letI u10:=u9.2.2;letI u11:=u10.2.2;letI u12:=u11.2.2;letI u13:=u12.2.2;letI u14:=u13.2.2;letI u15:=u14.2.2;letI u16:=u15.2.2;.ob (A3 (a0.1,()) ((1:Int),()) ((9:Int),())) fun r1=>
 .br (!r1.1) (
 .leaf (false,())) (
 .ob (S7 (a0.2.1,())) fun r2=>
 .br (!r2.1) (
 .leaf (false,())) (
 .ob (Xb (a0.2.2.1,a0.2.2.2.1,())) fun r3=>
 .br (!r3.1) (
 .leaf (false,())) (
 .ob (Fm (u1.2.2.1,u2.1,u2.2.1,u2.2.2.1,u3.1,u3.2.1,u3.2.2.1,u4.1,u4.2.1,u4.2.2.1,u4.2.2.2.1,()) ((0:Int),(0:Int),([]:List YB),([]:List YB),(0:Int),([]:List YB),([]:List YB),(0:Int),(0:Int),([]:List YB),([]:List YB),())) fun r4=>
 .br (u1.1==(0:Int)) (
 .br ((a0.2.2.2.2.2.1.length:Int)==(0:Int)) (
 .br r4.1 (
 .ob (L8 (u5.1,u5.2.1,u6.1,u6.2.1,u7.1,u7.2.1,u8.1,u8.2.1,u9.1,u9.2.1,u10.1,u10.2.1,u11.1,u11.2.1,u12.1,())) fun r5=>
 .br r5.1 (
 .br (and (u12.2.1==false) (and (u13.1==(0:Int)) (and (u13.2.1==(0:Int)) (and (u14.1==(0:Int)) true)))) (
 .br (and (u14.2.1==false) (and (u15.1==(0:Int)) (and (u15.2.1==(0:Int)) (and (u16.1==(0:Int)) true)))) (
 .leaf ((u16.2.1==(0:Int)),())) (
 .leaf (false,()))) (
 .leaf (false,()))) (
 .leaf (false,()))) (
 .leaf (false,()))) (
 .leaf (false,()))) (
 .br (u1.1==(1:Int)) (
 .ob (Cs (u1.2.1,())) fun r6=>
 .br r6.1 (
 .br r4.1 (
 .ob (L8 (u5.1,u5.2.1,u6.1,u6.2.1,u7.1,u7.2.1,u8.1,u8.2.1,u9.1,u9.2.1,u10.1,u10.2.1,u11.1,u11.2.1,u12.1,())) fun r7=>
 .br r7.1 (
 .br u12.2.1 (
 .ob (Km (u12.2.1,u13.1,u13.2.1,u14.1,())) fun r8=>
 .br r8.1 (
 .br (and (u14.2.1==false) (and (u15.1==(0:Int)) (and (u15.2.1==(0:Int)) (and (u16.1==(0:Int)) true)))) (
 .leaf ((u16.2.1==(0:Int)),())) (
 .leaf (false,()))) (
 .leaf (false,()))) (
 .leaf (false,()))) (
 .leaf (false,()))) (
 .leaf (false,()))) (
 .leaf (false,()))) (
 .br (u1.1==(2:Int)) (
 .ob (Aad a0) fun r9=>
 .br r9.1 (
 .br u12.2.1 (
 .ob (Km (u12.2.1,u13.1,u13.2.1,u14.1,())) fun r10=>
 .br r10.1 (
 .br (and (u14.2.1==false) (and (u15.1==(0:Int)) (and (u15.2.1==(0:Int)) (and (u16.1==(0:Int)) true)))) (
 .leaf ((u16.2.1==(0:Int)),())) (
 .leaf (false,()))) (
 .leaf (false,()))) (
 .leaf (false,()))) (
 .leaf (false,()))) (
 .br (u1.1==(3:Int)) (
 .ob (Cs (u1.2.1,())) fun r11=>
 .br r11.1 (
 .br r4.1 (
 .ob (F9 (u5.1,u5.2.1,u6.1,u6.2.1,u7.1,u7.2.1,u8.1,u8.2.1,u9.1,u9.2.1,u10.1,u10.2.1,u11.1,u11.2.1,u12.1,())) fun r12=>
 .br r12.1 (
 .br (u5.1==(0:Int)) (
 .br (and (u12.2.1==false) (and (u13.1==(0:Int)) (and (u13.2.1==(0:Int)) (and (u14.1==(0:Int)) true)))) (
 .ob (Km (u14.2.1,u15.1,u15.2.1,u16.1,())) fun r13=>
 .br r13.1 (
 .br (u14.2.1==(decide ((a0.2.2.2.2.2.2.2.2.2.2.2.2.2.2.2.2.2.2.2.2.2.2.2.2.2.2.2.2.2.2.2.1.length:Int)>(0:Int)))) (
 .ob (A3 (u16.2.1,()) ((0:Int),()) ((1000000:Int),())) fun r14=>
 .leaf r14) (
 .leaf (false,()))) (
 .leaf (false,()))) (
 .leaf (false,()))) (
 .leaf (false,()))) (
 .leaf (false,()))) (
 .leaf (false,()))) (
 .leaf (false,()))) (
 .leaf (false,()))))))))
def Bw (a0:Ab):Option ((Bool×Unit)):=(Zf a0).val
def Apr (a0:Ab):Tree (Ab):=
 .ob (A1 (a0.2.1,())) fun r1=>
 .leaf (a0.1,r1.1,a0.2.2.1,a0.2.2.2.1,(0:Int),([]:List YB),(0:Int),(0:Int),([]:List YB),([]:List YB),(0:Int),([]:List YB),([]:List YB),(0:Int),(0:Int),([]:List YB),([]:List YB),(0:Int),([]:List YB),(0:Int),([]:List YB),(0:Int),(0:Int),([]:List YI),(0:Int),([]:List YB),(0:Int),(0:Int),([]:List YI),false,(0:Int),([]:List YB),false,(0:Int),(0:Int),(0:Int),false,(0:Int),(0:Int),(0:Int),(0:Int),())
def Q0 (a0:Ab):Option (Ab):=(Apr a0).val
def Ak6 (a0:YI) (a1:YI) (a2:YBs):Tree (Ae):=
 .ob (A1 a2) fun r1=>
 .leaf ((11:Int),a0.1,a1.1,([]:List YB),r1.1,(0:Int),(0:Int),([]:List YB),([]:List YB),(0:Int),(0:Int),(0:Int),())
def Abo (a0:YI) (a1:YI) (a2:YBs):Option (Ae):=(Ak6 a0 a1 a2).val
def Zg (a0:Af) (a1:YI):Tree (Af):=
 letI u1:=a0.2.2.2.2.2.2.2.2.2.2.2.2;.ob (Fd a0) fun r1=>letI u2:=r1.2.2.2;
 .ob (F9 a0) fun r2=>
 .br r2.1 (
 .ob (A3 a1 ((0:Int),()) ((1000000:Int),())) fun r3=>
 .br r3.1 (
 .br u1.1 (
 .br (u1.2.1 != (-1:Int)) (
 .br (decide (a1.1>u1.2.1)) (
 .leaf (r1.1,r1.2.1,r1.2.2.1,u2.1,u2.2.1,u2.2.2.1,u2.2.2.2.1,(0:Int),([]:List YB),(0:Int),(0:Int),([]:List YI),false,(0:Int),u2.2.2.2.2.2.2.2.2.2.2.2.1,())) (
 .leaf r1)) (
 .leaf r1)) (
 .leaf r1)) (
 .leaf r1)) (
 .leaf r1)
def Aae (a0:Af) (a1:YI):Option (Af):=(Zg a0 a1).val
def Qs (a0:A9) (a1:YI):Tree ((Bool×Unit)):=
 .ob (Km a0) fun r1=>
 .br r1.1 (
 .br a0.1 (
 .ob (A3 a1 ((0:Int),()) ((1000000:Int),())) fun r2=>
 .br r2.1 (
 .leaf ((decide (a1.1≥a0.2.1)),())) (
 .leaf (false,()))) (
 .leaf (false,()))) (
 .leaf (false,()))
def Q1 (a0:A9) (a1:YI):Option ((Bool×Unit)):=(Qs a0 a1).val
def T1 (a0:A9) (a1:YI):Tree (A9×YI):=
 letI u1:=a0.2.2;.ob (Q1 a0 a1) fun r1=>
 .br (!r1.1) (
 .leaf (a0,((0:Int),()))) (
 .br (u1.2.1==(5:Int)) (
 .leaf ((false,(0:Int),(0:Int),(0:Int),()),((2:Int),()))) (
 .leaf ((true,(i64.wrap (a1.1+(if (8:Int)<(i64.wrap ((2:Int)*u1.1))then(8:Int)else(i64.wrap ((2:Int)*u1.1))))),(if (8:Int)<(i64.wrap ((2:Int)*u1.1))then(8:Int)else(i64.wrap ((2:Int)*u1.1))),(i64.wrap (u1.2.1+(1:Int))),()),((1:Int),()))))
def Nr (a0:A9) (a1:YI):Option (A9×YI):=(T1 a0 a1).val
def Zi (a0:YI):Tree (A9):=
 .ob (A3 a0 ((0:Int),()) ((1000000:Int),())) fun r1=>
 .br (!r1.1) (
 .leaf (false,(0:Int),(0:Int),(0:Int),())) (
 .leaf (true,(i64.wrap (a0.1+(1:Int))),(1:Int),(1:Int),()))
def Lh (a0:YI):Option (A9):=(Zi a0).val
def Arz (x1:Int×(List YB)×Int×Unit):Option ((Int×(List YB)×Int×Unit)⊕(YBs)):=
 letI u1:=x1.2.2;Tree.val (α:=(Int×(List YB)×Int×Unit)⊕(YBs)) <|
 .br (decide (u1.1≥(0:Int))) (
 .chk (decide ((0:Int)≤(i64.wrap ((8:Int)*u1.1)))) <|
 .chk (decide (x1.2.1.length+[((u8.wrap ((i64.wrap ((BitVec.ofInt (i64.bits) ((Int.fdiv x1.1 (2^(min ((i64.wrap ((8:Int)*u1.1))).toNat i64.bits)))) &&& BitVec.ofInt (i64.bits) ((255:Int))).toNat:Nat)))),())].length≤4294967296)) <|
 .leaf (.inl (x1.1,(x1.2.1++[((u8.wrap ((i64.wrap ((BitVec.ofInt (i64.bits) ((Int.fdiv x1.1 (2^(min ((i64.wrap ((8:Int)*u1.1))).toNat i64.bits)))) &&& BitVec.ofInt (i64.bits) ((255:Int))).toNat:Nat)))),())]),(i64.wrap (u1.1-(1:Int))),()))) (
 .leaf (.inr (x1.2.1,())))
def Ayf (a0:YBs) (a1:YI) (a2:YI):Tree (YBs):=
 .chk (decide (([]:List YB).length+a0.1.length≤4294967296)) <|
 .br (decide (a2.1<(1:Int))) (
 .leaf ((([]:List YB)++a0.1),())) (
 .br (decide (a2.1>(6:Int))) (
 .leaf ((([]:List YB)++a0.1),())) (
 .ob (Ay Arz (a1.1,(([]:List YB)++a0.1),(i64.wrap (a2.1-(1:Int))),())) fun o2=>
 .leaf o2))
def Ho (a0:YBs) (a1:YI) (a2:YI):Option (YBs):=(Ayf a0 a1 a2).val
def T2 (a0:YI):Tree (YBs):=
 .ob (A3 a0 ((0:Int),()) ((4294967295:Int),())) fun r1=>
 .br (!r1.1) (
 .leaf (([]:List YB),())) (
 .ob (Ho (([]:List YB),()) a0 ((4:Int),())) fun r2=>
 .leaf r2)
def T5 (a0:YI):Option (YBs):=(T2 a0).val
def I5 (x1:(List YB)×(List YBs)×Int×Int×Unit):Option (((List YB)×(List YBs)×Int×Int×Unit)⊕(YBs)):=
 letI u1:=x1.2.2;Tree.val (α:=((List YB)×(List YBs)×Int×Int×Unit)⊕(YBs)) <|
 .br (decide (u1.2.1<u1.1)) (
 .ob (idx x1.2.1 u1.2.1) fun e2=>
 .chk (decide (x1.1.length+e2.1.length≤4294967296)) <|
 .leaf (.inl ((x1.1++e2.1),x1.2.1,u1.1,(i64.wrap (u1.2.1+(1:Int))),()))) (
 .leaf (.inr (x1.1,())))
def Ag7 (a0:(List YBs)×Unit):Tree (YBs):=
 .ob (Ay I5 (([]:List YB),a0.1,(a0.1.length:Int),(0:Int),())) fun o3=>
 .leaf o3
def Et (a0:(List YBs)×Unit):Option (YBs):=(Ag7 a0).val
def Ag9 (a0:YI) (a1:YBs) (a2:YI) (a3:YI):Tree (YBs):=
 .ob (Ju a0) fun r1=>
 .br (!r1.1) (
 .leaf (([]:List YB),())) (
 .ob (Cs a1) fun r2=>
 .br (!r2.1) (
 .leaf (([]:List YB),())) (
 .ob (A3 a2 ((0:Int),()) ((4294967295:Int),())) fun r3=>
 .br (!r3.1) (
 .leaf (([]:List YB),())) (
 .ob (A3 a3 ((0:Int),()) ((281474976710655:Int),())) fun r4=>
 .br (!r4.1) (
 .leaf (([]:List YB),())) (
 .ob (Ho (([]:List YB),()) a2 ((4:Int),())) fun r5=>
 .ob (Ho (([]:List YB),()) a3 ((6:Int),())) fun r6=>
 .ob (Et ([([((u8.wrap (a0.1)),())],()),a1,r5,r6],())) fun r7=>
 .leaf r7))))
def Pp (a0:YI) (a1:YBs) (a2:YI) (a3:YI):Option (YBs):=(Ag9 a0 a1 a2 a3).val
def Avn:Tree (((List YI)×Unit)):=
 .leaf ([((1779033703:Int),()),((3144134277:Int),()),((1013904242:Int),()),((2773480762:Int),()),((1359893119:Int),()),((2600822924:Int),()),((528734635:Int),()),((1541459225:Int),())],())
def A6h:Option (((List YI)×Unit)):=(Avn).val
def Aoe:Tree (Jr):=
 .ob A6h fun r1=>
 .leaf (r1.1,([]:List YB),(0:Int),())
def Aoo:Option (Jr):=(Aoe).val
def Ahb (a0:Jr):Tree ((Bool×Unit)):=
 .ob (Lg (a0.1,()) ((8:Int),())) fun r1=>
 .br r1.1 (
 .ob (A3 (a0.2.2.1,()) ((0:Int),()) ((1048576:Int),())) fun r2=>
 .br r2.1 (
 .chk (decide ((0:Int)≤a0.2.2.1)) <|
 .leaf (((a0.2.2.1%(64:Int))==(a0.2.1.length:Int)),())) (
 .leaf (false,()))) (
 .leaf (false,()))
def Xc (a0:Jr):Option ((Bool×Unit)):=(Ahb a0).val
def Atv (a0:YBs) (a1:YI) (a2:YI):Tree (YBs×(Bool×Unit)):=
 .br (decide (a1.1<(0:Int))) (
 .leaf ((([]:List YB),()),(false,()))) (
 .br (decide (a2.1<(0:Int))) (
 .leaf ((([]:List YB),()),(false,()))) (
 .br (decide (a1.1>(a0.1.length:Int))) (
 .leaf ((([]:List YB),()),(false,()))) (
 .br (decide (a2.1>(i64.wrap ((a0.1.length:Int)-a1.1)))) (
 .leaf ((([]:List YB),()),(false,()))) (
 .chk (decide ((0:Int)≤a1.1)) <|
 .chk (decide (a1.1≤(i64.wrap (a1.1+a2.1)))) <|
 .chk (decide ((i64.wrap (a1.1+a2.1))≤(a0.1.length:Int))) <|
 .chk (decide (([]:List YB).length+((a0.1.take ((i64.wrap (a1.1+a2.1))).toNat).drop (a1.1).toNat).length≤4294967296)) <|
 .leaf (((([]:List YB)++((a0.1.take ((i64.wrap (a1.1+a2.1))).toNat).drop (a1.1).toNat)),()),(true,()))))))
def At7 (a0:YBs) (a1:YI) (a2:YI):Option (YBs×(Bool×Unit)):=(Atv a0 a1 a2).val
def L4 (x2:Int×Int×Int×(List YB)×Int×Int×Unit):Option ((Int×Int×Int×(List YB)×Int×Int×Unit)⊕((Int×Int×Int×Unit))):=
 letI u1:=x2.2.2;letI u2:=u1.2.2;Tree.val (α:=(Int×Int×Int×(List YB)×Int×Int×Unit)⊕((Int×Int×Int×Unit))) <|
 .br (decide (u2.2.1<u2.1)) (
 .ob (idx u1.2.1 u2.2.1) fun e3=>
 .leaf (.inl (x2.1,x2.2.1,(i64.wrap ((i64.wrap ((256:Int)*u1.1))+(i64.wrap (e3.1)))),u1.2.1,u2.1,(i64.wrap (u2.2.1+(1:Int))),()))) (
 .leaf (.inr (x2.1,x2.2.1,u1.1,())))
def Aps (a0:YBs) (a1:YI) (a2:YI):Tree (YI×YI×(Bool×Unit)):=
 .br (decide (a2.1<(1:Int))) (
 .leaf (((0:Int),()),((0:Int),()),(false,()))) (
 .br (decide (a2.1>(6:Int))) (
 .leaf (((0:Int),()),((0:Int),()),(false,()))) (
 .ob (At7 a0 a1 a2) fun r1=>
 .br (!r1.2.1) (
 .leaf (((0:Int),()),((0:Int),()),(false,()))) (
 .ob (Ay L4 (a1.1,a2.1,(0:Int),r1.1.1,(r1.1.1.length:Int),(0:Int),())) fun o4=>
 .leaf ((o4.2.2.1,()),((i64.wrap (o4.1+o4.2.1)),()),(true,())))))
def Ap4 (a0:YBs) (a1:YI) (a2:YI):Option (YI×YI×(Bool×Unit)):=(Aps a0 a1 a2).val
def Atx (a0:YI) (a1:YI):Tree (YI):=
 .br (decide (a1.1<(0:Int))) (
 .leaf ((i64.wrap ((BitVec.ofInt (i64.bits) (a0.1) &&& BitVec.ofInt (i64.bits) ((4294967295:Int))).toNat:Nat)),())) (
 .br (decide (a1.1>(31:Int))) (
 .leaf ((i64.wrap ((BitVec.ofInt (i64.bits) (a0.1) &&& BitVec.ofInt (i64.bits) ((4294967295:Int))).toNat:Nat)),())) (
 .chk (decide ((0:Int)≤a1.1)) <|
 .chk (decide ((0:Int)≤(i64.wrap ((32:Int)-a1.1)))) <|
 .leaf ((i64.wrap ((BitVec.ofInt (i64.bits) ((i64.wrap ((BitVec.ofInt (i64.bits) ((Int.fdiv (i64.wrap ((BitVec.ofInt (i64.bits) (a0.1) &&& BitVec.ofInt (i64.bits) ((4294967295:Int))).toNat:Nat)) (2^(min (a1.1).toNat i64.bits)))) ||| BitVec.ofInt (i64.bits) ((i64.wrap ((i64.wrap ((BitVec.ofInt (i64.bits) (a0.1) &&& BitVec.ofInt (i64.bits) ((4294967295:Int))).toNat:Nat))*2^(min ((i64.wrap ((32:Int)-a1.1))).toNat i64.bits))))).toNat:Nat))) &&& BitVec.ofInt (i64.bits) ((4294967295:Int))).toNat:Nat)),())))
def H1 (a0:YI) (a1:YI):Option (YI):=(Atx a0 a1).val
def Hf (x1:(List YB)×(List YI)×Int×Unit):Option (((List YB)×(List YI)×Int×Unit)⊕(((List YI)×Unit))):=
 letI u1:=x1.2.2;Tree.val (α:=((List YB)×(List YI)×Int×Unit)⊕(((List YI)×Unit))) <|
 .br (decide (u1.1<(16:Int))) (
 .ob (Ap4 (x1.1,()) ((i64.wrap ((4:Int)*u1.1)),()) ((4:Int),())) fun r2=>
 .ob (idx x1.2.1 u1.1) fun e3=>
 let q4:=(x1.2.1.set (u1.1).toNat r2.1)
 .leaf (.inl (x1.1,q4,(i64.wrap (u1.1+(1:Int))),()))) (
 .leaf (.inr (x1.2.1,())))
def Hg (x6:(List YI)×Int×Unit):Option (((List YI)×Int×Unit)⊕(((List YI)×Unit))):=
 Tree.val (α:=((List YI)×Int×Unit)⊕(((List YI)×Unit))) <|
 .br (decide (x6.2.1<(64:Int))) (
 .ob (idx x6.1 (i64.wrap (x6.2.1-(15:Int)))) fun e7=>
 .ob (idx x6.1 (i64.wrap (x6.2.1-(2:Int)))) fun e8=>
 .ob (H1 e7 ((7:Int),())) fun r9=>
 .ob (H1 e7 ((18:Int),())) fun r10=>
 .ob (H1 e8 ((17:Int),())) fun r11=>
 .ob (H1 e8 ((19:Int),())) fun r12=>
 .ob (idx x6.1 (i64.wrap (x6.2.1-(7:Int)))) fun e13=>
 .ob (idx x6.1 (i64.wrap (x6.2.1-(16:Int)))) fun e14=>
 .ob (idx x6.1 x6.2.1) fun e15=>
 let q16:=(x6.1.set (x6.2.1).toNat ((i64.wrap ((BitVec.ofInt (i64.bits) ((i64.wrap ((i64.wrap ((i64.wrap (e13.1+e14.1))+(i64.wrap ((BitVec.ofInt (i64.bits) ((i64.wrap ((BitVec.ofInt (i64.bits) (r9.1) ^^^ BitVec.ofInt (i64.bits) (r10.1)).toNat:Nat))) ^^^ BitVec.ofInt (i64.bits) ((Int.fdiv e7.1 (2^(min ((3:Int)).toNat i64.bits))))).toNat:Nat))))+(i64.wrap ((BitVec.ofInt (i64.bits) ((i64.wrap ((BitVec.ofInt (i64.bits) (r11.1) ^^^ BitVec.ofInt (i64.bits) (r12.1)).toNat:Nat))) ^^^ BitVec.ofInt (i64.bits) ((Int.fdiv e8.1 (2^(min ((10:Int)).toNat i64.bits))))).toNat:Nat))))) &&& BitVec.ofInt (i64.bits) ((4294967295:Int))).toNat:Nat)),()))
 .leaf (.inl (q16,(i64.wrap (x6.2.1+(1:Int))),()))) (
 .leaf (.inr (x6.1,())))
def O9 (a0:YBs):Tree (((List YI)×Unit)):=
 .br ((a0.1.length:Int) != (64:Int)) (
 .leaf (([]:List YI),())) (
 .ob (Ay Hf (a0.1,(List.replicate ((64:Int)).toNat ((0:Int),())),(0:Int),())) fun o5=>
 .ob (Ay Hg (o5.1,(16:Int),())) fun o17=>
 .leaf o17)
def Aaf (a0:YBs):Option (((List YI)×Unit)):=(O9 a0).val
def Ajl (a0:YI):Tree YI:=.leaf (Su a0.1,())
def Ajr (a0:YI):Option YI:=(Ajl a0).val
def Avp (a0:YI) (a1:YI):Tree (YI):=
 .leaf ((i64.wrap ((BitVec.ofInt (i64.bits) ((i64.wrap (a0.1+a1.1))) &&& BitVec.ofInt (i64.bits) ((4294967295:Int))).toNat:Nat)),())
def Abp (a0:YI) (a1:YI):Option (YI):=(Avp a0 a1).val
def Fw (x11:(List YI)×(List YI)×(List YI)×Int×Int×Int×Int×Int×Int×Int×Int×Int×Unit):Option (((List YI)×(List YI)×(List YI)×Int×Int×Int×Int×Int×Int×Int×Int×Int×Unit)⊕(((List YI)×(List YI)×Int×Int×Int×Int×Int×Int×Int×Int×Unit))):=
 letI u1:=x11.2.2.2;letI u2:=u1.2.2;letI u3:=u2.2.2;letI u4:=u3.2.2;Tree.val (α:=((List YI)×(List YI)×(List YI)×Int×Int×Int×Int×Int×Int×Int×Int×Int×Unit)⊕(((List YI)×(List YI)×Int×Int×Int×Int×Int×Int×Int×Int×Unit))) <|
 .br (decide (u4.2.2.1<(64:Int))) (
 .ob (H1 (u3.1,()) ((6:Int),())) fun r12=>
 .ob (H1 (u3.1,()) ((11:Int),())) fun r13=>
 .ob (H1 (u3.1,()) ((25:Int),())) fun r14=>
 .ob (Ajr (u4.2.2.1,())) fun r15=>
 .ob (idx x11.2.2.1 u4.2.2.1) fun e16=>
 .ob (H1 (u1.1,()) ((2:Int),())) fun r17=>
 .ob (H1 (u1.1,()) ((13:Int),())) fun r18=>
 .ob (H1 (u1.1,()) ((22:Int),())) fun r19=>
 .ob (Abp (u2.2.1,()) ((i64.wrap ((i64.wrap ((i64.wrap ((i64.wrap (u4.2.1+(i64.wrap ((BitVec.ofInt (i64.bits) ((i64.wrap ((BitVec.ofInt (i64.bits) (r12.1) ^^^ BitVec.ofInt (i64.bits) (r13.1)).toNat:Nat))) ^^^ BitVec.ofInt (i64.bits) (r14.1)).toNat:Nat))))+(i64.wrap ((BitVec.ofInt (i64.bits) ((i64.wrap ((BitVec.ofInt (i64.bits) (u3.1) &&& BitVec.ofInt (i64.bits) (u3.2.1)).toNat:Nat))) ^^^ BitVec.ofInt (i64.bits) ((i64.wrap ((BitVec.ofInt (i64.bits) ((i64.wrap ((BitVec.ofInt (i64.bits) ((4294967295:Int)) ^^^ BitVec.ofInt (i64.bits) (u3.1)).toNat:Nat))) &&& BitVec.ofInt (i64.bits) (u4.1)).toNat:Nat)))).toNat:Nat))))+r15.1))+e16.1)),())) fun r20=>
 .ob (Abp ((i64.wrap ((i64.wrap ((i64.wrap ((i64.wrap (u4.2.1+(i64.wrap ((BitVec.ofInt (i64.bits) ((i64.wrap ((BitVec.ofInt (i64.bits) (r12.1) ^^^ BitVec.ofInt (i64.bits) (r13.1)).toNat:Nat))) ^^^ BitVec.ofInt (i64.bits) (r14.1)).toNat:Nat))))+(i64.wrap ((BitVec.ofInt (i64.bits) ((i64.wrap ((BitVec.ofInt (i64.bits) (u3.1) &&& BitVec.ofInt (i64.bits) (u3.2.1)).toNat:Nat))) ^^^ BitVec.ofInt (i64.bits) ((i64.wrap ((BitVec.ofInt (i64.bits) ((i64.wrap ((BitVec.ofInt (i64.bits) ((4294967295:Int)) ^^^ BitVec.ofInt (i64.bits) (u3.1)).toNat:Nat))) &&& BitVec.ofInt (i64.bits) (u4.1)).toNat:Nat)))).toNat:Nat))))+r15.1))+e16.1)),()) ((i64.wrap ((i64.wrap ((BitVec.ofInt (i64.bits) ((i64.wrap ((BitVec.ofInt (i64.bits) (r17.1) ^^^ BitVec.ofInt (i64.bits) (r18.1)).toNat:Nat))) ^^^ BitVec.ofInt (i64.bits) (r19.1)).toNat:Nat))+(i64.wrap ((BitVec.ofInt (i64.bits) ((i64.wrap ((BitVec.ofInt (i64.bits) ((i64.wrap ((BitVec.ofInt (i64.bits) (u1.1) &&& BitVec.ofInt (i64.bits) (u1.2.1)).toNat:Nat))) ^^^ BitVec.ofInt (i64.bits) ((i64.wrap ((BitVec.ofInt (i64.bits) (u1.1) &&& BitVec.ofInt (i64.bits) (u2.1)).toNat:Nat)))).toNat:Nat))) ^^^ BitVec.ofInt (i64.bits) ((i64.wrap ((BitVec.ofInt (i64.bits) (u1.2.1) &&& BitVec.ofInt (i64.bits) (u2.1)).toNat:Nat)))).toNat:Nat)))),())) fun r21=>
 .leaf (.inl (x11.1,x11.2.1,x11.2.2.1,r21.1,u1.1,u1.2.1,u2.1,r20.1,u3.1,u3.2.1,u4.1,(i64.wrap (u4.2.2.1+(1:Int))),()))) (
 .leaf (.inr (x11.1,x11.2.1,u1.1,u1.2.1,u2.1,u2.2.1,u3.1,u3.2.1,u4.1,u4.2.1,())))
def Fb (x23:(List YI)×(List YI)×(List YI)×Int×Int×Unit):Option (((List YI)×(List YI)×(List YI)×Int×Int×Unit)⊕(((List YI)×Unit))):=
 letI u1:=x23.2.2;letI u2:=u1.2.2;Tree.val (α:=((List YI)×(List YI)×(List YI)×Int×Int×Unit)⊕(((List YI)×Unit))) <|
 .br (decide (u2.1<u1.2.1)) (
 .ob (idx u1.1 u2.1) fun e24=>
 .ob (idx x23.1 u2.1) fun e25=>
 .ob (Abp e25 e24) fun r26=>
 .ob (idx x23.2.1 u2.1) fun e27=>
 let q28:=(x23.2.1.set (u2.1).toNat r26)
 .leaf (.inl (x23.1,q28,u1.1,u1.2.1,(i64.wrap (u2.1+(1:Int))),()))) (
 .leaf (.inr (x23.2.1,())))
def Pa (a0:(List YI)×Unit) (a1:YBs):Tree (((List YI)×Unit)):=
 .chk (decide (([]:List YI).length+a0.1.length≤4294967296)) <|
 .ob (Lg a0 ((8:Int),())) fun r1=>
 .br (!r1.1) (
 .leaf ((([]:List YI)++a0.1),())) (
 .br ((a1.1.length:Int) != (64:Int)) (
 .leaf ((([]:List YI)++a0.1),())) (
 .ob (Aaf a1) fun r2=>
 .ob (idx a0.1 (0:Int)) fun e3=>
 .ob (idx a0.1 (1:Int)) fun e4=>
 .ob (idx a0.1 (2:Int)) fun e5=>
 .ob (idx a0.1 (3:Int)) fun e6=>
 .ob (idx a0.1 (4:Int)) fun e7=>
 .ob (idx a0.1 (5:Int)) fun e8=>
 .ob (idx a0.1 (6:Int)) fun e9=>
 .ob (idx a0.1 (7:Int)) fun e10=>
 .ob (Ay Fw (a0.1,(([]:List YI)++a0.1),r2.1,e3.1,e4.1,e5.1,e6.1,e7.1,e8.1,e9.1,e10.1,(0:Int),())) fun o22=>letI u1:=o22.2.2;letI u2:=u1.2.2;letI u3:=u2.2.2.2;
 .ob (Ay Fb (o22.1,o22.2.1,[(u1.1,()),(u1.2.1,()),(u2.1,()),(u2.2.1,()),(u2.2.2.1,()),(u3.1,()),(u3.2.1,()),(u3.2.2.1,())],([(u1.1,()),(u1.2.1,()),(u2.1,()),(u2.2.1,()),(u2.2.2.1,()),(u3.1,()),(u3.2.1,()),(u3.2.2.1,())].length:Int),(0:Int),())) fun o29=>
 .leaf o29))
def Li (a0:(List YI)×Unit) (a1:YBs):Option (((List YI)×Unit)):=(Pa a0 a1).val
def Eh (x3:(List YI)×(List YB)×Unit):Option (((List YI)×(List YB)×Unit)⊕(((List YI)×(List YB)×Unit))):=
 Tree.val (α:=((List YI)×(List YB)×Unit)⊕(((List YI)×(List YB)×Unit))) <|
 .br (decide ((x3.2.1.length:Int)≥(64:Int))) (
 .chk (decide ((64:Int)≤(x3.2.1.length:Int))) <|
 .ob (Li (x3.1,()) (((x3.2.1.take ((64:Int)).toNat).drop ((0:Int)).toNat),())) fun r4=>
 .chk (decide ((64:Int)≤(x3.2.1.length:Int))) <|
 .chk (decide ((x3.2.1.length:Int)≤(x3.2.1.length:Int))) <|
 .leaf (.inl (r4.1,((x3.2.1.take ((x3.2.1.length:Int)).toNat).drop ((64:Int)).toNat),()))) (
 .leaf (.inr x3))
def Pc (a0:(List YI)×Unit) (a1:YBs):Tree (((List YI)×Unit)×YBs):=
 .ob (Ay Eh (a0.1,a1.1,())) fun o5=>
 .leaf ((o5.1,()),(o5.2.1,()))
def Kq (a0:(List YI)×Unit) (a1:YBs):Option (((List YI)×Unit)×YBs):=(Pc a0 a1).val
def Ac9 (a0:Jr) (a1:YBs):Tree (Jr):=
 .ob (Xc a0) fun r1=>
 .br (!r1.1) (
 .chk (decide (([]:List YI).length+a0.1.length≤4294967296)) <|
 .ob (A1 (a0.2.1,())) fun r2=>
 .leaf ((([]:List YI)++a0.1),r2.1,a0.2.2.1,())) (
 .br (decide ((a1.1.length:Int)>(i64.wrap ((1048576:Int)-a0.2.2.1)))) (
 .chk (decide (([]:List YI).length+a0.1.length≤4294967296)) <|
 .ob (A1 (a0.2.1,())) fun r3=>
 .leaf ((([]:List YI)++a0.1),r3.1,a0.2.2.1,())) (
 .ob (Et ([(a0.2.1,()),a1],())) fun r4=>
 .ob (Kq (a0.1,()) r4) fun r5=>
 .chk (decide (([]:List YI).length+r5.1.1.length≤4294967296)) <|
 .ob (A1 r5.2) fun r6=>
 .leaf ((([]:List YI)++r5.1.1),r6.1,(i64.wrap (a0.2.2.1+(a1.1.length:Int))),())))
def Adl (a0:Jr) (a1:YBs):Option (Jr):=(Ac9 a0 a1).val
def Lc (x2:Int×(List YB)×Unit):Option ((Int×(List YB)×Unit)⊕((Int×(List YB)×Unit))):=
 Tree.val (α:=(Int×(List YB)×Unit)⊕((Int×(List YB)×Unit))) <|
 .chk (decide ((0:Int)≤(i64.wrap ((i64.wrap (x2.1+(x2.2.1.length:Int)))+(8:Int))))) <|
 .br (((i64.wrap ((i64.wrap (x2.1+(x2.2.1.length:Int)))+(8:Int)))%(64:Int)) != (0:Int)) (
 .chk (decide (x2.2.1.length+[((0:Int),())].length≤4294967296)) <|
 .leaf (.inl (x2.1,(x2.2.1++[((0:Int),())]),()))) (
 .leaf (.inr x2))
def Atz (a0:YI):Tree (YBs):=
 .ob (A3 a0 ((0:Int),()) ((1048576:Int),())) fun r1=>
 .br (!r1.1) (
 .leaf (([]:List YB),())) (
 .ob (Ay Lc (a0.1,[((128:Int),())],())) fun o3=>
 .chk (decide (o3.2.1.length+[((0:Int),()),((0:Int),())].length≤4294967296)) <|
 .ob (Ho ((o3.2.1++[((0:Int),()),((0:Int),())]),()) ((i64.wrap ((8:Int)*o3.1)),()) ((6:Int),())) fun r4=>
 .leaf r4)
def At8 (a0:YI):Option (YBs):=(Atz a0).val
def Gf (x1:(List YB)×(List YI)×Int×Int×Unit):Option (((List YB)×(List YI)×Int×Int×Unit)⊕(YBs)):=
 letI u1:=x1.2.2;Tree.val (α:=((List YB)×(List YI)×Int×Int×Unit)⊕(YBs)) <|
 .br (decide (u1.2.1<u1.1)) (
 .ob (idx x1.2.1 u1.2.1) fun e2=>
 .ob (Ho (x1.1,()) e2 ((4:Int),())) fun r3=>
 .leaf (.inl (r3.1,x1.2.1,u1.1,(i64.wrap (u1.2.1+(1:Int))),()))) (
 .leaf (.inr (x1.1,())))
def T3 (a0:(List YI)×Unit):Tree (YBs):=
 .ob (Ay Gf (([]:List YB),a0.1,(a0.1.length:Int),(0:Int),())) fun o4=>
 .leaf o4
def T6 (a0:(List YI)×Unit):Option (YBs):=(T3 a0).val
def Ada (a0:Jr):Tree (YBs):=
 .ob (Xc a0) fun r1=>
 .br (!r1.1) (
 .leaf (([]:List YB),())) (
 .ob (At8 (a0.2.2.1,())) fun r2=>
 .ob (Et ([(a0.2.1,()),r2],())) fun r3=>
 .ob (Kq (a0.1,()) r3) fun r4=>
 .ob (T6 r4.1) fun r5=>
 .leaf r5)
def Adm (a0:Jr):Option (YBs):=(Ada a0).val
def At2 (a0:YBs):Tree (YBs):=
 .br (decide ((a0.1.length:Int)>(1048576:Int))) (
 .leaf (([]:List YB),())) (
 .ob Aoo fun r1=>
 .ob (Adl r1 a0) fun r2=>
 .ob (Adm r2) fun r3=>
 .leaf r3)
def Ae8 (a0:YBs):Option (YBs):=(At2 a0).val
def Ev (x3:YBs):Option (YBs⊕(YBs)):=
 Tree.val (α:=YBs⊕(YBs)) <|
 .br (decide ((x3.1.length:Int)<(64:Int))) (
 .chk (decide (x3.1.length+[((0:Int),())].length≤4294967296)) <|
 .leaf (.inl ((x3.1++[((0:Int),())]),()))) (
 .leaf (.inr x3))
def Zm (a0:YBs):Tree (YBs):=
 .br (decide ((a0.1.length:Int)>(1048576:Int))) (
 .leaf (([]:List YB),())) (
 .ob (A1 a0) fun r1=>
 .br (decide ((a0.1.length:Int)>(64:Int))) (
 .ob (Ae8 a0) fun r2=>
 .ob (Ay Ev r2) fun o4=>
 .leaf o4) (
 .ob (Ay Ev r1) fun o5=>
 .leaf o5))
def Aag (a0:YBs):Option (YBs):=(Zm a0).val
def I6 (x1:Int×(List YB)×(List YB)×Int×Int×Unit):Option ((Int×(List YB)×(List YB)×Int×Int×Unit)⊕(YBs)):=
 letI u1:=x1.2.2;Tree.val (α:=(Int×(List YB)×(List YB)×Int×Int×Unit)⊕(YBs)) <|
 .br (decide (u1.2.2.1<u1.2.1)) (
 .ob (idx u1.1 u1.2.2.1) fun e2=>
 .chk (decide (x1.2.1.length+[((u8.wrap ((BitVec.ofInt (u8.bits) (e2.1) ^^^ BitVec.ofInt (u8.bits) (x1.1)).toNat:Nat)),())].length≤4294967296)) <|
 .leaf (.inl (x1.1,(x1.2.1++[((u8.wrap ((BitVec.ofInt (u8.bits) (e2.1) ^^^ BitVec.ofInt (u8.bits) (x1.1)).toNat:Nat)),())]),u1.1,u1.2.1,(i64.wrap (u1.2.2.1+(1:Int))),()))) (
 .leaf (.inr (x1.2.1,())))
def Ahc (a0:YBs) (a1:YB):Tree (YBs):=
 .ob (Ay I6 (a1.1,([]:List YB),a0.1,(a0.1.length:Int),(0:Int),())) fun o3=>
 .leaf o3
def Xd (a0:YBs) (a1:YB):Option (YBs):=(Ahc a0 a1).val
def Apu (a0:YBs) (a1:YBs):Tree (YBs):=
 .br (decide ((a0.1.length:Int)>(1048576:Int))) (
 .leaf (([]:List YB),())) (
 .br (decide ((a1.1.length:Int)>(1048512:Int))) (
 .leaf (([]:List YB),())) (
 .ob (Aag a0) fun r1=>
 .ob (Xd r1 ((92:Int),())) fun r2=>
 .ob (Xd r1 ((54:Int),())) fun r3=>
 .ob (Et ([r3,a1],())) fun r4=>
 .ob (Ae8 r4) fun r5=>
 .ob (Et ([r2,r5],())) fun r6=>
 .ob (Ae8 r6) fun r7=>
 .leaf r7))
def Q2 (a0:YBs) (a1:YBs):Option (YBs):=(Apu a0 a1).val
def Adb (a0:YBs) (a1:YBs) (a2:YI):Tree (YBs):=
 .ob (A3 a2 ((0:Int),()) ((6:Int),())) fun r1=>
 .br (!r1.1) (
 .leaf (([]:List YB),())) (
 .br (decide ((a1.1.length:Int)>(100:Int))) (
 .leaf (([]:List YB),())) (
 .ob (Et ([([((115:Int),())],()),a1],())) fun r2=>
 .ob (Ho r2 a2 ((4:Int),())) fun r3=>
 .ob (Q2 a0 r3) fun r4=>
 .leaf r4))
def Adn (a0:YBs) (a1:YBs) (a2:YI):Option (YBs):=(Adb a0 a1 a2).val
def I7 (x2:(List YB)×(List YB)×Int×(List YB)×Int×Unit):Option (((List YB)×(List YB)×Int×(List YB)×Int×Unit)⊕((Int×(List YB)×Unit))):=
 letI u1:=x2.2.2;Tree.val (α:=((List YB)×(List YB)×Int×(List YB)×Int×Unit)⊕((Int×(List YB)×Unit))) <|
 .br (decide ((x2.2.2.2.1.length:Int)<u1.1)) (
 .ob (Adn (x2.1,()) (x2.2.1,()) (u1.2.2.1,())) fun r3=>
 .chk (decide (x2.2.2.2.1.length+r3.1.length≤4294967296)) <|
 .leaf (.inl (x2.1,x2.2.1,u1.1,(u1.2.1++r3.1),(i64.wrap (u1.2.2.1+(1:Int))),()))) (
 .leaf (.inr (u1.1,u1.2.1,())))
def Ahe (a0:YBs) (a1:YBs) (a2:YI):Tree (YBs):=
 .ob (A3 a2 ((0:Int),()) ((200:Int),())) fun r1=>
 .br (!r1.1) (
 .leaf (([]:List YB),())) (
 .br (decide ((a1.1.length:Int)>(100:Int))) (
 .leaf (([]:List YB),())) (
 .br (decide ((a0.1.length:Int)>(1048576:Int))) (
 .leaf (([]:List YB),())) (
 .ob (Ay I7 (a0.1,a1.1,a2.1,([]:List YB),(0:Int),())) fun o4=>
 .chk (decide ((0:Int)≤o4.1)) <|
 .chk (decide (o4.1≤(o4.2.1.length:Int))) <|
 .ob (A1 (((o4.2.1.take (o4.1).toNat).drop ((0:Int)).toNat),())) fun r5=>
 .leaf r5)))
def Ahv (a0:YBs) (a1:YBs) (a2:YI):Option (YBs):=(Ahe a0 a1 a2).val
def Od (x2:(List YB)×(List YB)×(List YB)×Int×Int×Unit):Option (((List YB)×(List YB)×(List YB)×Int×Int×Unit)⊕(YBs)):=
 letI u1:=x2.2.2.2;Tree.val (α:=((List YB)×(List YB)×(List YB)×Int×Int×Unit)⊕(YBs)) <|
 .br (decide (u1.2.1<u1.1)) (
 .ob (idx x2.2.2.1 u1.2.1) fun e3=>
 .ob (idx x2.1 u1.2.1) fun e4=>
 .chk (decide (x2.2.1.length+[((u8.wrap ((BitVec.ofInt (u8.bits) (e3.1) ^^^ BitVec.ofInt (u8.bits) (e4.1)).toNat:Nat)),())].length≤4294967296)) <|
 .leaf (.inl (x2.1,(x2.2.1++[((u8.wrap ((BitVec.ofInt (u8.bits) (e3.1) ^^^ BitVec.ofInt (u8.bits) (e4.1)).toNat:Nat)),())]),x2.2.2.1,u1.1,(i64.wrap (u1.2.1+(1:Int))),()))) (
 .leaf (.inr (x2.2.1,())))
def At3 (a0:YBs) (a1:YBs) (a2:YBs):Tree (YBs):=
 .br (decide ((a2.1.length:Int)>(200:Int))) (
 .leaf (([]:List YB),())) (
 .br (decide ((a1.1.length:Int)>(100:Int))) (
 .leaf (([]:List YB),())) (
 .br (decide ((a0.1.length:Int)>(1048576:Int))) (
 .leaf (([]:List YB),())) (
 .ob (Ahv a0 a1 ((a2.1.length:Int),())) fun r1=>
 .ob (Ay Od (a2.1,([]:List YB),r1.1,(r1.1.length:Int),(0:Int),())) fun o5=>
 .leaf o5)))
def Am1 (a0:YBs) (a1:YBs) (a2:YBs):Option (YBs):=(At3 a0 a1 a2).val
def Zo (a0:YI) (a1:Aa):Tree (YBs):=
 letI u1:=a1.2.2.2.2.2.2.2;.ob (Ju a0) fun r1=>
 .br (!r1.1) (
 .leaf (([]:List YB),())) (
 .ob (Gw (a1.1,())) fun r2=>
 .br (!r2.1) (
 .leaf (([]:List YB),())) (
 .ob (F8 a1) fun r3=>
 .br (!r3.1) (
 .leaf (([]:List YB),())) (
 .ob (Pp a0 (a1.2.2.2.1,()) (u1.1,()) (u1.2.1,())) fun r4=>
 .ob (Et ([([((116:Int),())],()),r4,([((u8.wrap (a1.1)),())],()),(u1.2.2.1,())],())) fun r5=>
 .leaf r5)))
def Hp (a0:YI) (a1:Aa):Option (YBs):=(Zo a0 a1).val
def At4 (a0:YBs) (a1:YBs):Tree (YBs):=
 .ob (Q2 a0 a1) fun r1=>
 .br ((r1.1.length:Int)==(0:Int)) (
 .leaf (([]:List YB),())) (
 .chk (decide ((16:Int)≤(r1.1.length:Int))) <|
 .ob (A1 (((r1.1.take ((16:Int)).toNat).drop ((0:Int)).toNat),())) fun r2=>
 .leaf r2)
def Ae9 (a0:YBs) (a1:YBs):Option (YBs):=(At4 a0 a1).val
def Apv (a0:YBs) (a1:YI) (a2:YBs) (a3:YI) (a4:YI) (a5:YI) (a6:YBs):Tree (Aa×(Bool×Unit)):=
 .ob (A1 a2) fun r1=>
 .ob (A1 a6) fun r2=>
 .br ((a0.1.length:Int) != (32:Int)) (
 .leaf (((0:Int),(0:Int),([]:List YB),([]:List YB),(0:Int),([]:List YB),([]:List YB),(0:Int),(0:Int),([]:List YB),([]:List YB),()),(false,()))) (
 .ob (Ju a1) fun r3=>
 .br (!r3.1) (
 .leaf (((0:Int),(0:Int),([]:List YB),([]:List YB),(0:Int),([]:List YB),([]:List YB),(0:Int),(0:Int),([]:List YB),([]:List YB),()),(false,()))) (
 .ob (Gw a5) fun r4=>
 .br (!r4.1) (
 .leaf (((0:Int),(0:Int),([]:List YB),([]:List YB),(0:Int),([]:List YB),([]:List YB),(0:Int),(0:Int),([]:List YB),([]:List YB),()),(false,()))) (
 .ob (F8 (a5.1,(0:Int),([]:List YB),r1.1,(0:Int),([]:List YB),([]:List YB),a3.1,a4.1,r2.1,(List.replicate ((16:Int)).toNat ((0:Int),())),())) fun r5=>
 .br (!r5.1) (
 .leaf (((0:Int),(0:Int),([]:List YB),([]:List YB),(0:Int),([]:List YB),([]:List YB),(0:Int),(0:Int),([]:List YB),([]:List YB),()),(false,()))) (
 .ob (Pp a1 a2 a3 a4) fun r6=>
 .ob (Am1 a0 r6 a6) fun r7=>
 .ob (Hp a1 (a5.1,(0:Int),([]:List YB),r1.1,(0:Int),([]:List YB),([]:List YB),a3.1,a4.1,r7.1,(List.replicate ((16:Int)).toNat ((0:Int),())),())) fun r8=>
 .ob (Ae9 a0 r8) fun r9=>
 .leaf ((a5.1,(0:Int),([]:List YB),r1.1,(0:Int),([]:List YB),([]:List YB),a3.1,a4.1,r7.1,r9.1,()),(true,()))))))
def Aah (a0:YBs) (a1:YI) (a2:YBs) (a3:YI) (a4:YI) (a5:YI) (a6:YBs):Option (Aa×(Bool×Unit)):=(Apv a0 a1 a2 a3 a4 a5 a6).val
def Ahf (a0:YEp) (a1:YI) (a2:YBs) (a3:YI) (a4:YBs):Tree (YEp×Aa×YI):=
 letI u1:=a0.2.2;.ob (L7 a0) fun r1=>letI u2:=r1.2.2;
 .ob (Qz a0) fun r2=>
 .br (!r2.1) (
 .leaf (r1,((0:Int),(0:Int),([]:List YB),([]:List YB),(0:Int),([]:List YB),([]:List YB),(0:Int),(0:Int),([]:List YB),([]:List YB),()),((1:Int),()))) (
 .ob (Aah (a0.2.1,()) a1 a2 (a0.1,()) ((0:Int),()) a3 a4) fun r3=>
 .br (!r3.2.1) (
 .leaf (r1,((0:Int),(0:Int),([]:List YB),([]:List YB),(0:Int),([]:List YB),([]:List YB),(0:Int),(0:Int),([]:List YB),([]:List YB),()),((1:Int),()))) (
 .br (a3.1==(4:Int)) (
 .br (decide (u1.1≥(281474976709656:Int))) (
 .leaf (r1,((0:Int),(0:Int),([]:List YB),([]:List YB),(0:Int),([]:List YB),([]:List YB),(0:Int),(0:Int),([]:List YB),([]:List YB),()),((4:Int),()))) (
 .br (u1.1==(281474976710656:Int)) (
 .leaf (r1,((0:Int),(0:Int),([]:List YB),([]:List YB),(0:Int),([]:List YB),([]:List YB),(0:Int),(0:Int),([]:List YB),([]:List YB),()),((5:Int),()))) (
 .ob (Aah (a0.2.1,()) a1 a2 (a0.1,()) (u1.1,()) a3 a4) fun r4=>
 .leaf ((r1.1,r1.2.1,(i64.wrap (u2.1+(1:Int))),u2.2.1,u2.2.2.1,()),r4.1,((0:Int),()))))) (
 .br (u1.1==(281474976710656:Int)) (
 .leaf (r1,((0:Int),(0:Int),([]:List YB),([]:List YB),(0:Int),([]:List YB),([]:List YB),(0:Int),(0:Int),([]:List YB),([]:List YB),()),((5:Int),()))) (
 .ob (Aah (a0.2.1,()) a1 a2 (a0.1,()) (u1.1,()) a3 a4) fun r5=>
 .leaf ((r1.1,r1.2.1,(i64.wrap (u2.1+(1:Int))),u2.2.1,u2.2.2.1,()),r5.1,((0:Int),()))))))
def Ahw (a0:YEp) (a1:YI) (a2:YBs) (a3:YI) (a4:YBs):Option (YEp×Aa×YI):=(Ahf a0 a1 a2 a3 a4).val
def Zq (a0:Af) (a1:YI) (a2:YBs):Tree (Af×Aa×YI):=
 letI u1:=a0.2.2.2;.ob (Fd a0) fun r1=>letI u2:=r1.2.2.2.2.2.2.2;letI u3:=u2.2.2.2;
 .ob (F9 a0) fun r2=>
 .br (!r2.1) (
 .leaf (r1,((0:Int),(0:Int),([]:List YB),([]:List YB),(0:Int),([]:List YB),([]:List YB),(0:Int),(0:Int),([]:List YB),([]:List YB),()),((1:Int),()))) (
 .ob (Ahw (a0.2.2.1,u1.1,u1.2.1,u1.2.2.1,u1.2.2.2.1,()) (a0.1,()) (a0.2.1,()) a1 a2) fun r3=>
 .leaf ((r1.1,r1.2.1,r3.1.1,r3.1.2.1,r3.1.2.2.1,r3.1.2.2.2.1,r3.1.2.2.2.2.1,u2.1,u2.2.1,u2.2.2.1,u3.1,u3.2.1,u3.2.2.1,u3.2.2.2.1,u3.2.2.2.2.1,()),r3.2.1,r3.2.2))
def Dp (a0:Af) (a1:YI) (a2:YBs):Option (Af×Aa×YI):=(Zq a0 a1 a2).val
def Zs (a0:Af):Tree (Af×Aa×YI):=
 .ob (F9 a0) fun r1=>
 .br (!r1.1) (
 .ob (Fd a0) fun r2=>
 .leaf (r2,((0:Int),(0:Int),([]:List YB),([]:List YB),(0:Int),([]:List YB),([]:List YB),(0:Int),(0:Int),([]:List YB),([]:List YB),()),((6:Int),()))) (
 .br ((a0.2.2.2.2.2.2.2.2.2.2.2.2.2.2.1.length:Int)==(0:Int)) (
 .ob (Fd a0) fun r3=>
 .leaf (r3,((0:Int),(0:Int),([]:List YB),([]:List YB),(0:Int),([]:List YB),([]:List YB),(0:Int),(0:Int),([]:List YB),([]:List YB),()),((6:Int),()))) (
 .ob (T5 ((i64.wrap (a0.2.2.1+(1:Int))),())) fun r4=>
 .ob (Dp a0 ((7:Int),()) r4) fun r5=>
 .leaf (r5.1,r5.2.1,r5.2.2)))
def Lj (a0:Af):Option (Af×Aa×YI):=(Zs a0).val
def Apw (a0:YBs) (a1:YBs):Tree (Ae):=
 .ob (A1 a0) fun r1=>
 .ob (A1 a1) fun r2=>
 .leaf ((15:Int),(0:Int),(0:Int),([]:List YB),([]:List YB),(0:Int),(0:Int),r2.1,r1.1,(0:Int),(0:Int),(0:Int),())
def Ahx (a0:YBs) (a1:YBs):Option (Ae):=(Apw a0 a1).val
def Ahg (a0:Af) (a1:Aa):Tree (Ae):=
 .ob (Hp (a0.1,()) a1) fun r1=>
 .ob (Ahx (a0.2.2.2.1,()) r1) fun r2=>
 .leaf r2
def Dy (a0:Af) (a1:Aa):Option (Ae):=(Ahg a0 a1).val
def Ahh (a0:Ab) (a1:YI):Tree (Ab×((List Aa)×Unit)×((List Ae)×Unit)):=
 letI u1:=a0.2.2.2.2.2.2.2.2.2.2.2.2.2.2.2.2.2;letI u2:=u1.2.2.2;letI u3:=u2.2.2.2;letI u4:=u3.2.2.2;letI u5:=u4.2.2.2;letI u6:=u5.2.2.2.2.2.2.2;.br (decide ((i64.wrap (a1.1-u6.2.2.2.2.1))>(60:Int))) (
 .ob (Q0 a0) fun r1=>
 .ob (Abo (a0.1,()) ((0:Int),()) (u1.2.1,())) fun r2=>
 .leaf (r1,(([]:List Aa),()),([r2],()))) (
 .ob (Bv a0) fun r3=>letI u7:=r3.2.2;letI u8:=u7.2.2;letI u9:=u8.2.2;letI u10:=u9.2.2;letI u11:=u10.2.2;letI u12:=u11.2.2;letI u13:=u12.2.2;letI u14:=u13.2.2;letI u15:=u14.2.2.2.2.2.2.2.2.2.2.2.2.2.2.2.2;letI u16:=u15.2.2;letI u17:=u16.2.2.2.2.2.2;
 .ob (Aae (u1.1,u1.2.1,u1.2.2.1,u2.1,u2.2.1,u2.2.2.1,u3.1,u3.2.1,u3.2.2.1,u4.1,u4.2.1,u4.2.2.1,u5.1,u5.2.1,u5.2.2.1,()) a1) fun r4=>letI u18:=r4.2.2;letI u19:=u18.2.2;letI u20:=u19.2.2;letI u21:=u20.2.2;letI u22:=u21.2.2;letI u23:=u22.2.2;
 .ob (Nr (u6.1,u6.2.1,u6.2.2.1,u6.2.2.2.1,()) a1) fun r5=>letI u24:=r5.1.2.2;
 .br (r5.2.1==(0:Int)) (
 .leaf ((r3.1,r3.2.1,u7.1,u7.2.1,u8.1,u8.2.1,u9.1,u9.2.1,u10.1,u10.2.1,u11.1,u11.2.1,u12.1,u12.2.1,u13.1,u13.2.1,u14.1,r4.1,r4.2.1,u18.1,u18.2.1,u19.1,u19.2.1,u20.1,u20.2.1,u21.1,u21.2.1,u22.1,u22.2.1,u23.1,u23.2.1,u23.2.2.1,u15.1,u15.2.1,u16.1,u16.2.1,r5.1.1,r5.1.2.1,u24.1,u24.2.1,u17.1,()),(([]:List Aa),()),(([]:List Ae),()))) (
 .br (r5.2.1==(2:Int)) (
 .ob (Lh a1) fun r6=>
 .ob (Lj r4) fun r7=>letI u25:=r7.1.2.2.2;letI u26:=u25.2.2.2;letI u27:=u26.2.2.2.2;
 .br (r7.2.2.1 != (0:Int)) (
 .leaf ((r3.1,r3.2.1,u7.1,u7.2.1,u8.1,u8.2.1,u9.1,u9.2.1,u10.1,u10.2.1,u11.1,u11.2.1,u12.1,u12.2.1,u13.1,u13.2.1,u14.1,r4.1,r4.2.1,u18.1,u18.2.1,u19.1,u19.2.1,u20.1,u20.2.1,u21.1,u21.2.1,u22.1,u22.2.1,u23.1,u23.2.1,u23.2.2.1,u15.1,u15.2.1,u16.1,u16.2.1,r6.1,r6.2.1,r6.2.2.1,r6.2.2.2.1,u17.1,()),(([]:List Aa),()),(([]:List Ae),()))) (
 .ob (Dy r7.1 r7.2.1) fun r8=>
 .leaf ((r3.1,r3.2.1,u7.1,u7.2.1,u8.1,u8.2.1,u9.1,u9.2.1,u10.1,u10.2.1,u11.1,u11.2.1,u12.1,u12.2.1,u13.1,u13.2.1,u14.1,r7.1.1,r7.1.2.1,r7.1.2.2.1,u25.1,u25.2.1,u25.2.2.1,u26.1,u26.2.1,u26.2.2.1,u26.2.2.2.1,u27.1,u27.2.1,u27.2.2.1,u27.2.2.2.1,u27.2.2.2.2.1,u15.1,u15.2.1,u16.1,u16.2.1,r6.1,r6.2.1,r6.2.2.1,r6.2.2.2.1,u17.1,()),([r7.2.1],()),([r8],())))) (
 .ob (Lj r4) fun r9=>letI u28:=r9.1.2.2.2;letI u29:=u28.2.2.2;letI u30:=u29.2.2.2.2;
 .br (r9.2.2.1 != (0:Int)) (
 .leaf ((r3.1,r3.2.1,u7.1,u7.2.1,u8.1,u8.2.1,u9.1,u9.2.1,u10.1,u10.2.1,u11.1,u11.2.1,u12.1,u12.2.1,u13.1,u13.2.1,u14.1,r4.1,r4.2.1,u18.1,u18.2.1,u19.1,u19.2.1,u20.1,u20.2.1,u21.1,u21.2.1,u22.1,u22.2.1,u23.1,u23.2.1,u23.2.2.1,u15.1,u15.2.1,u16.1,u16.2.1,r5.1.1,r5.1.2.1,u24.1,u24.2.1,u17.1,()),(([]:List Aa),()),(([]:List Ae),()))) (
 .ob (Dy r9.1 r9.2.1) fun r10=>
 .leaf ((r3.1,r3.2.1,u7.1,u7.2.1,u8.1,u8.2.1,u9.1,u9.2.1,u10.1,u10.2.1,u11.1,u11.2.1,u12.1,u12.2.1,u13.1,u13.2.1,u14.1,r9.1.1,r9.1.2.1,r9.1.2.2.1,u28.1,u28.2.1,u28.2.2.1,u29.1,u29.2.1,u29.2.2.1,u29.2.2.2.1,u30.1,u30.2.1,u30.2.2.1,u30.2.2.2.1,u30.2.2.2.2.1,u15.1,u15.2.1,u16.1,u16.2.1,r5.1.1,r5.1.2.1,u24.1,u24.2.1,u17.1,()),([r9.2.1],()),([r10],()))))))
def Ahy (a0:Ab) (a1:YI):Option (Ab×((List Aa)×Unit)×((List Ae)×Unit)):=(Ahh a0 a1).val
def Ahi (a0:Ab):Tree (Aa):=
 .ob (A1 (a0.2.2.2.2.2.1,())) fun r1=>
 .leaf ((1:Int),a0.1,r1.1,([]:List YB),(0:Int),([]:List YB),([]:List YB),(0:Int),(0:Int),([]:List YB),([]:List YB),())
def Ahz (a0:Ab):Option (Aa):=(Ahi a0).val
def Qu (a0:Ab) (a1:YI):Tree (Ab×((List Aa)×Unit)×((List Ae)×Unit)):=
 letI u1:=a0.2.2.2.2;letI u2:=u1.2.2;letI u3:=u2.2.2;letI u4:=u3.2.2;letI u5:=u4.2.2;letI u6:=u5.2.2;letI u7:=u6.2.2.2.2.2.2.2.2.2.2.2.2.2.2.2.2.2.2;.ob (Bv a0) fun r1=>letI u8:=r1.2.2;letI u9:=u8.2.2;letI u10:=u9.2.2;letI u11:=u10.2.2;letI u12:=u11.2.2;letI u13:=u12.2.2;letI u14:=u13.2.2;letI u15:=u14.2.2;letI u16:=u15.2.2;letI u17:=u16.2.2;letI u18:=u17.2.2;letI u19:=u18.2.2;letI u20:=u19.2.2;letI u21:=u20.2.2;letI u22:=u21.2.2;letI u23:=u22.2.2.2.2.2.2;letI u24:=u23.2.2;letI u25:=u24.2.2;
 .ob (Bw a0) fun r2=>
 .br (!r2.1) (
 .leaf (r1,(([]:List Aa),()),(([]:List Ae),()))) (
 .ob (A3 a1 ((0:Int),()) ((1000000:Int),())) fun r3=>
 .br (!r3.1) (
 .leaf (r1,(([]:List Aa),()),(([]:List Ae),()))) (
 .br (u1.1==(0:Int)) (
 .leaf (r1,(([]:List Aa),()),(([]:List Ae),()))) (
 .br (u1.1==(3:Int)) (
 .ob (Ahy a0 a1) fun r4=>
 .leaf (r4.1,r4.2.1,r4.2.2)) (
 .ob (Nr (u7.1,u7.2.1,u7.2.2.1,u7.2.2.2.1,()) a1) fun r5=>letI u26:=r5.1.2.2;
 .br (r5.2.1==(2:Int)) (
 .ob (Q0 a0) fun r6=>
 .ob (A1 (u1.2.1,())) fun r7=>
 .leaf (r6,(([]:List Aa),()),([((17:Int),a0.1,(0:Int),r7.1,([]:List YB),(0:Int),(0:Int),([]:List YB),([]:List YB),(0:Int),(0:Int),(0:Int),())],()))) (
 .br (r5.2.1==(1:Int)) (
 .br (u1.1==(1:Int)) (
 .ob (Ahz a0) fun r8=>
 .leaf ((r1.1,r1.2.1,u8.1,u8.2.1,u9.1,u9.2.1,u10.1,u10.2.1,u11.1,u11.2.1,u12.1,u12.2.1,u13.1,u13.2.1,u14.1,u14.2.1,u15.1,u15.2.1,u16.1,u16.2.1,u17.1,u17.2.1,u18.1,u18.2.1,u19.1,u19.2.1,u20.1,u20.2.1,u21.1,u21.2.1,u22.1,u22.2.1,r5.1.1,r5.1.2.1,u26.1,u26.2.1,u23.1,u23.2.1,u24.1,u24.2.1,u25.1,()),([r8],()),(([]:List Ae),()))) (
 .br (r5.2.1==(1:Int)) (
 .ob (Gm (u2.1,u2.2.1,u3.1,u3.2.1,u4.1,u4.2.1,u5.1,u5.2.1,u6.1,u6.2.1,u6.2.2.1,())) fun r9=>
 .leaf ((r1.1,r1.2.1,u8.1,u8.2.1,u9.1,u9.2.1,u10.1,u10.2.1,u11.1,u11.2.1,u12.1,u12.2.1,u13.1,u13.2.1,u14.1,u14.2.1,u15.1,u15.2.1,u16.1,u16.2.1,u17.1,u17.2.1,u18.1,u18.2.1,u19.1,u19.2.1,u20.1,u20.2.1,u21.1,u21.2.1,u22.1,u22.2.1,r5.1.1,r5.1.2.1,u26.1,u26.2.1,u23.1,u23.2.1,u24.1,u24.2.1,u25.1,()),([r9],()),(([]:List Ae),()))) (
 .leaf ((r1.1,r1.2.1,u8.1,u8.2.1,u9.1,u9.2.1,u10.1,u10.2.1,u11.1,u11.2.1,u12.1,u12.2.1,u13.1,u13.2.1,u14.1,u14.2.1,u15.1,u15.2.1,u16.1,u16.2.1,u17.1,u17.2.1,u18.1,u18.2.1,u19.1,u19.2.1,u20.1,u20.2.1,u21.1,u21.2.1,u22.1,u22.2.1,r5.1.1,r5.1.2.1,u26.1,u26.2.1,u23.1,u23.2.1,u24.1,u24.2.1,u25.1,()),(([]:List Aa),()),(([]:List Ae),()))))) (
 .br (r5.2.1==(1:Int)) (
 .ob (Gm (u2.1,u2.2.1,u3.1,u3.2.1,u4.1,u4.2.1,u5.1,u5.2.1,u6.1,u6.2.1,u6.2.2.1,())) fun r10=>
 .leaf ((r1.1,r1.2.1,u8.1,u8.2.1,u9.1,u9.2.1,u10.1,u10.2.1,u11.1,u11.2.1,u12.1,u12.2.1,u13.1,u13.2.1,u14.1,u14.2.1,u15.1,u15.2.1,u16.1,u16.2.1,u17.1,u17.2.1,u18.1,u18.2.1,u19.1,u19.2.1,u20.1,u20.2.1,u21.1,u21.2.1,u22.1,u22.2.1,r5.1.1,r5.1.2.1,u26.1,u26.2.1,u23.1,u23.2.1,u24.1,u24.2.1,u25.1,()),([r10],()),(([]:List Ae),()))) (
 .leaf ((r1.1,r1.2.1,u8.1,u8.2.1,u9.1,u9.2.1,u10.1,u10.2.1,u11.1,u11.2.1,u12.1,u12.2.1,u13.1,u13.2.1,u14.1,u14.2.1,u15.1,u15.2.1,u16.1,u16.2.1,u17.1,u17.2.1,u18.1,u18.2.1,u19.1,u19.2.1,u20.1,u20.2.1,u21.1,u21.2.1,u22.1,u22.2.1,r5.1.1,r5.1.2.1,u26.1,u26.2.1,u23.1,u23.2.1,u24.1,u24.2.1,u25.1,()),(([]:List Aa),()),(([]:List Ae),())))))))))
def Q3 (a0:Ab) (a1:YI):Option (Ab×((List Aa)×Unit)×((List Ae)×Unit)):=(Qu a0 a1).val
def Qv (a0:Ab) (a1:YI) (a2:YBs):Tree (Ab×((List Aa)×Unit)×((List Ae)×Unit)×YI):=
 letI u1:=a0.2.2.2.2.2.2.2.2.2.2.2.2.2.2.2.2.2;letI u2:=u1.2.2.2;letI u3:=u2.2.2.2;letI u4:=u3.2.2.2.2;.ob (Bv a0) fun r1=>letI u5:=r1.2.2.2;letI u6:=u5.2.2.2;letI u7:=u6.2.2.2;letI u8:=u7.2.2.2.2;letI u9:=u8.2.2.2.2.2.2.2.2.2.2.2.2.2.2.2.2.2.2.2;letI u10:=u9.2.2.2.2;
 .ob (Bw a0) fun r2=>
 .br (!r2.1) (
 .leaf (r1,(([]:List Aa),()),(([]:List Ae),()),((1:Int),()))) (
 .ob (A3 a1 ((0:Int),()) ((1000000:Int),())) fun r3=>
 .br (!r3.1) (
 .leaf (r1,(([]:List Aa),()),(([]:List Ae),()),((1:Int),()))) (
 .br (decide ((a2.1.length:Int)>(40:Int))) (
 .leaf (r1,(([]:List Aa),()),(([]:List Ae),()),((1:Int),()))) (
 .br (a0.2.2.2.2.1 != (3:Int)) (
 .leaf (r1,(([]:List Aa),()),(([]:List Ae),()),((6:Int),()))) (
 .ob (Dp (u1.1,u1.2.1,u1.2.2.1,u2.1,u2.2.1,u2.2.2.1,u3.1,u3.2.1,u3.2.2.1,u3.2.2.2.1,u4.1,u4.2.1,u4.2.2.1,u4.2.2.2.1,u4.2.2.2.2.1,()) ((4:Int),()) a2) fun r4=>letI u11:=r4.1.2.2.2;letI u12:=u11.2.2.2;letI u13:=u12.2.2.2.2;
 .br (r4.2.2.1 != (0:Int)) (
 .leaf (r1,(([]:List Aa),()),(([]:List Ae),()),r4.2.2)) (
 .ob (A1 (r4.2.1.2.2.2.1,())) fun r5=>
 .ob (A1 a2) fun r6=>
 .ob (Dy r4.1 r4.2.1) fun r7=>
 .leaf ((r1.1,r1.2.1,r1.2.2.1,u5.1,u5.2.1,u5.2.2.1,u6.1,u6.2.1,u6.2.2.1,u7.1,u7.2.1,u7.2.2.1,u7.2.2.2.1,u8.1,u8.2.1,u8.2.2.1,u8.2.2.2.1,r4.1.1,r4.1.2.1,r4.1.2.2.1,u11.1,u11.2.1,u11.2.2.1,u12.1,u12.2.1,u12.2.2.1,u12.2.2.2.1,u13.1,u13.2.1,u13.2.2.1,u13.2.2.2.1,u13.2.2.2.2.1,u9.1,u9.2.1,u9.2.2.1,u9.2.2.2.1,u10.1,u10.2.1,u10.2.2.1,u10.2.2.2.1,u10.2.2.2.2.1,()),([r4.2.1],()),([r7,((5:Int),(0:Int),(0:Int),([]:List YB),r5.1,r4.2.1.2.2.2.2.2.2.2.1,r4.2.1.2.2.2.2.2.2.2.2.1,r6.1,([]:List YB),(0:Int),(0:Int),(0:Int),())],()),((0:Int),())))))))
def Q4 (a0:Ab) (a1:YI) (a2:YBs):Option (Ab×((List Aa)×Unit)×((List Ae)×Unit)×YI):=(Qv a0 a1 a2).val
def I8 (x2:(List YB)×(List YB)×Int×(List YB)×(List YB)×Int×Unit):Option (((List YB)×(List YB)×Int×(List YB)×(List YB)×Int×Unit)⊕((Int×(List YB)×Unit))):=
 letI u1:=x2.2.2;Tree.val (α:=((List YB)×(List YB)×Int×(List YB)×(List YB)×Int×Unit)⊕((Int×(List YB)×Unit))) <|
 .br (decide ((x2.2.2.2.1.length:Int)<u1.1)) (
 .ob (Et ([(u1.2.2.1,()),(x2.2.1,()),([((u8.wrap (u1.2.2.2.1)),())],())],())) fun r3=>
 .ob (Q2 (x2.1,()) r3) fun r4=>
 .chk (decide (x2.2.2.2.1.length+r4.1.length≤4294967296)) <|
 .leaf (.inl (x2.1,x2.2.1,u1.1,(u1.2.1++r4.1),r4.1,(i64.wrap (u1.2.2.2.1+(1:Int))),()))) (
 .leaf (.inr (u1.1,u1.2.1,())))
def Ahj (a0:YBs) (a1:YBs) (a2:YI):Tree (YBs×(Bool×Unit)):=
 .ob (A3 a2 ((0:Int),()) ((8160:Int),())) fun r1=>
 .br (!r1.1) (
 .leaf ((([]:List YB),()),(false,()))) (
 .br (decide ((a1.1.length:Int)>(100:Int))) (
 .leaf ((([]:List YB),()),(false,()))) (
 .br (decide ((a0.1.length:Int)>(1048576:Int))) (
 .leaf ((([]:List YB),()),(false,()))) (
 .ob (Ay I8 (a0.1,a1.1,a2.1,([]:List YB),([]:List YB),(1:Int),())) fun o5=>
 .chk (decide ((0:Int)≤o5.1)) <|
 .chk (decide (o5.1≤(o5.2.1.length:Int))) <|
 .ob (A1 (((o5.2.1.take (o5.1).toNat).drop ((0:Int)).toNat),())) fun r6=>
 .leaf (r6,(true,())))))
def Ah0 (a0:YBs) (a1:YBs) (a2:YI):Option (YBs×(Bool×Unit)):=(Ahj a0 a1 a2).val
def Ahk (a0:YBs) (a1:ByteArray×Unit):Tree (YBs):=
 .chk (decide (a1.1.size≤4294967296)) <|
 .ob (Ah0 a0 ((Pj a1.1),()) ((32:Int),())) fun r1=>
 .leaf r1.1
def H8 (a0:YBs) (a1:ByteArray×Unit):Option (YBs):=(Ahk a0 a1).val
def Apx (a0:Af):Tree (Af×(Bool×Unit)):=
 .ob (Fd a0) fun r1=>letI u1:=r1.2.2.2;letI u2:=u1.2.2.2;letI u3:=u2.2.2.2;
 .ob (F9 a0) fun r2=>
 .br (!r2.1) (
 .leaf (r1,(false,()))) (
 .br (a0.1 != (0:Int)) (
 .leaf (r1,(false,()))) (
 .br (decide ((a0.2.2.2.2.2.2.2.2.2.2.2.2.2.2.1.length:Int)>(0:Int))) (
 .leaf (r1,(false,()))) (
 .br (a0.2.2.1==(4294967295:Int)) (
 .leaf (r1,(false,()))) (
 .ob (H8 (a0.2.2.2.1,()) ((Bq [114,101,107,101,121]),())) fun r3=>
 .leaf ((r1.1,r1.2.1,r1.2.2.1,u1.1,u1.2.1,u1.2.2.1,u2.1,u2.2.1,u2.2.2.1,u3.1,u3.2.1,u3.2.2.1,u3.2.2.2.1,u3.2.2.2.2.1,r3.1,()),(true,()))))))
def Ap5 (a0:Af):Option (Af×(Bool×Unit)):=(Apx a0).val
def Pd (a0:Ab) (a1:YI):Tree (Ab×((List Aa)×Unit)×((List Ae)×Unit)×YI):=
 letI u1:=a0.2.2.2.2.2.2.2.2.2.2.2.2.2.2.2.2.2;letI u2:=u1.2.2.2;letI u3:=u2.2.2.2;letI u4:=u3.2.2.2.2;.ob (Bv a0) fun r1=>letI u5:=r1.2.2.2;letI u6:=u5.2.2.2;letI u7:=u6.2.2.2;letI u8:=u7.2.2.2.2;letI u9:=u8.2.2.2.2.2.2.2.2.2.2.2.2.2.2.2.2.2.2.2;
 .ob (Bw a0) fun r2=>
 .br (!r2.1) (
 .leaf (r1,(([]:List Aa),()),(([]:List Ae),()),((1:Int),()))) (
 .ob (A3 a1 ((0:Int),()) ((1000000:Int),())) fun r3=>
 .br (!r3.1) (
 .leaf (r1,(([]:List Aa),()),(([]:List Ae),()),((1:Int),()))) (
 .br (a0.2.2.2.2.1 != (3:Int)) (
 .leaf (r1,(([]:List Aa),()),(([]:List Ae),()),((6:Int),()))) (
 .br (decide ((a0.2.2.2.2.2.2.2.2.2.2.2.2.2.2.2.2.2.2.2.2.2.2.2.2.2.2.2.2.2.2.2.1.length:Int)>(0:Int))) (
 .leaf (r1,(([]:List Aa),()),(([]:List Ae),()),((6:Int),()))) (
 .ob (Ap5 (u1.1,u1.2.1,u1.2.2.1,u2.1,u2.2.1,u2.2.2.1,u3.1,u3.2.1,u3.2.2.1,u3.2.2.2.1,u4.1,u4.2.1,u4.2.2.1,u4.2.2.2.1,u4.2.2.2.2.1,())) fun r4=>
 .ob (Lj r4.1) fun r5=>letI u10:=r5.1.2.2.2;letI u11:=u10.2.2.2;letI u12:=u11.2.2.2.2;
 .br (!r4.2.1) (
 .leaf (r1,(([]:List Aa),()),(([]:List Ae),()),((5:Int),()))) (
 .br (r5.2.2.1 != (0:Int)) (
 .leaf (r1,(([]:List Aa),()),(([]:List Ae),()),((5:Int),()))) (
 .ob (Lh a1) fun r6=>
 .ob (Dy r5.1 r5.2.1) fun r7=>
 .leaf ((r1.1,r1.2.1,r1.2.2.1,u5.1,u5.2.1,u5.2.2.1,u6.1,u6.2.1,u6.2.2.1,u7.1,u7.2.1,u7.2.2.1,u7.2.2.2.1,u8.1,u8.2.1,u8.2.2.1,u8.2.2.2.1,r5.1.1,r5.1.2.1,r5.1.2.2.1,u10.1,u10.2.1,u10.2.2.1,u11.1,u11.2.1,u11.2.2.1,u11.2.2.2.1,u12.1,u12.2.1,u12.2.2.1,u12.2.2.2.1,u12.2.2.2.2.1,u9.1,u9.2.1,u9.2.2.1,u9.2.2.2.1,r6.1,r6.2.1,r6.2.2.1,r6.2.2.2.1,u9.2.2.2.2.2.2.2.2.1,()),([r5.2.1],()),([r7],()),((0:Int),()))))))))
def Pq (a0:Ab) (a1:YI):Option (Ab×((List Aa)×Unit)×((List Ae)×Unit)×YI):=(Pd a0 a1).val
def Apz (a0:Ab):Tree (Ab×((List Ae)×Unit)):=
 .ob (Bw a0) fun r1=>
 .br (!r1.1) (
 .ob (Bv a0) fun r2=>
 .leaf (r2,(([]:List Ae),()))) (
 .br (a0.2.2.2.2.1 != (3:Int)) (
 .ob (Q0 a0) fun r3=>
 .leaf (r3,(([]:List Ae),()))) (
 .ob (Q0 a0) fun r4=>
 .ob (Abo (a0.1,()) ((0:Int),()) (a0.2.2.2.2.2.2.2.2.2.2.2.2.2.2.2.2.2.2.1,())) fun r5=>
 .leaf (r4,([r5],()))))
def Ap6 (a0:Ab):Option (Ab×((List Ae)×Unit)):=(Apz a0).val
def Hh (x1:(List Aa)×Int×Unit):Option (((List Aa)×Int×Unit)⊕((Bool×Unit)⊕(Unit))):=
 Tree.val (α:=((List Aa)×Int×Unit)⊕((Bool×Unit)⊕(Unit))) <|
 .br (decide (x1.2.1<(x1.1.length:Int))) (
 .ob (idx x1.1 x1.2.1) fun e2=>
 .ob (F8 e2) fun r3=>
 .br (!r3.1) (
 .leaf (.inr (.inl (false,())))) (
 .leaf (.inl (x1.1,(i64.wrap (x1.2.1+(1:Int))),())))) (
 .leaf (.inr (.inr ())))
def Zt (a0:(List Aa)×Unit):Tree ((Bool×Unit)):=
 .ob (Ay Hh (a0.1,(0:Int),())) fun o4=>
 .sm o4 (fun o5=>
 .leaf o5) (fun o6=>
 .leaf (true,()))
def Aai (a0:(List Aa)×Unit):Option ((Bool×Unit)):=(Zt a0).val
def Ade (a0:YBs) (a1:YI):Tree ((Bool×Unit)):=
 .br ((a0.1.length:Int)==(0:Int)) (
 .leaf (true,())) (
 .leaf (((a0.1.length:Int)==a1.1),()))
def M0 (a0:YBs) (a1:YI):Option ((Bool×Unit)):=(Ade a0 a1).val
def Ahl (a0:Ae):Tree ((Bool×Unit)):=
 letI u1:=a0.2.2.2;letI u2:=u1.2.2.2.2.2;.ob (A3 (a0.1,()) ((1:Int),()) ((17:Int),())) fun r1=>
 .br r1.1 (
 .ob (A3 (a0.2.1,()) ((0:Int),()) ((9:Int),())) fun r2=>
 .br r2.1 (
 .ob (A3 (a0.2.2.1,()) ((0:Int),()) ((1:Int),())) fun r3=>
 .br r3.1 (
 .ob (A3 (u1.2.2.1,()) ((0:Int),()) ((4294967295:Int),())) fun r4=>
 .br r4.1 (
 .ob (A3 (u1.2.2.2.1,()) ((0:Int),()) ((281474976710655:Int),())) fun r5=>
 .br r5.1 (
 .ob (A3 (u2.2.2.2.1,()) ((0:Int),()) ((1000000:Int),())) fun r6=>
 .br r6.1 (
 .ob (M0 (u1.1,()) ((12:Int),())) fun r7=>
 .br r7.1 (
 .ob (M0 (u1.2.1,()) ((12:Int),())) fun r8=>
 .br r8.1 (
 .br (decide ((a0.2.2.2.2.2.2.2.1.length:Int)≤(100:Int))) (
 .ob (M0 (u2.1,()) ((32:Int),())) fun r9=>
 .br r9.1 (
 .ob (Xb (u2.2.1,u2.2.2.1,())) fun r10=>
 .leaf r10) (
 .leaf (false,()))) (
 .leaf (false,()))) (
 .leaf (false,()))) (
 .leaf (false,()))) (
 .leaf (false,()))) (
 .leaf (false,()))) (
 .leaf (false,()))) (
 .leaf (false,()))) (
 .leaf (false,()))) (
 .leaf (false,()))
def Ah1 (a0:Ae):Option ((Bool×Unit)):=(Ahl a0).val
def Hx (x1:(List Ae)×Int×Unit):Option (((List Ae)×Int×Unit)⊕((Bool×Unit)⊕(Unit))):=
 Tree.val (α:=((List Ae)×Int×Unit)⊕((Bool×Unit)⊕(Unit))) <|
 .br (decide (x1.2.1<(x1.1.length:Int))) (
 .ob (idx x1.1 x1.2.1) fun e2=>
 .ob (Ah1 e2) fun r3=>
 .br (!r3.1) (
 .leaf (.inr (.inl (false,())))) (
 .leaf (.inl (x1.1,(i64.wrap (x1.2.1+(1:Int))),())))) (
 .leaf (.inr (.inr ())))
def Adf (a0:(List Ae)×Unit):Tree ((Bool×Unit)):=
 .ob (Ay Hx (a0.1,(0:Int),())) fun o4=>
 .sm o4 (fun o5=>
 .leaf o5) (fun o6=>
 .leaf (true,()))
def Ado (a0:(List Ae)×Unit):Option ((Bool×Unit)):=(Adf a0).val
def Ap0 (a0:YBs) (a1:YBs):Tree ((Bool×Unit)):=
 .leaf ((decide ((Ko a0.1)=(Ko a1.1))),())
def Fy (a0:YBs) (a1:YBs):Option ((Bool×Unit)):=(Ap0 a0 a1).val
def T4 (a0:Aa) (a1:Aa):Tree ((Bool×Unit)):=
 letI u1:=a0.2.2.2;letI u2:=u1.2.2.2;letI u3:=a1.2.2.2;letI u4:=u3.2.2.2;.br (a0.1==a1.1) (
 .br (a0.2.1==a1.2.1) (
 .ob (Fy (a0.2.2.1,()) (a1.2.2.1,())) fun r1=>
 .br r1.1 (
 .ob (Fy (u1.1,()) (u3.1,())) fun r2=>
 .br r2.1 (
 .br (u1.2.1==u3.2.1) (
 .ob (Fy (u1.2.2.1,()) (u3.2.2.1,())) fun r3=>
 .br r3.1 (
 .ob (Fy (u2.1,()) (u4.1,())) fun r4=>
 .br r4.1 (
 .br (u2.2.1==u4.2.1) (
 .br (u2.2.2.1==u4.2.2.1) (
 .ob (Fy (u2.2.2.2.1,()) (u4.2.2.2.1,())) fun r5=>
 .br r5.1 (
 .ob (Fy (u2.2.2.2.2.1,()) (u4.2.2.2.2.1,())) fun r6=>
 .leaf r6) (
 .leaf (false,()))) (
 .leaf (false,()))) (
 .leaf (false,()))) (
 .leaf (false,()))) (
 .leaf (false,()))) (
 .leaf (false,()))) (
 .leaf (false,()))) (
 .leaf (false,()))) (
 .leaf (false,()))) (
 .leaf (false,()))
def T7 (a0:Aa) (a1:Aa):Option ((Bool×Unit)):=(T4 a0 a1).val
def Hi (x1:(List YI)×(List YI)×Int×Unit):Option (((List YI)×(List YI)×Int×Unit)⊕((Bool×Unit)⊕(Unit))):=
 Tree.val (α:=((List YI)×(List YI)×Int×Unit)⊕((Bool×Unit)⊕(Unit))) <|
 .br (decide (x1.2.2.1<(x1.1.length:Int))) (
 .ob (idx x1.1 x1.2.2.1) fun e2=>
 .ob (idx x1.2.1 x1.2.2.1) fun e3=>
 .br (e2.1 != e3.1) (
 .leaf (.inr (.inl (false,())))) (
 .leaf (.inl (x1.1,x1.2.1,(i64.wrap (x1.2.2.1+(1:Int))),())))) (
 .leaf (.inr (.inr ())))
def Zv (a0:(List YI)×Unit) (a1:(List YI)×Unit):Tree ((Bool×Unit)):=
 .br ((a0.1.length:Int) != (a1.1.length:Int)) (
 .leaf (false,())) (
 .ob (Ay Hi (a0.1,a1.1,(0:Int),())) fun o4=>
 .sm o4 (fun o5=>
 .leaf o5) (fun o6=>
 .leaf (true,())))
def Aaj (a0:(List YI)×Unit) (a1:(List YI)×Unit):Option ((Bool×Unit)):=(Zv a0 a1).val
def Adg (a0:Bn) (a1:Bn):Tree ((Bool×Unit)):=
 .br (a0.1==a1.1) (
 .ob (Aaj (a0.2.1,()) (a1.2.1,())) fun r1=>
 .leaf r1) (
 .leaf (false,()))
def Adp (a0:Bn) (a1:Bn):Option ((Bool×Unit)):=(Adg a0 a1).val
def Ahm (a0:YEp) (a1:YEp):Tree ((Bool×Unit)):=
 .br (a0.1==a1.1) (
 .ob (Fy (a0.2.1,()) (a1.2.1,())) fun r1=>
 .br r1.1 (
 .br (a0.2.2.1==a1.2.2.1) (
 .ob (Adp (a0.2.2.2.1,a0.2.2.2.2.1,()) (a1.2.2.2.1,a1.2.2.2.2.1,())) fun r2=>
 .leaf r2) (
 .leaf (false,()))) (
 .leaf (false,()))) (
 .leaf (false,()))
def Xe (a0:YEp) (a1:YEp):Option ((Bool×Unit)):=(Ahm a0 a1).val
def Zw (a0:Af) (a1:Af):Tree ((Bool×Unit)):=
 letI u1:=a0.2.2.2;letI u2:=u1.2.2.2;letI u3:=u2.2.2.2.2;letI u4:=a1.2.2.2;letI u5:=u4.2.2.2;letI u6:=u5.2.2.2.2;.br (a0.1==a1.1) (
 .ob (Fy (a0.2.1,()) (a1.2.1,())) fun r1=>
 .br r1.1 (
 .ob (Xe (a0.2.2.1,u1.1,u1.2.1,u1.2.2.1,u2.1,()) (a1.2.2.1,u4.1,u4.2.1,u4.2.2.1,u5.1,())) fun r2=>
 .br r2.1 (
 .ob (Xe (u2.2.1,u2.2.2.1,u2.2.2.2.1,u3.1,u3.2.1,()) (u5.2.1,u5.2.2.1,u5.2.2.2.1,u6.1,u6.2.1,())) fun r3=>
 .br r3.1 (
 .br (u3.2.2.1==u6.2.2.1) (
 .br (u3.2.2.2.1==u6.2.2.2.1) (
 .ob (Fy (u3.2.2.2.2.1,()) (u6.2.2.2.2.1,())) fun r4=>
 .leaf r4) (
 .leaf (false,()))) (
 .leaf (false,()))) (
 .leaf (false,()))) (
 .leaf (false,()))) (
 .leaf (false,()))) (
 .leaf (false,()))
def Aak (a0:Af) (a1:Af):Option ((Bool×Unit)):=(Zw a0 a1).val
def Qw (a0:Ab) (a1:Ab):Tree ((Bool×Unit)):=
 letI u1:=a0.2.2.2;letI u2:=u1.2.2.2;letI u3:=u2.2.2.2;letI u4:=u3.2.2.2;letI u5:=u4.2.2.2;letI u6:=u5.2.2.2;letI u7:=u6.2.2.2;letI u8:=u7.2.2.2;letI u9:=u8.2.2.2;letI u10:=u9.2.2.2;letI u11:=u10.2.2.2;letI u12:=u11.2.2.2;letI u13:=a1.2.2.2;letI u14:=u13.2.2.2;letI u15:=u14.2.2.2;letI u16:=u15.2.2.2;letI u17:=u16.2.2.2;letI u18:=u17.2.2.2;letI u19:=u18.2.2.2;letI u20:=u19.2.2.2;letI u21:=u20.2.2.2;letI u22:=u21.2.2.2;letI u23:=u22.2.2.2;letI u24:=u23.2.2.2;.br (a0.1==a1.1) (
 .ob (Fy (a0.2.1,()) (a1.2.1,())) fun r1=>
 .br r1.1 (
 .br (and (a0.2.2.1==a1.2.2.1) (and (u1.1==u13.1) true)) (
 .br (u1.2.1==u13.2.1) (
 .ob (Fy (u1.2.2.1,()) (u13.2.2.1,())) fun r2=>
 .br r2.1 (
 .ob (T7 (u2.1,u2.2.1,u2.2.2.1,u3.1,u3.2.1,u3.2.2.1,u4.1,u4.2.1,u4.2.2.1,u5.1,u5.2.1,()) (u14.1,u14.2.1,u14.2.2.1,u15.1,u15.2.1,u15.2.2.1,u16.1,u16.2.1,u16.2.2.1,u17.1,u17.2.1,())) fun r3=>
 .br r3.1 (
 .ob (Aak (u5.2.2.1,u6.1,u6.2.1,u6.2.2.1,u7.1,u7.2.1,u7.2.2.1,u8.1,u8.2.1,u8.2.2.1,u9.1,u9.2.1,u9.2.2.1,u10.1,u10.2.1,()) (u17.2.2.1,u18.1,u18.2.1,u18.2.2.1,u19.1,u19.2.1,u19.2.2.1,u20.1,u20.2.1,u20.2.2.1,u21.1,u21.2.1,u21.2.2.1,u22.1,u22.2.1,())) fun r4=>
 .br r4.1 (
 .br (and (u10.2.2.1==u22.2.2.1) (and (u11.1==u23.1) (and (u11.2.1==u23.2.1) (and (u11.2.2.1==u23.2.2.1) true)))) (
 .br (and (u12.1==u24.1) (and (u12.2.1==u24.2.1) (and (u12.2.2.1==u24.2.2.1) (and (u12.2.2.2.1==u24.2.2.2.1) true)))) (
 .leaf ((u12.2.2.2.2.1==u24.2.2.2.2.1),())) (
 .leaf (false,()))) (
 .leaf (false,()))) (
 .leaf (false,()))) (
 .leaf (false,()))) (
 .leaf (false,()))) (
 .leaf (false,()))) (
 .leaf (false,()))) (
 .leaf (false,()))) (
 .leaf (false,()))
def Cz (a0:Ab) (a1:Ab):Option ((Bool×Unit)):=(Qw a0 a1).val
def Mt (a0:YBs):Tree ((Bool×Unit)):=
 .ob (A2t a0) fun r1=>
 .br r1.1 (
 .leaf (true,())) (
 .ob (Qy a0) fun r2=>letI u1:=r2.1.2.2.2.2;letI u2:=u1.2.2.2.2.2.2.2.2.2.2.2.2.2.2.2.2.2.2.2.2.2.2.2.2.2.2.2.2.2.2.2.2.2.2.2.2;
 .ob (Q3 r2.1 r2.2) fun r3=>letI u3:=r3.1.2.2.2.2;
 .chk (decide ((0:Int)≤(a0.1.length:Int))) <|
 .chk (decide ((0:Int)≤((a0.1.length:Int)%(8:Int)))) <|
 .chk (decide (((a0.1.length:Int)%(8:Int))≤(a0.1.length:Int))) <|
 .ob (Q4 r2.1 r2.2 (((a0.1.take (((a0.1.length:Int)%(8:Int))).toNat).drop ((0:Int)).toNat),())) fun r4=>
 .ob (Pq r2.1 r2.2) fun r5=>letI u4:=r5.2.2.2;
 .ob (Ap6 r2.1) fun r6=>
 .ob (Bw r2.1) fun r7=>
 .br (!r7.1) (
 .leaf (false,())) (
 .ob (Bw r3.1) fun r8=>
 .br (!r8.1) (
 .leaf (false,())) (
 .ob (Aai r3.2.1) fun r9=>
 .br (!r9.1) (
 .leaf (false,())) (
 .ob (Ado r3.2.2) fun r10=>
 .br (!r10.1) (
 .leaf (false,())) (
 .ob (Bw r6.1) fun r11=>
 .br (!r11.1) (
 .leaf (false,())) (
 .br (r6.1.2.2.2.2.1 != (0:Int)) (
 .leaf (false,())) (
 .br (r4.2.2.2.1==(0:Int)) (
 .br (u1.1 != (3:Int)) (
 .leaf (false,())) (
 .br ((r4.2.1.1.length:Int) != (1:Int)) (
 .leaf (false,())) (
 .br ((r4.2.2.1.1.length:Int) != (2:Int)) (
 .leaf (false,())) (
 .ob (Bw r4.1) fun r12=>
 .br (!r12.1) (
 .leaf (false,())) (
 .br (r4.2.2.2.1 != (0:Int)) (
 .ob (Cz r4.1 r2.1) fun r13=>
 .br (!r13.1) (
 .leaf (false,())) (
 .br (u4.1==(0:Int)) (
 .br ((r5.2.1.1.length:Int) != (1:Int)) (
 .leaf (false,())) (
 .br ((r5.2.2.1.1.length:Int) != (1:Int)) (
 .leaf (false,())) (
 .ob (Bw r5.1) fun r14=>
 .br (!r14.1) (
 .leaf (false,())) (
 .br ((r5.1.2.2.2.2.2.2.2.2.2.2.2.2.2.2.2.2.2.2.2.2.2.2.2.2.2.2.2.2.2.2.2.1.length:Int)==(0:Int)) (
 .leaf (false,())) (
 .br (u4.1 != (0:Int)) (
 .ob (Cz r5.1 r2.1) fun r15=>
 .br (!r15.1) (
 .leaf (false,())) (
 .br (u1.1 != (3:Int)) (
 .leaf (true,())) (
 .leaf (((decide ((i64.wrap (r2.2.1-u2.1))>(60:Int)))==(u3.1==(0:Int))),())))) (
 .br (u1.1 != (3:Int)) (
 .leaf (true,())) (
 .leaf (((decide ((i64.wrap (r2.2.1-u2.1))>(60:Int)))==(u3.1==(0:Int))),())))))))) (
 .br (u4.1 != (0:Int)) (
 .ob (Cz r5.1 r2.1) fun r16=>
 .br (!r16.1) (
 .leaf (false,())) (
 .br (u1.1 != (3:Int)) (
 .leaf (true,())) (
 .leaf (((decide ((i64.wrap (r2.2.1-u2.1))>(60:Int)))==(u3.1==(0:Int))),())))) (
 .br (u1.1 != (3:Int)) (
 .leaf (true,())) (
 .leaf (((decide ((i64.wrap (r2.2.1-u2.1))>(60:Int)))==(u3.1==(0:Int))),())))))) (
 .br (u4.1==(0:Int)) (
 .br ((r5.2.1.1.length:Int) != (1:Int)) (
 .leaf (false,())) (
 .br ((r5.2.2.1.1.length:Int) != (1:Int)) (
 .leaf (false,())) (
 .ob (Bw r5.1) fun r17=>
 .br (!r17.1) (
 .leaf (false,())) (
 .br ((r5.1.2.2.2.2.2.2.2.2.2.2.2.2.2.2.2.2.2.2.2.2.2.2.2.2.2.2.2.2.2.2.2.1.length:Int)==(0:Int)) (
 .leaf (false,())) (
 .br (u4.1 != (0:Int)) (
 .ob (Cz r5.1 r2.1) fun r18=>
 .br (!r18.1) (
 .leaf (false,())) (
 .br (u1.1 != (3:Int)) (
 .leaf (true,())) (
 .leaf (((decide ((i64.wrap (r2.2.1-u2.1))>(60:Int)))==(u3.1==(0:Int))),())))) (
 .br (u1.1 != (3:Int)) (
 .leaf (true,())) (
 .leaf (((decide ((i64.wrap (r2.2.1-u2.1))>(60:Int)))==(u3.1==(0:Int))),())))))))) (
 .br (u4.1 != (0:Int)) (
 .ob (Cz r5.1 r2.1) fun r19=>
 .br (!r19.1) (
 .leaf (false,())) (
 .br (u1.1 != (3:Int)) (
 .leaf (true,())) (
 .leaf (((decide ((i64.wrap (r2.2.1-u2.1))>(60:Int)))==(u3.1==(0:Int))),())))) (
 .br (u1.1 != (3:Int)) (
 .leaf (true,())) (
 .leaf (((decide ((i64.wrap (r2.2.1-u2.1))>(60:Int)))==(u3.1==(0:Int))),())))))))))) (
 .br (r4.2.2.2.1 != (0:Int)) (
 .ob (Cz r4.1 r2.1) fun r20=>
 .br (!r20.1) (
 .leaf (false,())) (
 .br (u4.1==(0:Int)) (
 .br ((r5.2.1.1.length:Int) != (1:Int)) (
 .leaf (false,())) (
 .br ((r5.2.2.1.1.length:Int) != (1:Int)) (
 .leaf (false,())) (
 .ob (Bw r5.1) fun r21=>
 .br (!r21.1) (
 .leaf (false,())) (
 .br ((r5.1.2.2.2.2.2.2.2.2.2.2.2.2.2.2.2.2.2.2.2.2.2.2.2.2.2.2.2.2.2.2.2.1.length:Int)==(0:Int)) (
 .leaf (false,())) (
 .br (u4.1 != (0:Int)) (
 .ob (Cz r5.1 r2.1) fun r22=>
 .br (!r22.1) (
 .leaf (false,())) (
 .br (u1.1 != (3:Int)) (
 .leaf (true,())) (
 .leaf (((decide ((i64.wrap (r2.2.1-u2.1))>(60:Int)))==(u3.1==(0:Int))),())))) (
 .br (u1.1 != (3:Int)) (
 .leaf (true,())) (
 .leaf (((decide ((i64.wrap (r2.2.1-u2.1))>(60:Int)))==(u3.1==(0:Int))),())))))))) (
 .br (u4.1 != (0:Int)) (
 .ob (Cz r5.1 r2.1) fun r23=>
 .br (!r23.1) (
 .leaf (false,())) (
 .br (u1.1 != (3:Int)) (
 .leaf (true,())) (
 .leaf (((decide ((i64.wrap (r2.2.1-u2.1))>(60:Int)))==(u3.1==(0:Int))),())))) (
 .br (u1.1 != (3:Int)) (
 .leaf (true,())) (
 .leaf (((decide ((i64.wrap (r2.2.1-u2.1))>(60:Int)))==(u3.1==(0:Int))),())))))) (
 .br (u4.1==(0:Int)) (
 .br ((r5.2.1.1.length:Int) != (1:Int)) (
 .leaf (false,())) (
 .br ((r5.2.2.1.1.length:Int) != (1:Int)) (
 .leaf (false,())) (
 .ob (Bw r5.1) fun r24=>
 .br (!r24.1) (
 .leaf (false,())) (
 .br ((r5.1.2.2.2.2.2.2.2.2.2.2.2.2.2.2.2.2.2.2.2.2.2.2.2.2.2.2.2.2.2.2.2.1.length:Int)==(0:Int)) (
 .leaf (false,())) (
 .br (u4.1 != (0:Int)) (
 .ob (Cz r5.1 r2.1) fun r25=>
 .br (!r25.1) (
 .leaf (false,())) (
 .br (u1.1 != (3:Int)) (
 .leaf (true,())) (
 .leaf (((decide ((i64.wrap (r2.2.1-u2.1))>(60:Int)))==(u3.1==(0:Int))),())))) (
 .br (u1.1 != (3:Int)) (
 .leaf (true,())) (
 .leaf (((decide ((i64.wrap (r2.2.1-u2.1))>(60:Int)))==(u3.1==(0:Int))),())))))))) (
 .br (u4.1 != (0:Int)) (
 .ob (Cz r5.1 r2.1) fun r26=>
 .br (!r26.1) (
 .leaf (false,())) (
 .br (u1.1 != (3:Int)) (
 .leaf (true,())) (
 .leaf (((decide ((i64.wrap (r2.2.1-u2.1))>(60:Int)))==(u3.1==(0:Int))),())))) (
 .br (u1.1 != (3:Int)) (
 .leaf (true,())) (
 .leaf (((decide ((i64.wrap (r2.2.1-u2.1))>(60:Int)))==(u3.1==(0:Int))),())))))))))))))
def Aop (a0:YBs):Option ((Bool×Unit)):=(Mt a0).val
def Adq (a0:YBs) (a1:YBs):Tree (YBs):=
 .ob (Q2 a0 a1) fun r1=>
 .leaf r1
def Sb (a0:YBs) (a1:YBs):Option (YBs):=(Adq a0 a1).val
def Ajs (a0:YBs):Tree (YBs):=
 .ob (S7 a0) fun r1=>
 .br (!r1.1) (
 .leaf (([]:List YB),())) (
 .ob (Sb ([((114:Int),()),((111:Int),()),((97:Int),()),((109:Int),())],()) a0) fun r2=>
 .ob (H8 r2 ((Bq [102,105,110,105,115,104]),())) fun r3=>
 .leaf r3)
def Ns (a0:YBs):Option (YBs):=(Ajs a0).val
def Ajt (a0:YI) (a1:YBs) (a2:YBs) (a3:YI) (a4:YBs):Tree (YBs):=
 .ob (A3 a0 ((1:Int),()) ((9:Int),())) fun r1=>
 .br (!r1.1) (
 .leaf (([]:List YB),())) (
 .ob (Cs a1) fun r2=>
 .br (!r2.1) (
 .leaf (([]:List YB),())) (
 .ob (Cs a2) fun r3=>
 .br (!r3.1) (
 .leaf (([]:List YB),())) (
 .ob (A3 a3 ((0:Int),()) ((1000000:Int),())) fun r4=>
 .br (!r4.1) (
 .leaf (([]:List YB),())) (
 .br ((a4.1.length:Int) != (16:Int)) (
 .leaf (([]:List YB),())) (
 .ob (Ho (([]:List YB),()) a3 ((4:Int),())) fun r5=>
 .ob (Et ([([((102:Int),()),((u8.wrap (a0.1)),())],()),a1,a2,r5,a4],())) fun r6=>
 .leaf r6)))))
def Kc (a0:YI) (a1:YBs) (a2:YBs) (a3:YI) (a4:YBs):Option (YBs):=(Ajt a0 a1 a2 a3 a4).val
def Avr (a0:YBs) (a1:YI) (a2:YBs) (a3:YBs) (a4:YI) (a5:YBs):Tree (YBs):=
 .ob (Ns a0) fun r1=>
 .ob (Kc a1 a2 a3 a4 a5) fun r2=>
 .br ((r1.1.length:Int)==(0:Int)) (
 .leaf (([]:List YB),())) (
 .br ((r2.1.length:Int)==(0:Int)) (
 .leaf (([]:List YB),())) (
 .ob (Ae9 r1 r2) fun r3=>
 .leaf r3))
def Alm (a0:YBs) (a1:YI) (a2:YBs) (a3:YBs) (a4:YI) (a5:YBs):Option (YBs):=(Avr a0 a1 a2 a3 a4 a5).val
def Aln (a0:YBs) (a1:YI) (a2:Aa):Tree (Aa×(Bool×Unit)):=
 letI u1:=a2.2.2.2;.br (a2.1 != (2:Int)) (
 .leaf (((0:Int),(0:Int),([]:List YB),([]:List YB),(0:Int),([]:List YB),([]:List YB),(0:Int),(0:Int),([]:List YB),([]:List YB),()),(false,()))) (
 .ob (F8 a2) fun r1=>
 .br (!r1.1) (
 .leaf (((0:Int),(0:Int),([]:List YB),([]:List YB),(0:Int),([]:List YB),([]:List YB),(0:Int),(0:Int),([]:List YB),([]:List YB),()),(false,()))) (
 .ob (Alm a0 a1 (a2.2.2.1,()) (u1.1,()) (u1.2.1,()) (u1.2.2.1,())) fun r2=>
 .br ((r2.1.length:Int)==(0:Int)) (
 .leaf (((0:Int),(0:Int),([]:List YB),([]:List YB),(0:Int),([]:List YB),([]:List YB),(0:Int),(0:Int),([]:List YB),([]:List YB),()),(false,()))) (
 .ob (A1 (a2.2.2.1,())) fun r3=>
 .ob (A1 (u1.1,())) fun r4=>
 .ob (A1 (u1.2.2.1,())) fun r5=>
 .leaf (((3:Int),a1.1,r3.1,r4.1,u1.2.1,r5.1,r2.1,(0:Int),(0:Int),([]:List YB),([]:List YB),()),(true,())))))
def Aal (a0:YBs) (a1:YI) (a2:Aa):Option (Aa×(Bool×Unit)):=(Aln a0 a1 a2).val
def Aoq (a0:YBs) (a1:YBs) (a2:YBs):Tree (YBs):=
 .ob (S7 a0) fun r1=>
 .br (!r1.1) (
 .leaf (([]:List YB),())) (
 .ob (Cs a1) fun r2=>
 .br (!r2.1) (
 .leaf (([]:List YB),())) (
 .ob (Cs a2) fun r3=>
 .br (!r3.1) (
 .leaf (([]:List YB),())) (
 .ob (Et ([a1,a2],())) fun r4=>
 .ob (Sb r4 a0) fun r5=>
 .leaf r5)))
def Adr (a0:YBs) (a1:YBs) (a2:YBs):Option (YBs):=(Aoq a0 a1 a2).val
def Alo (a0:YBs):Tree (YBs):=
 .br ((a0.1.length:Int) != (32:Int)) (
 .leaf (([]:List YB),())) (
 .ob (H8 a0 ((Bq [101,112,111,99,104]),())) fun r1=>
 .leaf r1)
def Aam (a0:YBs):Option (YBs):=(Alo a0).val
def M4 (x3:Int×(List YB)×Int×Unit):Option ((Int×(List YB)×Int×Unit)⊕(YBs)):=
 Tree.val (α:=(Int×(List YB)×Int×Unit)⊕(YBs)) <|
 .br (decide (x3.2.2.1<x3.1)) (
 .ob (H8 (x3.2.1,()) ((Bq [114,101,107,101,121]),())) fun r4=>
 .leaf (.inl (x3.1,r4.1,(i64.wrap (x3.2.2.1+(1:Int))),()))) (
 .leaf (.inr (x3.2.1,())))
def Avs (a0:YBs) (a1:YI):Tree (YBs):=
 .ob (A3 a1 ((0:Int),()) ((64:Int),())) fun r1=>
 .br (!r1.1) (
 .leaf (([]:List YB),())) (
 .ob (A1 a0) fun r2=>
 .ob (Ay M4 (a1.1,r2.1,(0:Int),())) fun o5=>
 .leaf o5)
def Alp (a0:YBs) (a1:YI):Option (YBs):=(Avs a0 a1).val
def Alq (a0:YBs) (a1:YBs) (a2:YBs) (a3:YI):Tree (YBs):=
 .ob (Adr a0 a1 a2) fun r1=>
 .ob (Aam r1) fun r2=>
 .br ((r2.1.length:Int)==(0:Int)) (
 .leaf (([]:List YB),())) (
 .ob (Alp r2 a3) fun r3=>
 .leaf r3)
def Aan (a0:YBs) (a1:YBs) (a2:YBs) (a3:YI):Option (YBs):=(Alq a0 a1 a2 a3).val
def Ash:Tree (Bn):=
 .leaf ((-1:Int),(List.replicate ((32:Int)).toNat ((0:Int),())),())
def Xf:Option (Bn):=(Ash).val
def Alr (a0:YI) (a1:YBs):Tree (YEp):=
 .ob (A3 a0 ((0:Int),()) ((4294967295:Int),())) fun r1=>
 .br (!r1.1) (
 .leaf ((0:Int),([]:List YB),(0:Int),(0:Int),([]:List YI),())) (
 .br ((a1.1.length:Int) != (32:Int)) (
 .leaf ((0:Int),([]:List YB),(0:Int),(0:Int),([]:List YI),())) (
 .ob (A1 a1) fun r2=>
 .ob Xf fun r3=>
 .leaf (a0.1,r2.1,(0:Int),r3.1,r3.2.1,())))
def Lk (a0:YI) (a1:YBs):Option (YEp):=(Alr a0 a1).val
def Aor (a0:YI) (a1:YBs) (a2:YBs):Tree (Af):=
 .ob (Ju a0) fun r1=>
 .br (!r1.1) (
 .leaf ((0:Int),([]:List YB),(0:Int),([]:List YB),(0:Int),(0:Int),([]:List YI),(0:Int),([]:List YB),(0:Int),(0:Int),([]:List YI),false,(0:Int),([]:List YB),())) (
 .ob (Cs a1) fun r2=>
 .br (!r2.1) (
 .leaf ((0:Int),([]:List YB),(0:Int),([]:List YB),(0:Int),(0:Int),([]:List YI),(0:Int),([]:List YB),(0:Int),(0:Int),([]:List YI),false,(0:Int),([]:List YB),())) (
 .br ((a2.1.length:Int) != (32:Int)) (
 .leaf ((0:Int),([]:List YB),(0:Int),([]:List YB),(0:Int),(0:Int),([]:List YI),(0:Int),([]:List YB),(0:Int),(0:Int),([]:List YI),false,(0:Int),([]:List YB),())) (
 .ob (A1 a1) fun r3=>
 .ob (Lk ((0:Int),()) a2) fun r4=>
 .leaf (a0.1,r3.1,r4.1,r4.2.1,r4.2.2.1,r4.2.2.2.1,r4.2.2.2.2.1,(0:Int),([]:List YB),(0:Int),(0:Int),([]:List YI),false,(0:Int),([]:List YB),()))))
def Ads (a0:YI) (a1:YBs) (a2:YBs):Option (Af):=(Aor a0 a1 a2).val
def Afa (a0:Ab) (a1:YI) (a2:Aa):Tree (Ab×((List Aa)×Unit)×((List Ae)×Unit)):=
 .ob (Bv a0) fun r1=>letI u1:=r1.2.2;letI u2:=u1.2.2.2.2.2.2.2.2.2.2.2.2.2.2.2.2.2.2.2.2.2.2.2.2.2.2.2.2.2.2.2.2.2.2;
 .ob (Aal (a0.2.1,()) (a0.1,()) a2) fun r2=>letI u3:=r2.1.2.2;letI u4:=u3.2.2;letI u5:=u4.2.2.2;
 .br (!r2.2.1) (
 .leaf (r1,(([]:List Aa),()),(([]:List Ae),()))) (
 .ob (Lh a1) fun r3=>
 .ob (Aan (a0.2.1,()) (a0.2.2.2.2.2.1,()) (a2.2.2.2.1,()) ((0:Int),())) fun r4=>
 .ob (Ads ((0:Int),()) (a2.2.2.2.1,()) r4) fun r5=>letI u6:=r5.2.2.2;letI u7:=u6.2.2.2;letI u8:=u7.2.2.2.2;
 .ob (A1 (a0.2.2.2.2.2.1,())) fun r6=>
 .ob (A1 (a2.2.2.2.1,())) fun r7=>
 .ob (Ns (a0.2.1,())) fun r8=>
 .ob (Kc (r2.1.2.1,()) (u3.1,()) (u3.2.1,()) (u4.1,()) (u4.2.1,())) fun r9=>
 .ob (Ahx r8 r9) fun r10=>
 .ob (Gm r2.1) fun r11=>
 .leaf ((r1.1,r1.2.1,u1.1,u1.2.1,(2:Int),u1.2.2.2.1,r2.1.1,r2.1.2.1,u3.1,u3.2.1,u4.1,u4.2.1,u4.2.2.1,u5.1,u5.2.1,u5.2.2.1,u5.2.2.2.1,r5.1,r5.2.1,r5.2.2.1,u6.1,u6.2.1,u6.2.2.1,u7.1,u7.2.1,u7.2.2.1,u7.2.2.2.1,u8.1,u8.2.1,u8.2.2.1,u8.2.2.2.1,u8.2.2.2.2.1,r3.1,r3.2.1,r3.2.2.1,r3.2.2.2.1,u2.1,u2.2.1,u2.2.2.1,u2.2.2.2.1,u2.2.2.2.2.1,()),([r11],()),([((2:Int),a0.1,(0:Int),r6.1,r7.1,(0:Int),(0:Int),([]:List YB),([]:List YB),(0:Int),(0:Int),a1.1,()),r10],())))
def Q5 (a0:Ab) (a1:YI) (a2:Aa):Option (Ab×((List Aa)×Unit)×((List Ae)×Unit)):=(Afa a0 a1 a2).val
def H9 (x1:(List YB)×(List YB)×Int×Int×Int×Unit):Option (((List YB)×(List YB)×Int×Int×Int×Unit)⊕(YI)):=
 letI u1:=x1.2.2.2;Tree.val (α:=((List YB)×(List YB)×Int×Int×Int×Unit)⊕(YI)) <|
 .br (decide (u1.2.1<u1.1)) (
 .ob (idx x1.1 u1.2.1) fun e2=>
 .ob (idx x1.2.1 u1.2.1) fun e3=>
 .leaf (.inl (x1.1,x1.2.1,(i64.wrap ((BitVec.ofInt (i64.bits) (x1.2.2.1) ||| BitVec.ofInt (i64.bits) ((i64.wrap ((u8.wrap ((BitVec.ofInt (u8.bits) (e2.1) ^^^ BitVec.ofInt (u8.bits) (e3.1)).toNat:Nat)))))).toNat:Nat)),u1.1,(i64.wrap (u1.2.1+(1:Int))),()))) (
 .leaf (.inr (x1.2.2.1,())))
def Ap7 (a0:YBs) (a1:YBs):Tree (YI):=
 .br ((a0.1.length:Int) != (a1.1.length:Int)) (
 .leaf ((-1:Int),())) (
 .ob (Ay H9 (a0.1,a1.1,(0:Int),(a0.1.length:Int),(0:Int),())) fun o4=>
 .leaf o4)
def Jv (a0:YBs) (a1:YBs):Option (YI):=(Ap7 a0 a1).val
def Asi (a0:Bn) (a1:YI):Tree ((Bool×Unit)):=
 .ob (Abn a0) fun r1=>
 .br (!r1.1) (
 .leaf (false,())) (
 .ob (A3 a1 ((0:Int),()) ((281474976710655:Int),())) fun r2=>
 .br (!r2.1) (
 .leaf (false,())) (
 .br (decide (a1.1>a0.1)) (
 .leaf (true,())) (
 .br (decide (a1.1≥(i64.wrap ((i64.wrap (a0.1-(1024:Int)))+(1:Int))))) (
 .ob (Po a0 a1) fun r3=>
 .leaf ((!r3.1),())) (
 .leaf (false,())))))
def Ah2 (a0:Bn) (a1:YI):Option ((Bool×Unit)):=(Asi a0 a1).val
def Ll (x3:Int×Int×Int×(List YI)×Int×(List YI)×Int×(List YI)×Unit):Option ((Int×Int×Int×(List YI)×Int×(List YI)×Int×(List YI)×Unit)⊕((Int×Int×(List YI)×Int×(List YI)×Int×(List YI)×Unit))):=
 letI u1:=x3.2.2;letI u2:=u1.2.2;letI u3:=u2.2.2;Tree.val (α:=(Int×Int×Int×(List YI)×Int×(List YI)×Int×(List YI)×Unit)⊕((Int×Int×(List YI)×Int×(List YI)×Int×(List YI)×Unit))) <|
 .br (decide (x3.2.1<x3.1)) (
 .chk (decide ((0:Int)≤x3.2.1)) <|
 .chk (decide ((0:Int)≤(x3.2.1%(1024:Int)))) <|
 .ob (idx u3.2.1 ((x3.2.1%(1024:Int))/(32:Int))) fun e4=>
 .chk (decide ((0:Int)≤x3.2.1)) <|
 .chk (decide ((0:Int)≤(x3.2.1%(32:Int)))) <|
 .ob (idx u3.2.1 ((x3.2.1%(1024:Int))/(32:Int))) fun e5=>
 let q6:=(x3.2.2.2.2.2.2.2.1.set (((x3.2.1%(1024:Int))/(32:Int))).toNat ((i64.wrap ((BitVec.ofInt (i64.bits) (e4.1) &&& ~~~ BitVec.ofInt (i64.bits) ((i64.wrap ((1:Int)*2^(min ((x3.2.1%(32:Int))).toNat i64.bits))))).toNat:Nat)),()))
 .leaf (.inl (x3.1,(i64.wrap (x3.2.1+(1:Int))),u1.1,u1.2.1,u2.1,u2.2.1,u3.1,q6,()))) (
 .leaf (.inr (x3.1,u1.1,u1.2.1,u2.1,u2.2.1,u3.1,u3.2.1,())))
def Asj (a0:Bn) (a1:YI):Tree (Bn×(Bool×Unit)):=
 .ob (Sa a0) fun r1=>
 .ob (Ah2 a0 a1) fun r2=>
 .br (!r2.1) (
 .leaf (r1,(false,()))) (
 .ob (Ay Ll (a1.1,(if (i64.wrap (a0.1+(1:Int)))<(i64.wrap ((i64.wrap (a1.1-(1024:Int)))+(1:Int)))then(i64.wrap ((i64.wrap (a1.1-(1024:Int)))+(1:Int)))else(i64.wrap (a0.1+(1:Int)))),a0.1,a0.2.1,(0:Int),([]:List YI),r1.1,r1.2.1,())) fun o7=>
 .chk (decide ((0:Int)≤o7.1)) <|
 .chk (decide ((0:Int)≤(o7.1%(1024:Int)))) <|
 .ob (idx o7.2.2.2.2.2.2.1 ((o7.1%(1024:Int))/(32:Int))) fun e8=>
 .chk (decide ((0:Int)≤o7.1)) <|
 .chk (decide ((0:Int)≤(o7.1%(32:Int)))) <|
 .ob (idx o7.2.2.2.2.2.2.1 ((o7.1%(1024:Int))/(32:Int))) fun e9=>
 let q10:=(o7.2.2.2.2.2.2.1.set (((o7.1%(1024:Int))/(32:Int))).toNat ((i64.wrap ((BitVec.ofInt (i64.bits) (e8.1) ||| BitVec.ofInt (i64.bits) ((i64.wrap ((1:Int)*2^(min ((o7.1%(32:Int))).toNat i64.bits))))).toNat:Nat)),()))
 .leaf (((if o7.2.1<o7.1 then o7.1 else o7.2.1),q10,()),(true,())))
def Ah3 (a0:Bn) (a1:YI):Option (Bn×(Bool×Unit)):=(Asj a0 a1).val
def Adt (a0:YBs) (a1:YBs):Tree ((Bool×Unit)):=
 .br ((a0.1.length:Int)==(16:Int)) (
 .ob (Jv a0 a1) fun r1=>
 .leaf ((r1.1==(0:Int)),())) (
 .leaf (false,()))
def M5 (a0:YBs) (a1:YBs):Option ((Bool×Unit)):=(Adt a0 a1).val
def Ah4 (a0:YBs) (a1:YI) (a2:Aa):Tree (YBs×(Bool×Unit)):=
 letI u1:=a2.2.2.2.2.2.2.2;.ob (Hp a1 a2) fun r1=>
 .br ((a0.1.length:Int) != (32:Int)) (
 .leaf ((([]:List YB),()),(false,()))) (
 .br ((r1.1.length:Int)==(0:Int)) (
 .leaf ((([]:List YB),()),(false,()))) (
 .ob (Ae9 a0 r1) fun r2=>
 .ob (M5 (u1.2.2.2.1,()) r2) fun r3=>
 .br (!r3.1) (
 .leaf ((([]:List YB),()),(false,()))) (
 .ob (Pp a1 (a2.2.2.2.1,()) (u1.1,()) (u1.2.1,())) fun r4=>
 .ob (Am1 a0 r4 (u1.2.2.1,())) fun r5=>
 .leaf (r5,(true,())))))
def Pr (a0:YBs) (a1:YI) (a2:Aa):Option (YBs×(Bool×Unit)):=(Ah4 a0 a1 a2).val
def Ah5 (a0:YEp) (a1:YI) (a2:Aa):Tree (YEp×YBs×YI):=
 letI u1:=a2.2.2.2.2.2.2.2;.ob (L7 a0) fun r1=>
 .ob (Qz a0) fun r2=>
 .br (!r2.1) (
 .leaf (r1,(([]:List YB),()),((1:Int),()))) (
 .ob (Hp a1 a2) fun r3=>
 .br ((r3.1.length:Int)==(0:Int)) (
 .leaf (r1,(([]:List YB),()),((1:Int),()))) (
 .br (u1.1 != a0.1) (
 .leaf (r1,(([]:List YB),()),((1:Int),()))) (
 .ob (Ah3 (a0.2.2.2.1,a0.2.2.2.2.1,()) (u1.2.1,())) fun r4=>
 .br (!r4.2.1) (
 .leaf (r1,(([]:List YB),()),((3:Int),()))) (
 .ob (Pr (a0.2.1,()) a1 a2) fun r5=>
 .br (!r5.2.1) (
 .leaf (r1,(([]:List YB),()),((2:Int),()))) (
 .leaf ((r1.1,r1.2.1,r1.2.2.1,r4.1.1,r4.1.2.1,()),r5.1,((0:Int),())))))))
def Fe (a0:YEp) (a1:YI) (a2:Aa):Option (YEp×YBs×YI):=(Ah5 a0 a1 a2).val
def Q6 (a0:Af) (r1:Af) (r8:YEp×YBs×YI) (a1:YI):Tree (Af×YBs×YI):=
 letI u1:=r1.2.2.2.2.2.2.2;letI u2:=u1.2.2;letI u3:=u2.2.2;letI u4:=r8.1.2.2;.br (a0.2.2.2.2.2.2.2.2.2.2.2.2.2.1==(-1:Int)) (
 .leaf ((r1.1,r1.2.1,r8.1.1,r8.1.2.1,u4.1,u4.2.1,u4.2.2.1,u1.1,u1.2.1,u2.1,u2.2.1,u3.1,u3.2.1,(i64.wrap (a1.1+(5:Int))),u3.2.2.2.1,()),r8.2.1,((0:Int),()))) (
 .leaf ((r1.1,r1.2.1,r8.1.1,r8.1.2.1,u4.1,u4.2.1,u4.2.2.1,u1.1,u1.2.1,u2.1,u2.2.1,u3.1,u3.2.1,u3.2.2.1,u3.2.2.2.1,()),r8.2.1,((0:Int),())))
def Ja (a0:Af) (r1:Af) (r8:YEp×YBs×YI) (a1:YI):Tree (Af×YBs×YI):=
 letI u1:=r1.2.2.2.2.2.2.2;letI u2:=u1.2.2.2;.br a0.2.2.2.2.2.2.2.2.2.2.2.2.1 (
 Q6 a0 r1 r8 a1) (
 .leaf ((r1.1,r1.2.1,r8.1.1,r8.1.2.1,r8.1.2.2.1,r8.1.2.2.2.1,r8.1.2.2.2.2.1,u1.1,u1.2.1,u1.2.2.1,u2.1,u2.2.1,u2.2.2.1,u2.2.2.2.1,u2.2.2.2.2.1,()),r8.2.1,((0:Int),())))
def Q7 (a2:Aa) (a0:Af) (r1:Af) (r8:YEp×YBs×YI) (a1:YI):Tree (Af×YBs×YI):=
 letI u1:=r1.2.2;letI u2:=u1.2.2;letI u3:=u2.2.2.2.2.2.2.2.2;letI u4:=r8.1.2.2;.br (a2.2.2.2.2.2.2.2.1==a0.2.2.2.2.2.2.2.1) (
 .leaf ((r1.1,r1.2.1,u1.1,u1.2.1,u2.1,u2.2.1,u2.2.2.1,r8.1.1,r8.1.2.1,u4.1,u4.2.1,u4.2.2.1,u3.1,u3.2.1,u3.2.2.1,()),r8.2.1,((0:Int),()))) (
 .leaf ((r1.1,r1.2.1,r8.1.1,r8.1.2.1,u4.1,u4.2.1,u4.2.2.1,u1.1,u1.2.1,u2.1,u2.2.1,u2.2.2.1,true,(i64.wrap (a1.1+(5:Int))),([]:List YB),()),r8.2.1,((0:Int),())))
def Hj (a2:Aa) (a0:Af) (r1:Af) (r8:YEp×YBs×YI) (a1:YI):Tree (Af×YBs×YI):=
 .br (a2.2.2.2.2.2.2.2.1==a0.2.2.1) (
 Ja a0 r1 r8 a1) (
 Q7 a2 a0 r1 r8 a1)
def L9 (r8:YEp×YBs×YI) (r1:Af) (a2:Aa) (a0:Af) (a1:YI):Tree (Af×YBs×YI):=
 .br (r8.2.2.1 != (0:Int)) (
 .leaf (r1,(([]:List YB),()),r8.2.2)) (
 Hj a2 a0 r1 r8 a1)
def Afb (r7:YEp) (a0:Af) (a2:Aa) (r1:Af) (a1:YI):Tree (Af×YBs×YI):=
 .ob (Fe r7 ((i64.wrap ((1:Int)-a0.1)),()) a2) fun r8=>
 L9 r8 r1 a2 a0 a1
def Q8 (a0:Af) (a2:Aa) (r1:Af) (a1:YI):Tree (Af×YBs×YI):=
 .ob (Lk ((i64.wrap (a0.2.2.1+(1:Int))),()) (a0.2.2.2.2.2.2.2.2.2.2.2.2.2.2.1,())) fun r7=>
 Afb r7 a0 a2 r1 a1
def Ma (a0:Af) (a2:Aa) (r1:Af) (a1:YI):Tree (Af×YBs×YI):=
 letI u1:=a0.2.2.2.2.2.2.2;.ob (Fe (u1.1,u1.2.1,u1.2.2.1,u1.2.2.2.1,u1.2.2.2.2.1,()) ((i64.wrap ((1:Int)-a0.1)),()) a2) fun r9=>
 L9 r9 r1 a2 a0 a1
def Afc (a2:Aa) (a0:Af) (r1:Af) (a1:YI):Tree (Af×YBs×YI):=
 .br (a2.2.2.2.2.2.2.2.1==(i64.wrap (a0.2.2.1+(1:Int)))) (
 Q8 a0 a2 r1 a1) (
 Ma a0 a2 r1 a1)
def Kr (a0:Af) (a2:Aa) (r1:Af) (a1:YI):Tree (Af×YBs×YI):=
 letI u1:=a0.2.2.2;.ob (Fe (a0.2.2.1,u1.1,u1.2.1,u1.2.2.1,u1.2.2.2.1,()) ((i64.wrap ((1:Int)-a0.1)),()) a2) fun r12=>
 L9 r12 r1 a2 a0 a1
def Ps (a2:Aa) (a0:Af) (r1:Af) (a1:YI):Tree (Af×YBs×YI):=
 .br (a2.2.2.2.2.2.2.2.1==(i64.wrap (a0.2.2.1+(1:Int)))) (
 Q8 a0 a2 r1 a1) (
 Kr a0 a2 r1 a1)
def Gg (a2:Aa) (a0:Af) (r1:Af) (a1:YI):Tree (Af×YBs×YI):=
 .br (a2.2.2.2.2.2.2.2.1==a0.2.2.2.2.2.2.2.1) (
 Afc a2 a0 r1 a1) (
 Ps a2 a0 r1 a1)
def Abq (a1:YI) (a0:Af) (r1:Af) (a2:Aa):Tree (Af×YBs×YI):=
 .br (decide (a1.1>a0.2.2.2.2.2.2.2.2.2.2.2.2.2.1)) (
 .leaf (r1,(([]:List YB),()),((9:Int),()))) (
 Gg a2 a0 r1 a1)
def Abr (a0:Af) (a1:YI) (r1:Af) (a2:Aa):Tree (Af×YBs×YI):=
 .br (a0.2.2.2.2.2.2.2.2.2.2.2.2.2.1 != (-1:Int)) (
 Abq a1 a0 r1 a2) (
 Gg a2 a0 r1 a1)
def Gi (a2:Aa) (a0:Af) (a1:YI) (r1:Af):Tree (Af×YBs×YI):=
 .br (a2.2.2.2.2.2.2.2.1==a0.2.2.2.2.2.2.2.1) (
 Abr a0 a1 r1 a2) (
 Gg a2 a0 r1 a1)
def Ia (a2:Aa) (a0:Af) (r1:Af) (a1:YI):Tree (Af×YBs×YI):=
 .br (a2.2.2.2.2.2.2.2.1==a0.2.2.2.2.2.2.2.1) (
 Ma a0 a2 r1 a1) (
 Kr a0 a2 r1 a1)
def Abs (a1:YI) (a0:Af) (r1:Af) (a2:Aa):Tree (Af×YBs×YI):=
 .br (decide (a1.1>a0.2.2.2.2.2.2.2.2.2.2.2.2.2.1)) (
 .leaf (r1,(([]:List YB),()),((9:Int),()))) (
 Ia a2 a0 r1 a1)
def Abt (a0:Af) (a1:YI) (r1:Af) (a2:Aa):Tree (Af×YBs×YI):=
 .br (a0.2.2.2.2.2.2.2.2.2.2.2.2.2.1 != (-1:Int)) (
 Abs a1 a0 r1 a2) (
 Ia a2 a0 r1 a1)
def Ks (a2:Aa) (a0:Af) (a1:YI) (r1:Af):Tree (Af×YBs×YI):=
 .br (a2.2.2.2.2.2.2.2.1==a0.2.2.2.2.2.2.2.1) (
 Abt a0 a1 r1 a2) (
 Ia a2 a0 r1 a1)
def Kt (a2:Aa) (a0:Af) (r1:Af) (r76:YEp×YBs×YI) (a1:YI):Tree (Af×YBs×YI):=
 letI u1:=r1.2.2.2;.br (a2.2.2.2.2.2.2.2.1==a0.2.2.1) (
 Ja a0 r1 r76 a1) (
 .leaf ((r1.1,r1.2.1,r76.1.1,r76.1.2.1,r76.1.2.2.1,r76.1.2.2.2.1,r76.1.2.2.2.2.1,r1.2.2.1,u1.1,u1.2.1,u1.2.2.1,u1.2.2.2.1,true,(i64.wrap (a1.1+(5:Int))),([]:List YB),()),r76.2.1,((0:Int),())))
def Pt (r76:YEp×YBs×YI) (r1:Af) (a2:Aa) (a0:Af) (a1:YI):Tree (Af×YBs×YI):=
 .br (r76.2.2.1 != (0:Int)) (
 .leaf (r1,(([]:List YB),()),r76.2.2)) (
 Kt a2 a0 r1 r76 a1)
def Abu (r75:YEp) (a0:Af) (a2:Aa) (r1:Af) (a1:YI):Tree (Af×YBs×YI):=
 .ob (Fe r75 ((i64.wrap ((1:Int)-a0.1)),()) a2) fun r76=>
 Pt r76 r1 a2 a0 a1
def Abv (a0:Af) (a2:Aa) (r1:Af) (a1:YI):Tree (Af×YBs×YI):=
 .ob (Lk ((i64.wrap (a0.2.2.1+(1:Int))),()) (a0.2.2.2.2.2.2.2.2.2.2.2.2.2.2.1,())) fun r75=>
 Abu r75 a0 a2 r1 a1
def Ku (a0:Af) (a2:Aa) (r1:Af) (a1:YI):Tree (Af×YBs×YI):=
 letI u1:=a0.2.2.2;.ob (Fe (a0.2.2.1,u1.1,u1.2.1,u1.2.2.1,u1.2.2.2.1,()) ((i64.wrap ((1:Int)-a0.1)),()) a2) fun r77=>
 Pt r77 r1 a2 a0 a1
def Kv (a2:Aa) (a0:Af) (r1:Af) (a1:YI):Tree (Af×YBs×YI):=
 .br (a2.2.2.2.2.2.2.2.1==(i64.wrap (a0.2.2.1+(1:Int)))) (
 Abv a0 a2 r1 a1) (
 Ku a0 a2 r1 a1)
def Als (a0:Af) (a1:YI) (a2:Aa):Tree (Af×YBs×YI):=
 letI u1:=a0.2.2;letI u2:=u1.2.2.2.2.2;letI u3:=a2.2.2.2;letI u4:=u3.2.2.2.2;.ob (Fd a0) fun r1=>
 .ob (F9 a0) fun r2=>
 .br (!r2.1) (
 .leaf (r1,(([]:List YB),()),((1:Int),()))) (
 .ob (A3 a1 ((0:Int),()) ((1000000:Int),())) fun r3=>
 .br (!r3.1) (
 .leaf (r1,(([]:List YB),()),((1:Int),()))) (
 .ob (Gw (a2.1,())) fun r4=>
 .br (!r4.1) (
 .leaf (r1,(([]:List YB),()),((1:Int),()))) (
 .ob (F8 a2) fun r5=>
 .br (!r5.1) (
 .leaf (r1,(([]:List YB),()),((1:Int),()))) (
 .br u2.2.2.2.2.2.1 (
 .br (decide ((a0.2.2.2.2.2.2.2.2.2.2.2.2.2.2.1.length:Int)>(0:Int))) (
 .ob (Jv (u3.1,()) (a0.2.1,())) fun r6=>
 .br (r6.1 != (0:Int)) (
 .leaf (r1,(([]:List YB),()),((8:Int),()))) (
 .br (!(u4.1==u1.1)) (
 .br (!(u4.1==u2.1)) (
 .br (!(u4.1==(i64.wrap (u1.1+(1:Int))))) (
 .leaf (r1,(([]:List YB),()),((8:Int),()))) (
 Gi a2 a0 a1 r1)) (
 Gi a2 a0 a1 r1)) (
 Gi a2 a0 a1 r1))) (
 .ob (Jv (u3.1,()) (a0.2.1,())) fun r61=>
 .br (r61.1 != (0:Int)) (
 .leaf (r1,(([]:List YB),()),((8:Int),()))) (
 .br (!(u4.1==u1.1)) (
 .br (!(u4.1==u2.1)) (
 .leaf (r1,(([]:List YB),()),((8:Int),()))) (
 Ks a2 a0 a1 r1)) (
 Ks a2 a0 a1 r1)))) (
 .br (decide ((a0.2.2.2.2.2.2.2.2.2.2.2.2.2.2.1.length:Int)>(0:Int))) (
 .ob (Jv (u3.1,()) (a0.2.1,())) fun r74=>
 .br (r74.1 != (0:Int)) (
 .leaf (r1,(([]:List YB),()),((8:Int),()))) (
 .br (!(u4.1==u1.1)) (
 .br (!(u4.1==(i64.wrap (u1.1+(1:Int))))) (
 .leaf (r1,(([]:List YB),()),((8:Int),()))) (
 Kv a2 a0 r1 a1)) (
 Kv a2 a0 r1 a1))) (
 .ob (Jv (u3.1,()) (a0.2.1,())) fun r81=>
 .br (r81.1 != (0:Int)) (
 .leaf (r1,(([]:List YB),()),((8:Int),()))) (
 .br (!(u4.1==u1.1)) (
 .leaf (r1,(([]:List YB),()),((8:Int),()))) (
 Ku a0 a2 r1 a1))))))))
def Jb (a0:Af) (a1:YI) (a2:Aa):Option (Af×YBs×YI):=(Als a0 a1 a2).val
def Ask (a0:Af) (a1:YI):Tree (YBs×(Bool×Unit)):=
 letI u1:=a0.2.2;letI u2:=u1.2.2.2.2.2;letI u3:=u2.2.2.2.2.2;.ob (F9 a0) fun r1=>
 .br (!r1.1) (
 .leaf ((([]:List YB),()),(false,()))) (
 .br u3.1 (
 .br (a1.1==u2.1) (
 .ob (A1 (u2.2.1,())) fun r2=>
 .leaf (r2,(true,()))) (
 .br (a1.1==u1.1) (
 .ob (A1 (u1.2.1,())) fun r3=>
 .leaf (r3,(true,()))) (
 .br (decide ((a0.2.2.2.2.2.2.2.2.2.2.2.2.2.2.1.length:Int)>(0:Int))) (
 .br (a1.1==(i64.wrap (u1.1+(1:Int)))) (
 .ob (A1 (u3.2.2.1,())) fun r4=>
 .leaf (r4,(true,()))) (
 .leaf ((([]:List YB),()),(false,())))) (
 .leaf ((([]:List YB),()),(false,())))))) (
 .br (a1.1==u1.1) (
 .ob (A1 (u1.2.1,())) fun r5=>
 .leaf (r5,(true,()))) (
 .br (decide ((a0.2.2.2.2.2.2.2.2.2.2.2.2.2.2.1.length:Int)>(0:Int))) (
 .br (a1.1==(i64.wrap (u1.1+(1:Int)))) (
 .ob (A1 (u3.2.2.1,())) fun r6=>
 .leaf (r6,(true,()))) (
 .leaf ((([]:List YB),()),(false,())))) (
 .leaf ((([]:List YB),()),(false,()))))))
def Xg (a0:Af) (a1:YI):Option (YBs×(Bool×Unit)):=(Ask a0 a1).val
def Ayw (a0:YBs) (a1:YBs) (a2:YBs):Tree (Ae):=
 .ob (A1 a0) fun r1=>
 .ob (A1 a1) fun r2=>
 .ob (A1 a2) fun r3=>
 .leaf ((16:Int),(0:Int),(0:Int),([]:List YB),r2.1,(0:Int),(0:Int),r3.1,r1.1,(0:Int),(0:Int),(0:Int),())
def Ap8 (a0:YBs) (a1:YBs) (a2:YBs):Option (Ae):=(Ayw a0 a1 a2).val
def Q9 (a0:Ab) (a1:YI) (a2:Aa):Tree (Ab×((List Aa)×Unit)×((List Ae)×Unit)):=
 letI u1:=a0.2.2.2.2;letI u2:=u1.2.2.2.2.2.2.2.2.2.2.2.2.2;letI u3:=u2.2.2;letI u4:=u3.2.2;letI u5:=u4.2.2;letI u6:=u5.2.2;letI u7:=u6.2.2;letI u8:=u7.2.2;letI u9:=a2.2.2.2;letI u10:=u9.2.2.2.2;.ob (Bv a0) fun r1=>letI u11:=r1.2.2;letI u12:=u11.2.2;letI u13:=u12.2.2;letI u14:=u13.2.2;letI u15:=u14.2.2;letI u16:=u15.2.2;letI u17:=u16.2.2;letI u18:=u17.2.2;letI u19:=u18.2.2.2.2.2.2.2.2.2.2.2.2.2.2.2.2;letI u20:=u19.2.2;letI u21:=u20.2.2;letI u22:=u21.2.2;
 .ob (Jb (u2.1,u2.2.1,u3.1,u3.2.1,u4.1,u4.2.1,u5.1,u5.2.1,u6.1,u6.2.1,u7.1,u7.2.1,u8.1,u8.2.1,u8.2.2.1,()) a1 a2) fun r2=>letI u23:=r2.1.2.2;letI u24:=u23.2.2;letI u25:=u24.2.2;letI u26:=u25.2.2;letI u27:=u26.2.2;letI u28:=u27.2.2;letI u29:=u28.2.2;
 .br (r2.2.2.1 != (0:Int)) (
 .leaf (r1,(([]:List Aa),()),(([]:List Ae),()))) (
 .ob (Xg (u2.1,u2.2.1,u3.1,u3.2.1,u4.1,u4.2.1,u5.1,u5.2.1,u6.1,u6.2.1,u7.1,u7.2.1,u8.1,u8.2.1,u8.2.2.1,()) (u10.1,())) fun r3=>
 .ob (Hp ((1:Int),()) a2) fun r4=>
 .ob (Ap8 r3.1 (u9.1,()) r4) fun r5=>
 .br (u1.1==(2:Int)) (
 .ob (A1 (u1.2.1,())) fun r6=>
 .ob (A1 (r2.1.2.1,())) fun r7=>
 .ob (A1 (u3.2.1,())) fun r8=>
 .chk (decide ([r5].length+[((3:Int),a0.1,(0:Int),r6.1,r7.1,(0:Int),(0:Int),([]:List YB),r8.1,(0:Int),(0:Int),(0:Int),())].length≤4294967296)) <|
 .br (u23.1 != u3.1) (
 .ob (A1 (r2.1.2.1,())) fun r9=>
 .ob (A1 (u23.2.1,())) fun r10=>
 .chk (decide (([r5]++[((3:Int),a0.1,(0:Int),r6.1,r7.1,(0:Int),(0:Int),([]:List YB),r8.1,(0:Int),(0:Int),(0:Int),())]).length+[((10:Int),(0:Int),(0:Int),([]:List YB),r9.1,u23.1,(0:Int),([]:List YB),r10.1,(0:Int),(0:Int),(0:Int),())].length≤4294967296)) <|
 .br (a2.1==(4:Int)) (
 .ob (A1 (u9.1,())) fun r11=>
 .chk (decide ((([r5]++[((3:Int),a0.1,(0:Int),r6.1,r7.1,(0:Int),(0:Int),([]:List YB),r8.1,(0:Int),(0:Int),(0:Int),())])++[((10:Int),(0:Int),(0:Int),([]:List YB),r9.1,u23.1,(0:Int),([]:List YB),r10.1,(0:Int),(0:Int),(0:Int),())]).length+[((6:Int),(0:Int),(1:Int),([]:List YB),r11.1,u10.1,u10.2.1,r2.2.1.1,([]:List YB),(0:Int),(0:Int),a1.1,())].length≤4294967296)) <|
 .br (a2.1 != (5:Int)) (
 .leaf ((r1.1,r1.2.1,u11.1,u11.2.1,(3:Int),u12.2.1,(0:Int),(0:Int),([]:List YB),([]:List YB),(0:Int),([]:List YB),([]:List YB),(0:Int),(0:Int),([]:List YB),([]:List YB),r2.1.1,r2.1.2.1,u23.1,u23.2.1,u24.1,u24.2.1,u25.1,u25.2.1,u26.1,u26.2.1,u27.1,u27.2.1,u28.1,u28.2.1,u29.1,false,(0:Int),(0:Int),(0:Int),false,(0:Int),(0:Int),(0:Int),a1.1,()),(([]:List Aa),()),(((([r5]++[((3:Int),a0.1,(0:Int),r6.1,r7.1,(0:Int),(0:Int),([]:List YB),r8.1,(0:Int),(0:Int),(0:Int),())])++[((10:Int),(0:Int),(0:Int),([]:List YB),r9.1,u23.1,(0:Int),([]:List YB),r10.1,(0:Int),(0:Int),(0:Int),())])++[((6:Int),(0:Int),(1:Int),([]:List YB),r11.1,u10.1,u10.2.1,r2.2.1.1,([]:List YB),(0:Int),(0:Int),a1.1,())]),()))) (
 .ob (Dp r2.1 ((6:Int),()) r2.2.1) fun r12=>
 .br (r12.2.2.1 != (0:Int)) (
 .leaf ((r1.1,r1.2.1,u11.1,u11.2.1,(3:Int),u12.2.1,(0:Int),(0:Int),([]:List YB),([]:List YB),(0:Int),([]:List YB),([]:List YB),(0:Int),(0:Int),([]:List YB),([]:List YB),r2.1.1,r2.1.2.1,u23.1,u23.2.1,u24.1,u24.2.1,u25.1,u25.2.1,u26.1,u26.2.1,u27.1,u27.2.1,u28.1,u28.2.1,u29.1,false,(0:Int),(0:Int),(0:Int),false,(0:Int),(0:Int),(0:Int),a1.1,()),(([]:List Aa),()),(((([r5]++[((3:Int),a0.1,(0:Int),r6.1,r7.1,(0:Int),(0:Int),([]:List YB),r8.1,(0:Int),(0:Int),(0:Int),())])++[((10:Int),(0:Int),(0:Int),([]:List YB),r9.1,u23.1,(0:Int),([]:List YB),r10.1,(0:Int),(0:Int),(0:Int),())])++[((6:Int),(0:Int),(1:Int),([]:List YB),r11.1,u10.1,u10.2.1,r2.2.1.1,([]:List YB),(0:Int),(0:Int),a1.1,())]),()))) (
 .ob (A1 (r12.2.1.2.2.2.1,())) fun r13=>
 .ob (Dy r12.1 r12.2.1) fun r14=>
 .fail))) (
 .br (a2.1 != (5:Int)) (
 .leaf ((r1.1,r1.2.1,u11.1,u11.2.1,(3:Int),u12.2.1,(0:Int),(0:Int),([]:List YB),([]:List YB),(0:Int),([]:List YB),([]:List YB),(0:Int),(0:Int),([]:List YB),([]:List YB),r2.1.1,r2.1.2.1,u23.1,u23.2.1,u24.1,u24.2.1,u25.1,u25.2.1,u26.1,u26.2.1,u27.1,u27.2.1,u28.1,u28.2.1,u29.1,false,(0:Int),(0:Int),(0:Int),false,(0:Int),(0:Int),(0:Int),a1.1,()),(([]:List Aa),()),((([r5]++[((3:Int),a0.1,(0:Int),r6.1,r7.1,(0:Int),(0:Int),([]:List YB),r8.1,(0:Int),(0:Int),(0:Int),())])++[((10:Int),(0:Int),(0:Int),([]:List YB),r9.1,u23.1,(0:Int),([]:List YB),r10.1,(0:Int),(0:Int),(0:Int),())]),()))) (
 .ob (Dp r2.1 ((6:Int),()) r2.2.1) fun r15=>letI u30:=r15.1.2.2.2;letI u31:=u30.2.2.2;letI u32:=u31.2.2.2.2;
 .br (r15.2.2.1 != (0:Int)) (
 .leaf ((r1.1,r1.2.1,u11.1,u11.2.1,(3:Int),u12.2.1,(0:Int),(0:Int),([]:List YB),([]:List YB),(0:Int),([]:List YB),([]:List YB),(0:Int),(0:Int),([]:List YB),([]:List YB),r2.1.1,r2.1.2.1,u23.1,u23.2.1,u24.1,u24.2.1,u25.1,u25.2.1,u26.1,u26.2.1,u27.1,u27.2.1,u28.1,u28.2.1,u29.1,false,(0:Int),(0:Int),(0:Int),false,(0:Int),(0:Int),(0:Int),a1.1,()),(([]:List Aa),()),((([r5]++[((3:Int),a0.1,(0:Int),r6.1,r7.1,(0:Int),(0:Int),([]:List YB),r8.1,(0:Int),(0:Int),(0:Int),())])++[((10:Int),(0:Int),(0:Int),([]:List YB),r9.1,u23.1,(0:Int),([]:List YB),r10.1,(0:Int),(0:Int),(0:Int),())]),()))) (
 .ob (A1 (r15.2.1.2.2.2.1,())) fun r16=>
 .ob (Dy r15.1 r15.2.1) fun r17=>
 .chk (decide ((([r5]++[((3:Int),a0.1,(0:Int),r6.1,r7.1,(0:Int),(0:Int),([]:List YB),r8.1,(0:Int),(0:Int),(0:Int),())])++[((10:Int),(0:Int),(0:Int),([]:List YB),r9.1,u23.1,(0:Int),([]:List YB),r10.1,(0:Int),(0:Int),(0:Int),())]).length+[r17,((8:Int),(0:Int),(0:Int),([]:List YB),r16.1,r15.2.1.2.2.2.2.2.2.2.1,(0:Int),r2.2.1.1,([]:List YB),(0:Int),(0:Int),(0:Int),())].length≤4294967296)) <|
 .leaf ((r1.1,r1.2.1,u11.1,u11.2.1,(3:Int),u12.2.1,(0:Int),(0:Int),([]:List YB),([]:List YB),(0:Int),([]:List YB),([]:List YB),(0:Int),(0:Int),([]:List YB),([]:List YB),r15.1.1,r15.1.2.1,r15.1.2.2.1,u30.1,u30.2.1,u30.2.2.1,u31.1,u31.2.1,u31.2.2.1,u31.2.2.2.1,u32.1,u32.2.1,u32.2.2.1,u32.2.2.2.1,u32.2.2.2.2.1,false,(0:Int),(0:Int),(0:Int),false,(0:Int),(0:Int),(0:Int),a1.1,()),([r15.2.1],()),(((([r5]++[((3:Int),a0.1,(0:Int),r6.1,r7.1,(0:Int),(0:Int),([]:List YB),r8.1,(0:Int),(0:Int),(0:Int),())])++[((10:Int),(0:Int),(0:Int),([]:List YB),r9.1,u23.1,(0:Int),([]:List YB),r10.1,(0:Int),(0:Int),(0:Int),())])++[r17,((8:Int),(0:Int),(0:Int),([]:List YB),r16.1,r15.2.1.2.2.2.2.2.2.2.1,(0:Int),r2.2.1.1,([]:List YB),(0:Int),(0:Int),(0:Int),())]),())))))) (
 .br (a2.1==(4:Int)) (
 .ob (A1 (u9.1,())) fun r18=>
 .chk (decide (([r5]++[((3:Int),a0.1,(0:Int),r6.1,r7.1,(0:Int),(0:Int),([]:List YB),r8.1,(0:Int),(0:Int),(0:Int),())]).length+[((6:Int),(0:Int),(1:Int),([]:List YB),r18.1,u10.1,u10.2.1,r2.2.1.1,([]:List YB),(0:Int),(0:Int),a1.1,())].length≤4294967296)) <|
 .br (a2.1 != (5:Int)) (
 .leaf ((r1.1,r1.2.1,u11.1,u11.2.1,(3:Int),u12.2.1,(0:Int),(0:Int),([]:List YB),([]:List YB),(0:Int),([]:List YB),([]:List YB),(0:Int),(0:Int),([]:List YB),([]:List YB),r2.1.1,r2.1.2.1,u23.1,u23.2.1,u24.1,u24.2.1,u25.1,u25.2.1,u26.1,u26.2.1,u27.1,u27.2.1,u28.1,u28.2.1,u29.1,false,(0:Int),(0:Int),(0:Int),u21.1,u21.2.1,u22.1,u22.2.1,a1.1,()),(([]:List Aa),()),((([r5]++[((3:Int),a0.1,(0:Int),r6.1,r7.1,(0:Int),(0:Int),([]:List YB),r8.1,(0:Int),(0:Int),(0:Int),())])++[((6:Int),(0:Int),(1:Int),([]:List YB),r18.1,u10.1,u10.2.1,r2.2.1.1,([]:List YB),(0:Int),(0:Int),a1.1,())]),()))) (
 .ob (Dp r2.1 ((6:Int),()) r2.2.1) fun r19=>
 .br (r19.2.2.1 != (0:Int)) (
 .leaf ((r1.1,r1.2.1,u11.1,u11.2.1,(3:Int),u12.2.1,(0:Int),(0:Int),([]:List YB),([]:List YB),(0:Int),([]:List YB),([]:List YB),(0:Int),(0:Int),([]:List YB),([]:List YB),r2.1.1,r2.1.2.1,u23.1,u23.2.1,u24.1,u24.2.1,u25.1,u25.2.1,u26.1,u26.2.1,u27.1,u27.2.1,u28.1,u28.2.1,u29.1,false,(0:Int),(0:Int),(0:Int),u21.1,u21.2.1,u22.1,u22.2.1,a1.1,()),(([]:List Aa),()),((([r5]++[((3:Int),a0.1,(0:Int),r6.1,r7.1,(0:Int),(0:Int),([]:List YB),r8.1,(0:Int),(0:Int),(0:Int),())])++[((6:Int),(0:Int),(1:Int),([]:List YB),r18.1,u10.1,u10.2.1,r2.2.1.1,([]:List YB),(0:Int),(0:Int),a1.1,())]),()))) (
 .ob (A1 (r19.2.1.2.2.2.1,())) fun r20=>
 .ob (Dy r19.1 r19.2.1) fun r21=>
 .fail))) (
 .br (a2.1 != (5:Int)) (
 .leaf ((r1.1,r1.2.1,u11.1,u11.2.1,(3:Int),u12.2.1,(0:Int),(0:Int),([]:List YB),([]:List YB),(0:Int),([]:List YB),([]:List YB),(0:Int),(0:Int),([]:List YB),([]:List YB),r2.1.1,r2.1.2.1,u23.1,u23.2.1,u24.1,u24.2.1,u25.1,u25.2.1,u26.1,u26.2.1,u27.1,u27.2.1,u28.1,u28.2.1,u29.1,false,(0:Int),(0:Int),(0:Int),u21.1,u21.2.1,u22.1,u22.2.1,a1.1,()),(([]:List Aa),()),(([r5]++[((3:Int),a0.1,(0:Int),r6.1,r7.1,(0:Int),(0:Int),([]:List YB),r8.1,(0:Int),(0:Int),(0:Int),())]),()))) (
 .ob (Dp r2.1 ((6:Int),()) r2.2.1) fun r22=>letI u33:=r22.1.2.2.2;letI u34:=u33.2.2.2;letI u35:=u34.2.2.2.2;
 .br (r22.2.2.1 != (0:Int)) (
 .leaf ((r1.1,r1.2.1,u11.1,u11.2.1,(3:Int),u12.2.1,(0:Int),(0:Int),([]:List YB),([]:List YB),(0:Int),([]:List YB),([]:List YB),(0:Int),(0:Int),([]:List YB),([]:List YB),r2.1.1,r2.1.2.1,u23.1,u23.2.1,u24.1,u24.2.1,u25.1,u25.2.1,u26.1,u26.2.1,u27.1,u27.2.1,u28.1,u28.2.1,u29.1,false,(0:Int),(0:Int),(0:Int),u21.1,u21.2.1,u22.1,u22.2.1,a1.1,()),(([]:List Aa),()),(([r5]++[((3:Int),a0.1,(0:Int),r6.1,r7.1,(0:Int),(0:Int),([]:List YB),r8.1,(0:Int),(0:Int),(0:Int),())]),()))) (
 .ob (A1 (r22.2.1.2.2.2.1,())) fun r23=>
 .ob (Dy r22.1 r22.2.1) fun r24=>
 .chk (decide (([r5]++[((3:Int),a0.1,(0:Int),r6.1,r7.1,(0:Int),(0:Int),([]:List YB),r8.1,(0:Int),(0:Int),(0:Int),())]).length+[r24,((8:Int),(0:Int),(0:Int),([]:List YB),r23.1,r22.2.1.2.2.2.2.2.2.2.1,(0:Int),r2.2.1.1,([]:List YB),(0:Int),(0:Int),(0:Int),())].length≤4294967296)) <|
 .leaf ((r1.1,r1.2.1,u11.1,u11.2.1,(3:Int),u12.2.1,(0:Int),(0:Int),([]:List YB),([]:List YB),(0:Int),([]:List YB),([]:List YB),(0:Int),(0:Int),([]:List YB),([]:List YB),r22.1.1,r22.1.2.1,r22.1.2.2.1,u33.1,u33.2.1,u33.2.2.1,u34.1,u34.2.1,u34.2.2.1,u34.2.2.2.1,u35.1,u35.2.1,u35.2.2.1,u35.2.2.2.1,u35.2.2.2.2.1,false,(0:Int),(0:Int),(0:Int),u21.1,u21.2.1,u22.1,u22.2.1,a1.1,()),([r22.2.1],()),((([r5]++[((3:Int),a0.1,(0:Int),r6.1,r7.1,(0:Int),(0:Int),([]:List YB),r8.1,(0:Int),(0:Int),(0:Int),())])++[r24,((8:Int),(0:Int),(0:Int),([]:List YB),r23.1,r22.2.1.2.2.2.2.2.2.2.1,(0:Int),r2.2.1.1,([]:List YB),(0:Int),(0:Int),(0:Int),())]),()))))))) (
 .br (u23.1 != u3.1) (
 .ob (A1 (r2.1.2.1,())) fun r25=>
 .ob (A1 (u23.2.1,())) fun r26=>
 .chk (decide ([r5].length+[((10:Int),(0:Int),(0:Int),([]:List YB),r25.1,u23.1,(0:Int),([]:List YB),r26.1,(0:Int),(0:Int),(0:Int),())].length≤4294967296)) <|
 .br (a2.1==(4:Int)) (
 .ob (A1 (u9.1,())) fun r27=>
 .chk (decide (([r5]++[((10:Int),(0:Int),(0:Int),([]:List YB),r25.1,u23.1,(0:Int),([]:List YB),r26.1,(0:Int),(0:Int),(0:Int),())]).length+[((6:Int),(0:Int),(1:Int),([]:List YB),r27.1,u10.1,u10.2.1,r2.2.1.1,([]:List YB),(0:Int),(0:Int),a1.1,())].length≤4294967296)) <|
 .br (a2.1 != (5:Int)) (
 .leaf ((r1.1,r1.2.1,u11.1,u11.2.1,u12.1,u12.2.1,u13.1,u13.2.1,u14.1,u14.2.1,u15.1,u15.2.1,u16.1,u16.2.1,u17.1,u17.2.1,u18.1,r2.1.1,r2.1.2.1,u23.1,u23.2.1,u24.1,u24.2.1,u25.1,u25.2.1,u26.1,u26.2.1,u27.1,u27.2.1,u28.1,u28.2.1,u29.1,u19.1,u19.2.1,u20.1,u20.2.1,false,(0:Int),(0:Int),(0:Int),a1.1,()),(([]:List Aa),()),((([r5]++[((10:Int),(0:Int),(0:Int),([]:List YB),r25.1,u23.1,(0:Int),([]:List YB),r26.1,(0:Int),(0:Int),(0:Int),())])++[((6:Int),(0:Int),(1:Int),([]:List YB),r27.1,u10.1,u10.2.1,r2.2.1.1,([]:List YB),(0:Int),(0:Int),a1.1,())]),()))) (
 .ob (Dp r2.1 ((6:Int),()) r2.2.1) fun r28=>
 .br (r28.2.2.1 != (0:Int)) (
 .leaf ((r1.1,r1.2.1,u11.1,u11.2.1,u12.1,u12.2.1,u13.1,u13.2.1,u14.1,u14.2.1,u15.1,u15.2.1,u16.1,u16.2.1,u17.1,u17.2.1,u18.1,r2.1.1,r2.1.2.1,u23.1,u23.2.1,u24.1,u24.2.1,u25.1,u25.2.1,u26.1,u26.2.1,u27.1,u27.2.1,u28.1,u28.2.1,u29.1,u19.1,u19.2.1,u20.1,u20.2.1,false,(0:Int),(0:Int),(0:Int),a1.1,()),(([]:List Aa),()),((([r5]++[((10:Int),(0:Int),(0:Int),([]:List YB),r25.1,u23.1,(0:Int),([]:List YB),r26.1,(0:Int),(0:Int),(0:Int),())])++[((6:Int),(0:Int),(1:Int),([]:List YB),r27.1,u10.1,u10.2.1,r2.2.1.1,([]:List YB),(0:Int),(0:Int),a1.1,())]),()))) (
 .ob (A1 (r28.2.1.2.2.2.1,())) fun r29=>
 .ob (Dy r28.1 r28.2.1) fun r30=>
 .fail))) (
 .br (a2.1 != (5:Int)) (
 .leaf ((r1.1,r1.2.1,u11.1,u11.2.1,u12.1,u12.2.1,u13.1,u13.2.1,u14.1,u14.2.1,u15.1,u15.2.1,u16.1,u16.2.1,u17.1,u17.2.1,u18.1,r2.1.1,r2.1.2.1,u23.1,u23.2.1,u24.1,u24.2.1,u25.1,u25.2.1,u26.1,u26.2.1,u27.1,u27.2.1,u28.1,u28.2.1,u29.1,u19.1,u19.2.1,u20.1,u20.2.1,false,(0:Int),(0:Int),(0:Int),a1.1,()),(([]:List Aa),()),(([r5]++[((10:Int),(0:Int),(0:Int),([]:List YB),r25.1,u23.1,(0:Int),([]:List YB),r26.1,(0:Int),(0:Int),(0:Int),())]),()))) (
 .ob (Dp r2.1 ((6:Int),()) r2.2.1) fun r31=>letI u36:=r31.1.2.2.2;letI u37:=u36.2.2.2;letI u38:=u37.2.2.2.2;
 .br (r31.2.2.1 != (0:Int)) (
 .leaf ((r1.1,r1.2.1,u11.1,u11.2.1,u12.1,u12.2.1,u13.1,u13.2.1,u14.1,u14.2.1,u15.1,u15.2.1,u16.1,u16.2.1,u17.1,u17.2.1,u18.1,r2.1.1,r2.1.2.1,u23.1,u23.2.1,u24.1,u24.2.1,u25.1,u25.2.1,u26.1,u26.2.1,u27.1,u27.2.1,u28.1,u28.2.1,u29.1,u19.1,u19.2.1,u20.1,u20.2.1,false,(0:Int),(0:Int),(0:Int),a1.1,()),(([]:List Aa),()),(([r5]++[((10:Int),(0:Int),(0:Int),([]:List YB),r25.1,u23.1,(0:Int),([]:List YB),r26.1,(0:Int),(0:Int),(0:Int),())]),()))) (
 .ob (A1 (r31.2.1.2.2.2.1,())) fun r32=>
 .ob (Dy r31.1 r31.2.1) fun r33=>
 .chk (decide (([r5]++[((10:Int),(0:Int),(0:Int),([]:List YB),r25.1,u23.1,(0:Int),([]:List YB),r26.1,(0:Int),(0:Int),(0:Int),())]).length+[r33,((8:Int),(0:Int),(0:Int),([]:List YB),r32.1,r31.2.1.2.2.2.2.2.2.2.1,(0:Int),r2.2.1.1,([]:List YB),(0:Int),(0:Int),(0:Int),())].length≤4294967296)) <|
 .leaf ((r1.1,r1.2.1,u11.1,u11.2.1,u12.1,u12.2.1,u13.1,u13.2.1,u14.1,u14.2.1,u15.1,u15.2.1,u16.1,u16.2.1,u17.1,u17.2.1,u18.1,r31.1.1,r31.1.2.1,r31.1.2.2.1,u36.1,u36.2.1,u36.2.2.1,u37.1,u37.2.1,u37.2.2.1,u37.2.2.2.1,u38.1,u38.2.1,u38.2.2.1,u38.2.2.2.1,u38.2.2.2.2.1,u19.1,u19.2.1,u20.1,u20.2.1,false,(0:Int),(0:Int),(0:Int),a1.1,()),([r31.2.1],()),((([r5]++[((10:Int),(0:Int),(0:Int),([]:List YB),r25.1,u23.1,(0:Int),([]:List YB),r26.1,(0:Int),(0:Int),(0:Int),())])++[r33,((8:Int),(0:Int),(0:Int),([]:List YB),r32.1,r31.2.1.2.2.2.2.2.2.2.1,(0:Int),r2.2.1.1,([]:List YB),(0:Int),(0:Int),(0:Int),())]),())))))) (
 .br (a2.1==(4:Int)) (
 .ob (A1 (u9.1,())) fun r34=>
 .chk (decide ([r5].length+[((6:Int),(0:Int),(1:Int),([]:List YB),r34.1,u10.1,u10.2.1,r2.2.1.1,([]:List YB),(0:Int),(0:Int),a1.1,())].length≤4294967296)) <|
 .br (a2.1 != (5:Int)) (
 .leaf ((r1.1,r1.2.1,u11.1,u11.2.1,u12.1,u12.2.1,u13.1,u13.2.1,u14.1,u14.2.1,u15.1,u15.2.1,u16.1,u16.2.1,u17.1,u17.2.1,u18.1,r2.1.1,r2.1.2.1,u23.1,u23.2.1,u24.1,u24.2.1,u25.1,u25.2.1,u26.1,u26.2.1,u27.1,u27.2.1,u28.1,u28.2.1,u29.1,u19.1,u19.2.1,u20.1,u20.2.1,u21.1,u21.2.1,u22.1,u22.2.1,a1.1,()),(([]:List Aa),()),(([r5]++[((6:Int),(0:Int),(1:Int),([]:List YB),r34.1,u10.1,u10.2.1,r2.2.1.1,([]:List YB),(0:Int),(0:Int),a1.1,())]),()))) (
 .ob (Dp r2.1 ((6:Int),()) r2.2.1) fun r35=>
 .br (r35.2.2.1 != (0:Int)) (
 .leaf ((r1.1,r1.2.1,u11.1,u11.2.1,u12.1,u12.2.1,u13.1,u13.2.1,u14.1,u14.2.1,u15.1,u15.2.1,u16.1,u16.2.1,u17.1,u17.2.1,u18.1,r2.1.1,r2.1.2.1,u23.1,u23.2.1,u24.1,u24.2.1,u25.1,u25.2.1,u26.1,u26.2.1,u27.1,u27.2.1,u28.1,u28.2.1,u29.1,u19.1,u19.2.1,u20.1,u20.2.1,u21.1,u21.2.1,u22.1,u22.2.1,a1.1,()),(([]:List Aa),()),(([r5]++[((6:Int),(0:Int),(1:Int),([]:List YB),r34.1,u10.1,u10.2.1,r2.2.1.1,([]:List YB),(0:Int),(0:Int),a1.1,())]),()))) (
 .ob (A1 (r35.2.1.2.2.2.1,())) fun r36=>
 .ob (Dy r35.1 r35.2.1) fun r37=>
 .fail))) (
 .br (a2.1 != (5:Int)) (
 .leaf ((r1.1,r1.2.1,u11.1,u11.2.1,u12.1,u12.2.1,u13.1,u13.2.1,u14.1,u14.2.1,u15.1,u15.2.1,u16.1,u16.2.1,u17.1,u17.2.1,u18.1,r2.1.1,r2.1.2.1,u23.1,u23.2.1,u24.1,u24.2.1,u25.1,u25.2.1,u26.1,u26.2.1,u27.1,u27.2.1,u28.1,u28.2.1,u29.1,u19.1,u19.2.1,u20.1,u20.2.1,u21.1,u21.2.1,u22.1,u22.2.1,a1.1,()),(([]:List Aa),()),([r5],()))) (
 .ob (Dp r2.1 ((6:Int),()) r2.2.1) fun r38=>letI u39:=r38.1.2.2.2;letI u40:=u39.2.2.2;letI u41:=u40.2.2.2.2;
 .br (r38.2.2.1 != (0:Int)) (
 .leaf ((r1.1,r1.2.1,u11.1,u11.2.1,u12.1,u12.2.1,u13.1,u13.2.1,u14.1,u14.2.1,u15.1,u15.2.1,u16.1,u16.2.1,u17.1,u17.2.1,u18.1,r2.1.1,r2.1.2.1,u23.1,u23.2.1,u24.1,u24.2.1,u25.1,u25.2.1,u26.1,u26.2.1,u27.1,u27.2.1,u28.1,u28.2.1,u29.1,u19.1,u19.2.1,u20.1,u20.2.1,u21.1,u21.2.1,u22.1,u22.2.1,a1.1,()),(([]:List Aa),()),([r5],()))) (
 .ob (A1 (r38.2.1.2.2.2.1,())) fun r39=>
 .ob (Dy r38.1 r38.2.1) fun r40=>
 .chk (decide ([r5].length+[r40,((8:Int),(0:Int),(0:Int),([]:List YB),r39.1,r38.2.1.2.2.2.2.2.2.2.1,(0:Int),r2.2.1.1,([]:List YB),(0:Int),(0:Int),(0:Int),())].length≤4294967296)) <|
 .leaf ((r1.1,r1.2.1,u11.1,u11.2.1,u12.1,u12.2.1,u13.1,u13.2.1,u14.1,u14.2.1,u15.1,u15.2.1,u16.1,u16.2.1,u17.1,u17.2.1,u18.1,r38.1.1,r38.1.2.1,r38.1.2.2.1,u39.1,u39.2.1,u39.2.2.1,u40.1,u40.2.1,u40.2.2.1,u40.2.2.2.1,u41.1,u41.2.1,u41.2.2.1,u41.2.2.2.1,u41.2.2.2.2.1,u19.1,u19.2.1,u20.1,u20.2.1,u21.1,u21.2.1,u22.1,u22.2.1,a1.1,()),([r38.2.1],()),(([r5]++[r40,((8:Int),(0:Int),(0:Int),([]:List YB),r39.1,r38.2.1.2.2.2.2.2.2.2.1,(0:Int),r2.2.1.1,([]:List YB),(0:Int),(0:Int),(0:Int),())]),()))))))))
def C0 (a0:Ab) (a1:YI) (a2:Aa):Option (Ab×((List Aa)×Unit)×((List Ae)×Unit)):=(Q9 a0 a1 a2).val
def Mb (a0:Ab) (a1:YI) (a2:Aa):Tree (Ab×((List Aa)×Unit)×((List Ae)×Unit)):=
 letI u1:=a0.2.2.2.2;.ob (Bw a0) fun r1=>
 .br (!r1.1) (
 .ob (Bv a0) fun r2=>
 .leaf (r2,(([]:List Aa),()),(([]:List Ae),()))) (
 .ob (A3 a1 ((0:Int),()) ((1000000:Int),())) fun r3=>
 .br (!r3.1) (
 .ob (Bv a0) fun r4=>
 .leaf (r4,(([]:List Aa),()),(([]:List Ae),()))) (
 .ob (F8 a2) fun r5=>
 .br (!r5.1) (
 .ob (Bv a0) fun r6=>
 .leaf (r6,(([]:List Aa),()),(([]:List Ae),()))) (
 .br (a2.1==(2:Int)) (
 .br (u1.1==(1:Int)) (
 .ob (Do (a2.2.2.1,()) (u1.2.1,())) fun r7=>
 .br r7.1 (
 .ob (Q5 a0 a1 a2) fun r8=>
 .leaf (r8.1,r8.2.1,r8.2.2)) (
 .ob (Gw (a2.1,())) fun r9=>
 .br r9.1 (
 .br (u1.1==(2:Int)) (
 .ob (C0 a0 a1 a2) fun r10=>
 .leaf (r10.1,r10.2.1,r10.2.2)) (
 .br (u1.1==(3:Int)) (
 .ob (C0 a0 a1 a2) fun r11=>
 .leaf (r11.1,r11.2.1,r11.2.2)) (
 .ob (Bv a0) fun r12=>
 .leaf (r12,(([]:List Aa),()),(([]:List Ae),()))))) (
 .ob (Bv a0) fun r13=>
 .leaf (r13,(([]:List Aa),()),(([]:List Ae),()))))) (
 .ob (Gw (a2.1,())) fun r14=>
 .br r14.1 (
 .br (u1.1==(2:Int)) (
 .ob (C0 a0 a1 a2) fun r15=>
 .leaf (r15.1,r15.2.1,r15.2.2)) (
 .br (u1.1==(3:Int)) (
 .ob (C0 a0 a1 a2) fun r16=>
 .leaf (r16.1,r16.2.1,r16.2.2)) (
 .ob (Bv a0) fun r17=>
 .leaf (r17,(([]:List Aa),()),(([]:List Ae),()))))) (
 .ob (Bv a0) fun r18=>
 .leaf (r18,(([]:List Aa),()),(([]:List Ae),()))))) (
 .ob (Gw (a2.1,())) fun r19=>
 .br r19.1 (
 .br (u1.1==(2:Int)) (
 .ob (C0 a0 a1 a2) fun r20=>
 .leaf (r20.1,r20.2.1,r20.2.2)) (
 .br (u1.1==(3:Int)) (
 .ob (C0 a0 a1 a2) fun r21=>
 .leaf (r21.1,r21.2.1,r21.2.2)) (
 .ob (Bv a0) fun r22=>
 .leaf (r22,(([]:List Aa),()),(([]:List Ae),()))))) (
 .ob (Bv a0) fun r23=>
 .leaf (r23,(([]:List Aa),()),(([]:List Ae),())))))))
def Fz (a0:Ab) (a1:YI) (a2:Aa):Option (Ab×((List Aa)×Unit)×((List Ae)×Unit)):=(Mb a0 a1 a2).val
end
end Go.Proofs.YtmhhajdeafijmaaGreat

/-
  What the functions of the seat answer, as plain terms (printed by a program, proved in the texts P); nothing is assumed.
-/
import Derived.Test.YtmhhajdeafijmaaGreatEv2
namespace Go.Proofs.YtmhhajdeafijmaaGreat
open Go.RowKit IntKind
set_option linter.unusedVariables false
set_option maxRecDepth 100000
set_option maxHeartbeats 4000000
noncomputable section
abbrev YB:Type:=Int×Unit
abbrev YI:Type:=Int×Unit
abbrev YBs:Type:=List YB×Unit
abbrev A38:Type:=ByteArray×Int×Unit
abbrev Bw:Type:=Int×Int×Unit
abbrev A8h:Type:=(List YB)×Int×Unit
abbrev Bv:Type:=Int×(List YI)×Unit
abbrev A9s:Type:=Int×Int×Bool×Int×Unit
abbrev Bbd:Type:=Bool×Int×Int×Int×Unit
abbrev Av:Type:=(List YB)×Int×Int×Unit
abbrev A8n:Type:=Int×Int×Int×Int×Unit
abbrev Jy:Type:=(List YI)×(List YB)×Int×Unit
abbrev Am:Type:=Int×Int×(List YB)×Int×Unit
abbrev YEp:Type:=Int×(List YB)×Int×Int×(List YI)×Unit
abbrev A7:Type:=Int×Int×(List Am)×Unit
abbrev A2:Type:=Int×Int×Int×(List YB)×(List YB)×Int×Int×(List YB)×(List YB)×Int×Int×Int×Unit
abbrev Au:Type:=Int×Int×(List YB)×(List YB)×Int×(List YB)×(List YB)×Int×Int×(List YB)×(List YB)×Unit
abbrev Bj:Type:=Int×Int×Int×Int×(List YB)×(List YB)×Int×(List YB)×(List YB)×Int×Int×(List YB)×(List YB)×Unit
abbrev Aj:Type:=Int×(List YB)×Int×(List YB)×Int×Int×(List YI)×Int×(List YB)×Int×Int×(List YI)×Bool×Int×(List YB)×Unit
abbrev A4:Type:=Int×(List YB)×(List YB)×Int×(List YB)×Int×(List YB)×Int×Int×(List YI)×Int×(List YB)×Int×Int×(List YI)×Bool×Int×(List YB)×Int×Int×(List Am)×Int×Int×Bool×Unit
abbrev Bbe:Type:=Int×(List A4)×Unit
abbrev Bbc:Type:=(List YBs)×(List YB)×(List YB)×Int×Int×(List A4)×(List A8n)×Unit
abbrev A8o:Type:=Int×(List YB)×Int×Int×Int×(List YB)×Int×Int×(List YB)×(List YB)×Int×(List YB)×(List YB)×Int×Int×(List YB)×(List YB)×Int×(List YB)×Int×(List YB)×Int×Int×(List YI)×Int×(List YB)×Int×Int×(List YI)×Bool×Int×(List YB)×Bool×Int×Int×Int×Bool×Int×Int×Int×Int×Unit
def A0y (a0:YBs):Tree ((Bool×Unit)):=
 .leaf ((decide ((a0.1.length:Int)>(1048576:Int))),())
def A0z (a0:YBs):Option ((Bool×Unit)):=(A0y a0).val
def R0 (x1:Av):Option (Av⊕(A8h)):=
 Tree.val (α:=Av⊕(A8h)) <|
 .br (decide (x1.2.2.1<(x1.1.length:Int))) (
 .br (decide (x1.2.2.1<(4000:Int))) (
 .ob (idx x1.1 x1.2.2.1) fun e2=>
 .leaf (.inl (x1.1,(i64.wrap ((BitVec.ofInt (i64.bits) ((i64.wrap ((i64.wrap ((i64.wrap (x1.2.1*(137:Int)))+(i64.wrap (e2.1))))+(11:Int)))) &&& BitVec.ofInt (i64.bits) ((1073741823:Int))).toNat:Nat)),(i64.wrap (x1.2.2.1+(1:Int))),()))) (
 .leaf (.inr (x1.1,x1.2.1,())))) (
 .leaf (.inr (x1.1,x1.2.1,())))
def Ahp (a0:YBs):Tree (Av):=
 .ob (Ay R0 (a0.1,(i64.wrap ((127812:Int)+(a0.1.length:Int))),(0:Int),())) fun o3=>
 .leaf (o3.1,(0:Int),o3.2.1,())
def Ahq (a0:YBs):Option (Av):=(Ahp a0).val
def Acx (a0:Av):Tree (YI×Av):=
 letI u1:=a0.2.2;.br (decide (a0.2.1<(a0.1.length:Int))) (
 .ob (idx a0.1 a0.2.1) fun e1=>
 .leaf (((i64.wrap ((BitVec.ofInt (i64.bits) ((i64.wrap ((i64.wrap ((BitVec.ofInt (i64.bits) ((i64.wrap ((BitVec.ofInt (i64.bits) ((Int.fdiv (i64.wrap ((i64.wrap (u1.1*(6364136223846793005:Int)))+(1442695040888963407:Int))) (2^(min ((33:Int)).toNat i64.bits)))) ^^^ BitVec.ofInt (i64.bits) ((Int.fdiv (i64.wrap ((i64.wrap (u1.1*(6364136223846793005:Int)))+(1442695040888963407:Int))) (2^(min ((47:Int)).toNat i64.bits))))).toNat:Nat))) &&& BitVec.ofInt (i64.bits) ((255:Int))).toNat:Nat))+(i64.wrap (e1.1))))) &&& BitVec.ofInt (i64.bits) ((255:Int))).toNat:Nat)),()),(a0.1,(i64.wrap (a0.2.1+(1:Int))),(i64.wrap ((i64.wrap (u1.1*(6364136223846793005:Int)))+(1442695040888963407:Int))),()))) (
 .leaf (((i64.wrap ((BitVec.ofInt (i64.bits) ((i64.wrap ((BitVec.ofInt (i64.bits) ((Int.fdiv (i64.wrap ((i64.wrap (u1.1*(6364136223846793005:Int)))+(1442695040888963407:Int))) (2^(min ((33:Int)).toNat i64.bits)))) ^^^ BitVec.ofInt (i64.bits) ((Int.fdiv (i64.wrap ((i64.wrap (u1.1*(6364136223846793005:Int)))+(1442695040888963407:Int))) (2^(min ((47:Int)).toNat i64.bits))))).toNat:Nat))) &&& BitVec.ofInt (i64.bits) ((255:Int))).toNat:Nat)),()),(a0.1,a0.2.1,(i64.wrap ((i64.wrap (u1.1*(6364136223846793005:Int)))+(1442695040888963407:Int))),())))
def Gv (a0:Av):Option (YI×Av):=(Acx a0).val
def Kb (x1:Int×(List YB)×Int×(List YB)×Int×Int×Unit):Option ((Int×(List YB)×Int×(List YB)×Int×Int×Unit)⊕(((List YB)×(List YB)×Int×Int×Unit))):=
 letI u1:=x1.2.2.2;Tree.val (α:=(Int×(List YB)×Int×(List YB)×Int×Int×Unit)⊕(((List YB)×(List YB)×Int×Int×Unit))) <|
 .br (decide (x1.2.2.1<x1.1)) (
 .ob (Gv (u1.1,u1.2.1,u1.2.2.1,())) fun r2=>
 .chk (decide (x1.2.1.length+[((u8.wrap (r2.1.1)),())].length≤4294967296)) <|
 .leaf (.inl (x1.1,(x1.2.1++[((u8.wrap (r2.1.1)),())]),(i64.wrap (x1.2.2.1+(1:Int))),u1.1,r2.2.2.1,r2.2.2.2.1,()))) (
 .leaf (.inr (x1.2.1,u1.1,u1.2.1,u1.2.2.1,())))
def Zm (a0:Av) (a1:YI):Tree (YBs×Av):=
 .ob (Ay Kb (a1.1,([]:List YB),(0:Int),a0.1,a0.2.1,a0.2.2.1,())) fun o3=>
 .leaf ((o3.1,()),(o3.2.1,o3.2.2.1,o3.2.2.2.1,()))
def B8 (a0:Av) (a1:YI):Option (YBs×Av):=(Zm a0 a1).val
def Zn (a0:Av) (a1:YI):Tree (YI×Av):=
 .br (decide (a1.1≤(0:Int))) (
 .leaf (((0:Int),()),a0)) (
 .br (decide (a1.1≤(256:Int))) (
 .ob (Gv a0) fun r1=>
 .chk (decide ((0:Int)<a1.1)) <|
 .chk (decide ((0:Int)≤r1.1.1)) <|
 .leaf (((r1.1.1%a1.1),()),(a0.1,r1.2.2.1,r1.2.2.2.1,()))) (
 .ob (Gv a0) fun r2=>
 .ob (Gv (a0.1,r2.2.2.1,r2.2.2.2.1,())) fun r3=>
 .ob (Gv (a0.1,r3.2.2.1,r3.2.2.2.1,())) fun r4=>
 .chk (decide ((0:Int)<a1.1)) <|
 .chk (decide ((0:Int)≤(i64.wrap ((i64.wrap ((i64.wrap (r2.1.1*(65536:Int)))+(i64.wrap (r3.1.1*(256:Int)))))+r4.1.1)))) <|
 .leaf ((((i64.wrap ((i64.wrap ((i64.wrap (r2.1.1*(65536:Int)))+(i64.wrap (r3.1.1*(256:Int)))))+r4.1.1))%a1.1),()),(a0.1,r4.2.2.1,r4.2.2.2.1,()))))
def A9 (a0:Av) (a1:YI):Option (YI×Av):=(Zn a0 a1).val
def To (a0:Av):Tree (Au×Av):=
 .ob (B8 a0 ((12:Int),())) fun r1=>
 .ob (B8 (a0.1,r1.2.2.1,r1.2.2.2.1,()) ((12:Int),())) fun r2=>
 .ob (A9 (a0.1,r2.2.2.1,r2.2.2.2.1,()) ((300:Int),())) fun r3=>
 .ob (B8 (a0.1,r3.2.2.1,r3.2.2.2.1,()) ((16:Int),())) fun r4=>
 .leaf (((2:Int),(0:Int),r1.1.1,r2.1.1,r3.1.1,r4.1.1,([]:List YB),(0:Int),(0:Int),([]:List YB),([]:List YB),()),(a0.1,r4.2.2.1,r4.2.2.2.1,()))
def Tp (a0:Av):Option (Au×Av):=(To a0).val
def Amv (a0:YI) (a1:YI) (a2:YI):Tree ((Bool×Unit)):=
 .br (decide (a0.1≥a1.1)) (
 .leaf ((decide (a0.1≤a2.1)),())) (
 .leaf (false,()))
def Bk (a0:YI) (a1:YI) (a2:YI):Option ((Bool×Unit)):=(Amv a0 a1 a2).val
def Acy (a0:YI):Tree ((Bool×Unit)):=
 .ob (Bk a0 ((4:Int),()) ((8:Int),())) fun r1=>
 .leaf r1
def Jz (a0:YI):Option ((Bool×Unit)):=(Acy a0).val
def Acz (a0:YI) (a1:YI):Tree ((Bool×Unit)):=
 .br (a0.1==(4:Int)) (
 .leaf ((decide (a1.1≤(40:Int))),())) (
 .br (a0.1==(5:Int)) (
 .leaf ((a1.1==(12:Int)),())) (
 .br (a0.1==(6:Int)) (
 .leaf ((a1.1==(12:Int)),())) (
 .leaf ((a1.1==(4:Int)),()))))
def Pa (a0:YI) (a1:YI):Option ((Bool×Unit)):=(Acz a0 a1).val
def Zo (a0:Au):Tree ((Bool×Unit)):=
 letI u1:=a0.2.2.2.2;letI u2:=u1.2.2.2;.ob (Jz (a0.1,())) fun r1=>
 .br r1.1 (
 .br (a0.2.1==(0:Int)) (
 .br ((a0.2.2.1.length:Int)==(0:Int)) (
 .br ((a0.2.2.2.1.length:Int)==(12:Int)) (
 .br (u1.1==(0:Int)) (
 .br ((a0.2.2.2.2.2.1.length:Int)==(0:Int)) (
 .br ((a0.2.2.2.2.2.2.1.length:Int)==(0:Int)) (
 .ob (Bk (u2.1,()) ((0:Int),()) ((4294967295:Int),())) fun r2=>
 .br r2.1 (
 .ob (Bk (u2.2.1,()) ((0:Int),()) ((281474976710655:Int),())) fun r3=>
 .br r3.1 (
 .ob (Pa (a0.1,()) ((a0.2.2.2.2.2.2.2.2.2.1.length:Int),())) fun r4=>
 .br r4.1 (
 .leaf (((a0.2.2.2.2.2.2.2.2.2.2.1.length:Int)==(16:Int)),())) (
 .leaf (false,()))) (
 .leaf (false,()))) (
 .leaf (false,()))) (
 .leaf (false,()))) (
 .leaf (false,()))) (
 .leaf (false,()))) (
 .leaf (false,()))) (
 .leaf (false,()))) (
 .leaf (false,()))) (
 .br (u2.1 != (0:Int)) (
 .leaf (false,())) (
 .br (u2.2.1 != (0:Int)) (
 .leaf (false,())) (
 .br ((a0.2.2.2.2.2.2.2.2.2.1.length:Int) != (0:Int)) (
 .leaf (false,())) (
 .br ((a0.2.2.2.2.2.2.2.2.2.2.1.length:Int) != (0:Int)) (
 .leaf (false,())) (
 .br ((a0.2.2.1.length:Int) != (12:Int)) (
 .leaf (false,())) (
 .br (a0.1==(1:Int)) (
 .ob (Bk (a0.2.1,()) ((1:Int),()) ((9:Int),())) fun r5=>
 .br r5.1 (
 .br ((a0.2.2.2.1.length:Int)==(0:Int)) (
 .br (u1.1==(0:Int)) (
 .br ((a0.2.2.2.2.2.1.length:Int)==(0:Int)) (
 .leaf (((a0.2.2.2.2.2.2.1.length:Int)==(0:Int)),())) (
 .leaf (false,()))) (
 .leaf (false,()))) (
 .leaf (false,()))) (
 .leaf (false,()))) (
 .br (a0.1==(2:Int)) (
 .br (a0.2.1==(0:Int)) (
 .br ((a0.2.2.2.1.length:Int)==(12:Int)) (
 .ob (Bk (u1.1,()) ((0:Int),()) ((1000000:Int),())) fun r6=>
 .br r6.1 (
 .br ((a0.2.2.2.2.2.1.length:Int)==(16:Int)) (
 .leaf (((a0.2.2.2.2.2.2.1.length:Int)==(0:Int)),())) (
 .leaf (false,()))) (
 .leaf (false,()))) (
 .leaf (false,()))) (
 .leaf (false,()))) (
 .br (a0.1==(3:Int)) (
 .ob (Bk (a0.2.1,()) ((1:Int),()) ((9:Int),())) fun r7=>
 .br r7.1 (
 .br ((a0.2.2.2.1.length:Int)==(12:Int)) (
 .ob (Bk (u1.1,()) ((0:Int),()) ((1000000:Int),())) fun r8=>
 .br r8.1 (
 .br ((a0.2.2.2.2.2.1.length:Int)==(16:Int)) (
 .leaf (((a0.2.2.2.2.2.2.1.length:Int)==(16:Int)),())) (
 .leaf (false,()))) (
 .leaf (false,()))) (
 .leaf (false,()))) (
 .leaf (false,()))) (
 .leaf (false,()))))))))))
def Kk (a0:Au):Option ((Bool×Unit)):=(Zo a0).val
def Ahr (a0:YBs):Tree ((Bool×Unit)):=
 .ob (Bk ((a0.1.length:Int),()) ((1:Int),()) ((32:Int),())) fun r1=>
 .leaf r1
def Ol (a0:YBs):Option ((Bool×Unit)):=(Ahr a0).val
def Pb (x1:Int×(List YB)×Int×Unit):Option ((Int×(List YB)×Int×Unit)⊕(YBs)):=
 letI u1:=x1.2.2;Tree.val (α:=(Int×(List YB)×Int×Unit)⊕(YBs)) <|
 .br (decide (u1.1≥(0:Int))) (
 .chk (decide ((0:Int)≤(i64.wrap ((8:Int)*u1.1)))) <|
 .chk (decide (x1.2.1.length+[((u8.wrap ((i64.wrap ((BitVec.ofInt (i64.bits) ((Int.fdiv x1.1 (2^(min ((i64.wrap ((8:Int)*u1.1))).toNat i64.bits)))) &&& BitVec.ofInt (i64.bits) ((255:Int))).toNat:Nat)))),())].length≤4294967296)) <|
 .leaf (.inl (x1.1,(x1.2.1++[((u8.wrap ((i64.wrap ((BitVec.ofInt (i64.bits) ((Int.fdiv x1.1 (2^(min ((i64.wrap ((8:Int)*u1.1))).toNat i64.bits)))) &&& BitVec.ofInt (i64.bits) ((255:Int))).toNat:Nat)))),())]),(i64.wrap (u1.1-(1:Int))),()))) (
 .leaf (.inr (x1.2.1,())))
def Amw (a0:YBs) (a1:YI) (a2:YI):Tree (YBs):=
 .chk (decide (([]:List YB).length+a0.1.length≤4294967296)) <|
 .br (decide (a2.1<(1:Int))) (
 .leaf ((([]:List YB)++a0.1),())) (
 .br (decide (a2.1>(6:Int))) (
 .leaf ((([]:List YB)++a0.1),())) (
 .ob (Ay Pb (a1.1,(([]:List YB)++a0.1),(i64.wrap (a2.1-(1:Int))),())) fun o2=>
 .leaf o2))
def Fp (a0:YBs) (a1:YI) (a2:YI):Option (YBs):=(Amw a0 a1 a2).val
def Ahs (x1:Int×(List YB)×Unit):Option ((Int×(List YB)×Unit)⊕((Int×(List YB)×Unit))):=
 Tree.val (α:=(Int×(List YB)×Unit)⊕((Int×(List YB)×Unit))) <|
 .chk (decide ((0:Int)≤(i64.wrap ((i64.wrap (x1.1+(x1.2.1.length:Int)))+(8:Int))))) <|
 .br (((i64.wrap ((i64.wrap (x1.1+(x1.2.1.length:Int)))+(8:Int)))%(64:Int)) != (0:Int)) (
 .chk (decide (x1.2.1.length+[((0:Int),())].length≤4294967296)) <|
 .leaf (.inl (x1.1,(x1.2.1++[((0:Int),())]),()))) (
 .leaf (.inr x1))
def Arg (a0:YI):Tree (YBs):=
 .br (decide (a0.1<(0:Int))) (
 .leaf (([]:List YB),())) (
 .br (decide (a0.1>(1048576:Int))) (
 .leaf (([]:List YB),())) (
 .ob (Ay Ahs (a0.1,[((128:Int),())],())) fun o2=>
 .ob (Fp (o2.2.1,()) ((0:Int),()) ((4:Int),())) fun r3=>
 .ob (Fp r3 ((i64.wrap ((8:Int)*o2.1)),()) ((4:Int),())) fun r4=>
 .leaf r4))
def Arh (a0:YI):Option (YBs):=(Arg a0).val
def Atf:Tree (((List YI)×Unit)):=
 .leaf ([((1779033703:Int),()),((3144134277:Int),()),((1013904242:Int),()),((2773480762:Int),()),((1359893119:Int),()),((2600822924:Int),()),((528734635:Int),()),((1541459225:Int),())],())
def Atg:Option (((List YI)×Unit)):=(Atf).val
def Kc (x1:(List YI)×Int×Unit):Option (((List YI)×Int×Unit)⊕((Bool×Unit)⊕((List YI)×Unit))):=
 Tree.val (α:=((List YI)×Int×Unit)⊕((Bool×Unit)⊕((List YI)×Unit))) <|
 .br (decide (x1.2.1<(x1.1.length:Int))) (
 .ob (idx x1.1 x1.2.1) fun e2=>
 .ob (Bk e2 ((0:Int),()) ((4294967295:Int),())) fun r3=>
 .br (!r3.1) (
 .leaf (.inr (.inl (false,())))) (
 .leaf (.inl (x1.1,(i64.wrap (x1.2.1+(1:Int))),())))) (
 .leaf (.inr (.inr (x1.1,()))))
def Zp (a0:(List YI)×Unit):Tree ((Bool×Unit)):=
 .ob (Ay Kc (a0.1,(0:Int),())) fun o4=>
 .sm o4 (fun o5=>
 .leaf o5) (fun o6=>
 .leaf (((o6.1.length:Int)==(8:Int)),()))
def Zq (a0:(List YI)×Unit):Option ((Bool×Unit)):=(Zp a0).val
def A00:Tree (((List YI)×Unit)):=
 .leaf ([((1116352408:Int),()),((1899447441:Int),()),((3049323471:Int),()),((3921009573:Int),()),((961987163:Int),()),((1508970993:Int),()),((2453635748:Int),()),((2870763221:Int),()),((3624381080:Int),()),((310598401:Int),()),((607225278:Int),()),((1426881987:Int),()),((1925078388:Int),()),((2162078206:Int),()),((2614888103:Int),()),((3248222580:Int),()),((3835390401:Int),()),((4022224774:Int),()),((264347078:Int),()),((604807628:Int),()),((770255983:Int),()),((1249150122:Int),()),((1555081692:Int),()),((1996064986:Int),()),((2554220882:Int),()),((2821834349:Int),()),((2952996808:Int),()),((3210313671:Int),()),((3336571891:Int),()),((3584528711:Int),()),((113926993:Int),()),((338241895:Int),()),((666307205:Int),()),((773529912:Int),()),((1294757372:Int),()),((1396182291:Int),()),((1695183700:Int),()),((1986661051:Int),()),((2177026350:Int),()),((2456956037:Int),()),((2730485921:Int),()),((2820302411:Int),()),((3259730800:Int),()),((3345764771:Int),()),((3516065817:Int),()),((3600352804:Int),()),((4094571909:Int),()),((275423344:Int),()),((430227734:Int),()),((506948616:Int),()),((659060556:Int),()),((883997877:Int),()),((958139571:Int),()),((1322822218:Int),()),((1537002063:Int),()),((1747873779:Int),()),((1955562222:Int),()),((2024104815:Int),()),((2227730452:Int),()),((2361852424:Int),()),((2428436474:Int),()),((2756734187:Int),()),((3204031479:Int),()),((3329325298:Int),())],())
def A01:Option (((List YI)×Unit)):=(A00).val
def Mb (x1:(List YB)×Int×Int×Int×Int×Unit):Option (((List YB)×Int×Int×Int×Int×Unit)⊕((Int×Int×Int×Unit))):=
 letI u1:=x1.2.2;Tree.val (α:=((List YB)×Int×Int×Int×Int×Unit)⊕((Int×Int×Int×Unit))) <|
 .br (decide (u1.2.2.1<u1.1)) (
 .ob (idx x1.1 (i64.wrap (x1.2.1+u1.2.2.1))) fun e2=>
 .leaf (.inl (x1.1,x1.2.1,u1.1,(i64.wrap ((i64.wrap (u1.2.1*(256:Int)))+(i64.wrap (e2.1)))),(i64.wrap (u1.2.2.1+(1:Int))),()))) (
 .leaf (.inr (x1.2.1,u1.1,u1.2.1,())))
def Amx (a0:YBs) (a1:YI) (a2:YI):Tree (YI×YI×(Bool×Unit)):=
 .br (decide (a2.1<(1:Int))) (
 .leaf (((0:Int),()),((0:Int),()),(false,()))) (
 .br (decide (a2.1>(6:Int))) (
 .leaf (((0:Int),()),((0:Int),()),(false,()))) (
 .br (decide (a1.1<(0:Int))) (
 .leaf (((0:Int),()),((0:Int),()),(false,()))) (
 .br (decide (a1.1>(i64.wrap ((a0.1.length:Int)-a2.1)))) (
 .leaf (((0:Int),()),((0:Int),()),(false,()))) (
 .ob (Ay Mb (a0.1,a1.1,a2.1,(0:Int),(0:Int),())) fun o3=>
 .leaf ((o3.2.2.1,()),((i64.wrap (o3.1+o3.2.1)),()),(true,()))))))
def Amy (a0:YBs) (a1:YI) (a2:YI):Option (YI×YI×(Bool×Unit)):=(Amx a0 a1 a2).val
def Ari (a0:YI) (a1:YI):Tree (YI):=
 .br (decide (a1.1<(1:Int))) (
 .leaf ((i64.wrap ((BitVec.ofInt (i64.bits) (a0.1) &&& BitVec.ofInt (i64.bits) ((4294967295:Int))).toNat:Nat)),())) (
 .br (decide (a1.1>(31:Int))) (
 .leaf ((i64.wrap ((BitVec.ofInt (i64.bits) (a0.1) &&& BitVec.ofInt (i64.bits) ((4294967295:Int))).toNat:Nat)),())) (
 .chk (decide ((0:Int)≤a1.1)) <|
 .chk (decide ((0:Int)≤(i64.wrap ((32:Int)-a1.1)))) <|
 .leaf ((i64.wrap ((BitVec.ofInt (i64.bits) ((i64.wrap ((BitVec.ofInt (i64.bits) ((Int.fdiv (i64.wrap ((BitVec.ofInt (i64.bits) (a0.1) &&& BitVec.ofInt (i64.bits) ((4294967295:Int))).toNat:Nat)) (2^(min (a1.1).toNat i64.bits)))) ||| BitVec.ofInt (i64.bits) ((i64.wrap ((i64.wrap ((BitVec.ofInt (i64.bits) (a0.1) &&& BitVec.ofInt (i64.bits) ((4294967295:Int))).toNat:Nat))*2^(min ((i64.wrap ((32:Int)-a1.1))).toNat i64.bits))))).toNat:Nat))) &&& BitVec.ofInt (i64.bits) ((4294967295:Int))).toNat:Nat)),())))
def Hy (a0:YI) (a1:YI):Option (YI):=(Ari a0 a1).val
def Hc (x1:(List YB)×(List YI)×Int×Unit):Option (((List YB)×(List YI)×Int×Unit)⊕(((List YI)×Unit))):=
 Tree.val (α:=((List YB)×(List YI)×Int×Unit)⊕(((List YI)×Unit))) <|
 .br (decide (x1.2.2.1<(16:Int))) (
 .ob (Amy (x1.1,()) ((i64.wrap ((4:Int)*x1.2.2.1)),()) ((4:Int),())) fun r2=>
 .chk (decide (x1.2.1.length+[r2.1].length≤4294967296)) <|
 .leaf (.inl (x1.1,(x1.2.1++[r2.1]),(i64.wrap (x1.2.2.1+(1:Int))),()))) (
 .leaf (.inr (x1.2.1,())))
def Gc (x4:(List YI)×Int×Unit):Option (((List YI)×Int×Unit)⊕(((List YI)×Unit))):=
 Tree.val (α:=((List YI)×Int×Unit)⊕(((List YI)×Unit))) <|
 .br (decide (x4.2.1<(64:Int))) (
 .ob (idx x4.1 (i64.wrap (x4.2.1-(15:Int)))) fun e5=>
 .ob (idx x4.1 (i64.wrap (x4.2.1-(2:Int)))) fun e6=>
 .ob (Hy e5 ((7:Int),())) fun r7=>
 .ob (Hy e5 ((18:Int),())) fun r8=>
 .ob (Hy e6 ((17:Int),())) fun r9=>
 .ob (Hy e6 ((19:Int),())) fun r10=>
 .ob (idx x4.1 (i64.wrap (x4.2.1-(7:Int)))) fun e11=>
 .ob (idx x4.1 (i64.wrap (x4.2.1-(16:Int)))) fun e12=>
 .chk (decide (x4.1.length+[((i64.wrap ((BitVec.ofInt (i64.bits) ((i64.wrap ((i64.wrap ((i64.wrap (e11.1+e12.1))+(i64.wrap ((BitVec.ofInt (i64.bits) ((i64.wrap ((BitVec.ofInt (i64.bits) (r7.1) ^^^ BitVec.ofInt (i64.bits) (r8.1)).toNat:Nat))) ^^^ BitVec.ofInt (i64.bits) ((Int.fdiv e5.1 (2^(min ((3:Int)).toNat i64.bits))))).toNat:Nat))))+(i64.wrap ((BitVec.ofInt (i64.bits) ((i64.wrap ((BitVec.ofInt (i64.bits) (r9.1) ^^^ BitVec.ofInt (i64.bits) (r10.1)).toNat:Nat))) ^^^ BitVec.ofInt (i64.bits) ((Int.fdiv e6.1 (2^(min ((10:Int)).toNat i64.bits))))).toNat:Nat))))) &&& BitVec.ofInt (i64.bits) ((4294967295:Int))).toNat:Nat)),())].length≤4294967296)) <|
 .leaf (.inl ((x4.1++[((i64.wrap ((BitVec.ofInt (i64.bits) ((i64.wrap ((i64.wrap ((i64.wrap (e11.1+e12.1))+(i64.wrap ((BitVec.ofInt (i64.bits) ((i64.wrap ((BitVec.ofInt (i64.bits) (r7.1) ^^^ BitVec.ofInt (i64.bits) (r8.1)).toNat:Nat))) ^^^ BitVec.ofInt (i64.bits) ((Int.fdiv e5.1 (2^(min ((3:Int)).toNat i64.bits))))).toNat:Nat))))+(i64.wrap ((BitVec.ofInt (i64.bits) ((i64.wrap ((BitVec.ofInt (i64.bits) (r9.1) ^^^ BitVec.ofInt (i64.bits) (r10.1)).toNat:Nat))) ^^^ BitVec.ofInt (i64.bits) ((Int.fdiv e6.1 (2^(min ((10:Int)).toNat i64.bits))))).toNat:Nat))))) &&& BitVec.ofInt (i64.bits) ((4294967295:Int))).toNat:Nat)),())]),(i64.wrap (x4.2.1+(1:Int))),()))) (
 .leaf (.inr (x4.1,())))
def Pc (a0:YBs):Tree (((List YI)×Unit)):=
 .br ((a0.1.length:Int) != (64:Int)) (
 .leaf (([]:List YI),())) (
 .ob (Ay Hc (a0.1,([]:List YI),(0:Int),())) fun o3=>
 .ob (Ay Gc (o3.1,(16:Int),())) fun o13=>
 .leaf o13)
def Vg (a0:YBs):Option (((List YI)×Unit)):=(Pc a0).val
def Fq (x12:(List YI)×(List YI)×(List YI)×(List YI)×Int×Int×Int×Int×Int×Int×Int×Int×Int×Unit):Option (((List YI)×(List YI)×(List YI)×(List YI)×Int×Int×Int×Int×Int×Int×Int×Int×Int×Unit)⊕(((List YI)×(List YI)×Int×Int×Int×Int×Int×Int×Int×Int×Unit))):=
 letI u1:=x12.2.2;letI u2:=u1.2.2;letI u3:=u2.2.2;letI u4:=u3.2.2;letI u5:=u4.2.2;Tree.val (α:=((List YI)×(List YI)×(List YI)×(List YI)×Int×Int×Int×Int×Int×Int×Int×Int×Int×Unit)⊕(((List YI)×(List YI)×Int×Int×Int×Int×Int×Int×Int×Int×Unit))) <|
 .br (decide (u5.2.2.1<(64:Int))) (
 .ob (Hy (u4.1,()) ((6:Int),())) fun r13=>
 .ob (Hy (u4.1,()) ((11:Int),())) fun r14=>
 .ob (Hy (u4.1,()) ((25:Int),())) fun r15=>
 .ob (idx u1.1 u5.2.2.1) fun e16=>
 .ob (idx u1.2.1 u5.2.2.1) fun e17=>
 .ob (Hy (u2.1,()) ((2:Int),())) fun r18=>
 .ob (Hy (u2.1,()) ((13:Int),())) fun r19=>
 .ob (Hy (u2.1,()) ((22:Int),())) fun r20=>
 .leaf (.inl (x12.1,x12.2.1,u1.1,u1.2.1,(i64.wrap ((BitVec.ofInt (i64.bits) ((i64.wrap ((i64.wrap ((BitVec.ofInt (i64.bits) ((i64.wrap ((i64.wrap ((i64.wrap ((i64.wrap (u5.2.1+(i64.wrap ((BitVec.ofInt (i64.bits) ((i64.wrap ((BitVec.ofInt (i64.bits) (r13.1) ^^^ BitVec.ofInt (i64.bits) (r14.1)).toNat:Nat))) ^^^ BitVec.ofInt (i64.bits) (r15.1)).toNat:Nat))))+(i64.wrap ((BitVec.ofInt (i64.bits) ((i64.wrap ((BitVec.ofInt (i64.bits) (u4.1) &&& BitVec.ofInt (i64.bits) (u4.2.1)).toNat:Nat))) ^^^ BitVec.ofInt (i64.bits) ((i64.wrap ((BitVec.ofInt (i64.bits) ((i64.wrap ((BitVec.ofInt (i64.bits) (u4.1) ^^^ BitVec.ofInt (i64.bits) ((4294967295:Int))).toNat:Nat))) &&& BitVec.ofInt (i64.bits) (u5.1)).toNat:Nat)))).toNat:Nat))))+e16.1))+e17.1))) &&& BitVec.ofInt (i64.bits) ((4294967295:Int))).toNat:Nat))+(i64.wrap ((BitVec.ofInt (i64.bits) ((i64.wrap ((i64.wrap ((BitVec.ofInt (i64.bits) ((i64.wrap ((BitVec.ofInt (i64.bits) (r18.1) ^^^ BitVec.ofInt (i64.bits) (r19.1)).toNat:Nat))) ^^^ BitVec.ofInt (i64.bits) (r20.1)).toNat:Nat))+(i64.wrap ((BitVec.ofInt (i64.bits) ((i64.wrap ((BitVec.ofInt (i64.bits) ((i64.wrap ((BitVec.ofInt (i64.bits) (u2.1) &&& BitVec.ofInt (i64.bits) (u2.2.1)).toNat:Nat))) ^^^ BitVec.ofInt (i64.bits) ((i64.wrap ((BitVec.ofInt (i64.bits) (u2.1) &&& BitVec.ofInt (i64.bits) (u3.1)).toNat:Nat)))).toNat:Nat))) ^^^ BitVec.ofInt (i64.bits) ((i64.wrap ((BitVec.ofInt (i64.bits) (u2.2.1) &&& BitVec.ofInt (i64.bits) (u3.1)).toNat:Nat)))).toNat:Nat))))) &&& BitVec.ofInt (i64.bits) ((4294967295:Int))).toNat:Nat))))) &&& BitVec.ofInt (i64.bits) ((4294967295:Int))).toNat:Nat)),u2.1,u2.2.1,u3.1,(i64.wrap ((BitVec.ofInt (i64.bits) ((i64.wrap (u3.2.1+(i64.wrap ((BitVec.ofInt (i64.bits) ((i64.wrap ((i64.wrap ((i64.wrap ((i64.wrap (u5.2.1+(i64.wrap ((BitVec.ofInt (i64.bits) ((i64.wrap ((BitVec.ofInt (i64.bits) (r13.1) ^^^ BitVec.ofInt (i64.bits) (r14.1)).toNat:Nat))) ^^^ BitVec.ofInt (i64.bits) (r15.1)).toNat:Nat))))+(i64.wrap ((BitVec.ofInt (i64.bits) ((i64.wrap ((BitVec.ofInt (i64.bits) (u4.1) &&& BitVec.ofInt (i64.bits) (u4.2.1)).toNat:Nat))) ^^^ BitVec.ofInt (i64.bits) ((i64.wrap ((BitVec.ofInt (i64.bits) ((i64.wrap ((BitVec.ofInt (i64.bits) (u4.1) ^^^ BitVec.ofInt (i64.bits) ((4294967295:Int))).toNat:Nat))) &&& BitVec.ofInt (i64.bits) (u5.1)).toNat:Nat)))).toNat:Nat))))+e16.1))+e17.1))) &&& BitVec.ofInt (i64.bits) ((4294967295:Int))).toNat:Nat))))) &&& BitVec.ofInt (i64.bits) ((4294967295:Int))).toNat:Nat)),u4.1,u4.2.1,u5.1,(i64.wrap (u5.2.2.1+(1:Int))),()))) (
 .leaf (.inr (x12.1,x12.2.1,u2.1,u2.2.1,u3.1,u3.2.1,u4.1,u4.2.1,u5.1,u5.2.1,())))
def E8 (x22:(List YI)×(List YI)×(List YI)×Int×Unit):Option (((List YI)×(List YI)×(List YI)×Int×Unit)⊕(((List YI)×Unit))):=
 letI u1:=x22.2.2.2;Tree.val (α:=((List YI)×(List YI)×(List YI)×Int×Unit)⊕(((List YI)×Unit))) <|
 .br (decide (u1.1<(8:Int))) (
 .ob (idx x22.1 u1.1) fun e23=>
 .ob (idx x22.2.2.1 u1.1) fun e24=>
 .ob (idx x22.2.1 u1.1) fun e25=>
 let q26:=(x22.2.1.set (u1.1).toNat ((i64.wrap ((BitVec.ofInt (i64.bits) ((i64.wrap (e23.1+e24.1))) &&& BitVec.ofInt (i64.bits) ((4294967295:Int))).toNat:Nat)),()))
 .leaf (.inl (x22.1,q26,x22.2.2.1,(i64.wrap (u1.1+(1:Int))),()))) (
 .leaf (.inr (x22.2.1,())))
def Pd (a0:(List YI)×Unit) (a1:YBs):Tree (((List YI)×Unit)):=
 .chk (decide (([]:List YI).length+a0.1.length≤4294967296)) <|
 .ob (Zq a0) fun r1=>
 .br (!r1.1) (
 .leaf ((([]:List YI)++a0.1),())) (
 .br ((a1.1.length:Int) != (64:Int)) (
 .leaf ((([]:List YI)++a0.1),())) (
 .ob A01 fun r2=>
 .ob (Vg a1) fun r3=>
 .ob (idx a0.1 (0:Int)) fun e4=>
 .ob (idx a0.1 (1:Int)) fun e5=>
 .ob (idx a0.1 (2:Int)) fun e6=>
 .ob (idx a0.1 (3:Int)) fun e7=>
 .ob (idx a0.1 (4:Int)) fun e8=>
 .ob (idx a0.1 (5:Int)) fun e9=>
 .ob (idx a0.1 (6:Int)) fun e10=>
 .ob (idx a0.1 (7:Int)) fun e11=>
 .ob (Ay Fq (a0.1,(([]:List YI)++a0.1),r2.1,r3.1,e4.1,e5.1,e6.1,e7.1,e8.1,e9.1,e10.1,e11.1,(0:Int),())) fun o21=>letI u1:=o21.2.2.2;letI u2:=u1.2.2.2;
 .ob (Ay E8 (o21.1,o21.2.1,[(o21.2.2.1,()),(u1.1,()),(u1.2.1,()),(u1.2.2.1,()),(u2.1,()),(u2.2.1,()),(u2.2.2.1,()),(u2.2.2.2.1,())],(0:Int),())) fun o27=>
 .leaf o27))
def Pe (a0:(List YI)×Unit) (a1:YBs):Option (((List YI)×Unit)):=(Pd a0 a1).val
def Kl (x1:Jy):Option (Jy⊕(YBs)):=
 Tree.val (α:=Jy⊕(YBs)) <|
 .br (decide (x1.2.2.1<(8:Int))) (
 .ob (idx x1.1 x1.2.2.1) fun e2=>
 .ob (Fp (x1.2.1,()) e2 ((4:Int),())) fun r3=>
 .leaf (.inl (x1.1,r3.1,(i64.wrap (x1.2.2.1+(1:Int))),()))) (
 .leaf (.inr (x1.2.1,())))
def Aht (a0:(List YI)×Unit):Tree (YBs):=
 .ob (Ay Kl (a0.1,([]:List YB),(0:Int),())) fun o4=>
 .leaf o4
def Ahu (a0:(List YI)×Unit):Option (YBs):=(Aht a0).val
def Om (x3:(List YB)×(List YI)×Int×Unit):Option (((List YB)×(List YI)×Int×Unit)⊕(((List YI)×Unit))):=
 letI u1:=x3.2.2;Tree.val (α:=((List YB)×(List YI)×Int×Unit)⊕(((List YI)×Unit))) <|
 .br (decide (u1.1<(x3.1.length:Int))) (
 .chk (decide ((0:Int)≤u1.1)) <|
 .chk (decide (u1.1≤(i64.wrap (u1.1+(64:Int))))) <|
 .chk (decide ((i64.wrap (u1.1+(64:Int)))≤(x3.1.length:Int))) <|
 .ob (Pe (x3.2.1,()) (((x3.1.take ((i64.wrap (u1.1+(64:Int)))).toNat).drop (u1.1).toNat),())) fun r4=>
 .leaf (.inl (x3.1,r4.1,(i64.wrap (u1.1+(64:Int))),()))) (
 .leaf (.inr (x3.2.1,())))
def Arj (a0:YBs):Tree (YBs):=
 .br (decide ((a0.1.length:Int)>(1048576:Int))) (
 .leaf (([]:List YB),())) (
 .chk (decide (([]:List YB).length+a0.1.length≤4294967296)) <|
 .ob (Arh ((a0.1.length:Int),())) fun r1=>
 .chk (decide ((([]:List YB)++a0.1).length+r1.1.length≤4294967296)) <|
 .ob Atg fun r2=>
 .ob (Ay Om (((([]:List YB)++a0.1)++r1.1),r2.1,(0:Int),())) fun o5=>
 .ob (Ahu o5) fun r6=>
 .leaf r6)
def Abo (a0:YBs):Option (YBs):=(Arj a0).val
def Mc (x2:YBs):Option (YBs⊕(YBs)):=
 Tree.val (α:=YBs⊕(YBs)) <|
 .br (decide ((x2.1.length:Int)<(64:Int))) (
 .chk (decide (x2.1.length+[((0:Int),())].length≤4294967296)) <|
 .leaf (.inl ((x2.1++[((0:Int),())]),()))) (
 .leaf (.inr x2))
def Vh (a0:YBs):Tree (YBs):=
 .br (decide ((a0.1.length:Int)>(1048576:Int))) (
 .leaf (([]:List YB),())) (
 .chk (decide (([]:List YB).length+a0.1.length≤4294967296)) <|
 .br (decide ((a0.1.length:Int)>(64:Int))) (
 .ob (Abo a0) fun r1=>
 .ob (Ay Mc r1) fun o3=>
 .leaf o3) (
 .ob (Ay Mc ((([]:List YB)++a0.1),())) fun o4=>
 .leaf o4))
def Vi (a0:YBs):Option (YBs):=(Vh a0).val
def Md (x2:(List YB)×(List YB)×(List YB)×(List YB)×Int×Unit):Option (((List YB)×(List YB)×(List YB)×(List YB)×Int×Unit)⊕(((List YB)×(List YB)×(List YB)×Unit))):=
 letI u1:=x2.2.2.2;Tree.val (α:=((List YB)×(List YB)×(List YB)×(List YB)×Int×Unit)⊕(((List YB)×(List YB)×(List YB)×Unit))) <|
 .br (decide (u1.2.1<(64:Int))) (
 .ob (idx x2.2.1 u1.2.1) fun e3=>
 .chk (decide (x2.2.2.1.length+[((u8.wrap ((BitVec.ofInt (u8.bits) (e3.1) ^^^ BitVec.ofInt (u8.bits) ((54:Int))).toNat:Nat)),())].length≤4294967296)) <|
 .ob (idx x2.2.1 u1.2.1) fun e4=>
 .chk (decide (x2.2.2.2.1.length+[((u8.wrap ((BitVec.ofInt (u8.bits) (e4.1) ^^^ BitVec.ofInt (u8.bits) ((92:Int))).toNat:Nat)),())].length≤4294967296)) <|
 .leaf (.inl (x2.1,x2.2.1,(x2.2.2.1++[((u8.wrap ((BitVec.ofInt (u8.bits) (e3.1) ^^^ BitVec.ofInt (u8.bits) ((54:Int))).toNat:Nat)),())]),(u1.1++[((u8.wrap ((BitVec.ofInt (u8.bits) (e4.1) ^^^ BitVec.ofInt (u8.bits) ((92:Int))).toNat:Nat)),())]),(i64.wrap (u1.2.1+(1:Int))),()))) (
 .leaf (.inr (x2.1,x2.2.2.1,u1.1,())))
def Amz (a0:YBs) (a1:YBs):Tree (YBs):=
 .br (decide ((a0.1.length:Int)>(1048576:Int))) (
 .leaf (([]:List YB),())) (
 .br (decide ((a1.1.length:Int)>(1048512:Int))) (
 .leaf (([]:List YB),())) (
 .ob (Vi a0) fun r1=>
 .ob (Ay Md (a1.1,r1.1,([]:List YB),([]:List YB),(0:Int),())) fun o5=>
 .chk (decide (o5.2.1.length+o5.1.length≤4294967296)) <|
 .ob (Abo ((o5.2.1++o5.1),())) fun r6=>
 .chk (decide (o5.2.2.1.length+r6.1.length≤4294967296)) <|
 .ob (Abo ((o5.2.2.1++r6.1),())) fun r7=>
 .leaf r7))
def Q9 (a0:YBs) (a1:YBs):Option (YBs):=(Amz a0 a1).val
def R4 (a0:YBs) (a1:YBs):Tree (YBs):=
 .ob (Q9 a0 a1) fun r1=>
 .leaf r1
def R5 (a0:YBs) (a1:YBs):Option (YBs):=(R4 a0 a1).val
def I3 (x2:(List YB)×(List YB)×Int×(List YB)×(List YB)×Int×Unit):Option (((List YB)×(List YB)×Int×(List YB)×(List YB)×Int×Unit)⊕((Int×(List YB)×Unit))):=
 letI u1:=x2.2.2;letI u2:=u1.2.2;Tree.val (α:=((List YB)×(List YB)×Int×(List YB)×(List YB)×Int×Unit)⊕((Int×(List YB)×Unit))) <|
 .br (decide ((x2.2.2.2.1.length:Int)<u1.1)) (
 .chk (decide (([]:List YB).length+x2.2.2.2.2.1.length≤4294967296)) <|
 .chk (decide ((([]:List YB)++u2.1).length+x2.2.1.length≤4294967296)) <|
 .chk (decide (((([]:List YB)++u2.1)++x2.2.1).length+[((u8.wrap (u2.2.1)),())].length≤4294967296)) <|
 .ob (Q9 (x2.1,()) ((((([]:List YB)++u2.1)++x2.2.1)++[((u8.wrap (u2.2.1)),())]),())) fun r3=>
 .chk (decide (x2.2.2.2.1.length+r3.1.length≤4294967296)) <|
 .leaf (.inl (x2.1,x2.2.1,u1.1,(u1.2.1++r3.1),r3.1,(i64.wrap (u2.2.1+(1:Int))),()))) (
 .leaf (.inr (u1.1,u1.2.1,())))
def Ac0 (a0:YBs) (a1:YBs) (a2:YI):Tree (YBs×(Bool×Unit)):=
 .ob (Bk a2 ((0:Int),()) ((8160:Int),())) fun r1=>
 .br (!r1.1) (
 .leaf ((([]:List YB),()),(false,()))) (
 .br (decide ((a1.1.length:Int)>(100:Int))) (
 .leaf ((([]:List YB),()),(false,()))) (
 .br (decide ((a0.1.length:Int)>(1048576:Int))) (
 .leaf ((([]:List YB),()),(false,()))) (
 .ob (Ay I3 (a0.1,a1.1,a2.1,([]:List YB),([]:List YB),(1:Int),())) fun o4=>
 .chk (decide ((0:Int)≤o4.1)) <|
 .chk (decide (o4.1≤(o4.2.1.length:Int))) <|
 .chk (decide (([]:List YB).length+((o4.2.1.take (o4.1).toNat).drop ((0:Int)).toNat).length≤4294967296)) <|
 .leaf (((([]:List YB)++((o4.2.1.take (o4.1).toNat).drop ((0:Int)).toNat)),()),(true,())))))
def Ac1 (a0:YBs) (a1:YBs) (a2:YI):Option (YBs×(Bool×Unit)):=(Ac0 a0 a1 a2).val
def Ac2 (a0:YBs) (a1:ByteArray×Unit):Tree (YBs):=
 .chk (decide (a1.1.size≤4294967296)) <|
 .ob (Ac1 a0 ((Pf a1.1),()) ((32:Int),())) fun r1=>
 .leaf r1.1
def Cr (a0:YBs) (a1:ByteArray×Unit):Option (YBs):=(Ac2 a0 a1).val
def Tq (a0:YBs):Tree (YBs):=
 .ob (Ol a0) fun r1=>
 .br (!r1.1) (
 .leaf (([]:List YB),())) (
 .ob (R5 ([((114:Int),()),((111:Int),()),((97:Int),()),((109:Int),())],()) a0) fun r2=>
 .ob (Cr r2 ((C8 [102,105,110,105,115,104]),())) fun r3=>
 .leaf r3)
def Tr (a0:YBs):Option (YBs):=(Tq a0).val
def Ts (a0:YI) (a1:YBs) (a2:YBs) (a3:YI) (a4:YBs):Tree (YBs):=
 .ob (Bk a0 ((1:Int),()) ((9:Int),())) fun r1=>
 .br (!r1.1) (
 .leaf (([]:List YB),())) (
 .br ((a1.1.length:Int) != (12:Int)) (
 .leaf (([]:List YB),())) (
 .br ((a2.1.length:Int) != (12:Int)) (
 .leaf (([]:List YB),())) (
 .ob (Bk a3 ((0:Int),()) ((1000000:Int),())) fun r2=>
 .br (!r2.1) (
 .leaf (([]:List YB),())) (
 .br ((a4.1.length:Int) != (16:Int)) (
 .leaf (([]:List YB),())) (
 .chk (decide ([((102:Int),()),((u8.wrap (a0.1)),())].length+a1.1.length≤4294967296)) <|
 .chk (decide (([((102:Int),()),((u8.wrap (a0.1)),())]++a1.1).length+a2.1.length≤4294967296)) <|
 .ob (Fp ((([((102:Int),()),((u8.wrap (a0.1)),())]++a1.1)++a2.1),()) a3 ((4:Int),())) fun r3=>
 .chk (decide (r3.1.length+a4.1.length≤4294967296)) <|
 .leaf ((r3.1++a4.1),()))))))
def Tt (a0:YI) (a1:YBs) (a2:YBs) (a3:YI) (a4:YBs):Option (YBs):=(Ts a0 a1 a2 a3 a4).val
def Ark (a0:YBs) (a1:YBs):Tree (YBs):=
 .ob (Q9 a0 a1) fun r1=>
 .br (decide ((r1.1.length:Int)<(16:Int))) (
 .leaf (([]:List YB),())) (
 .chk (decide ((16:Int)≤(r1.1.length:Int))) <|
 .chk (decide (([]:List YB).length+((r1.1.take ((16:Int)).toNat).drop ((0:Int)).toNat).length≤4294967296)) <|
 .leaf ((([]:List YB)++((r1.1.take ((16:Int)).toNat).drop ((0:Int)).toNat)),()))
def Abp (a0:YBs) (a1:YBs):Option (YBs):=(Ark a0 a1).val
def Ahv (a0:YBs) (a1:YI) (a2:YBs) (a3:YBs) (a4:YI) (a5:YBs):Tree (YBs):=
 .ob (Tr a0) fun r1=>
 .ob (Tt a1 a2 a3 a4 a5) fun r2=>
 .br ((r1.1.length:Int)==(0:Int)) (
 .leaf (([]:List YB),())) (
 .br ((r2.1.length:Int)==(0:Int)) (
 .leaf (([]:List YB),())) (
 .ob (Abp r1 r2) fun r3=>
 .leaf r3))
def Xj (a0:YBs) (a1:YI) (a2:YBs) (a3:YBs) (a4:YI) (a5:YBs):Option (YBs):=(Ahv a0 a1 a2 a3 a4 a5).val
def Ac3 (a0:Au):Tree (Au):=
 letI u1:=a0.2.2.2;letI u2:=u1.2.2.2;.chk (decide (([]:List YB).length+a0.2.2.1.length≤4294967296)) <|
 .chk (decide (([]:List YB).length+a0.2.2.2.1.length≤4294967296)) <|
 .chk (decide (([]:List YB).length+a0.2.2.2.2.2.1.length≤4294967296)) <|
 .chk (decide (([]:List YB).length+a0.2.2.2.2.2.2.1.length≤4294967296)) <|
 .chk (decide (([]:List YB).length+a0.2.2.2.2.2.2.2.2.2.1.length≤4294967296)) <|
 .chk (decide (([]:List YB).length+a0.2.2.2.2.2.2.2.2.2.2.1.length≤4294967296)) <|
 .leaf (a0.1,a0.2.1,(([]:List YB)++a0.2.2.1),(([]:List YB)++u1.1),u1.2.1,(([]:List YB)++u1.2.2.1),(([]:List YB)++u2.1),u2.2.1,u2.2.2.1,(([]:List YB)++u2.2.2.2.1),(([]:List YB)++u2.2.2.2.2.1),())
def Ui (a0:Au):Option (Au):=(Ac3 a0).val
def Vj (a0:YBs) (a1:YI) (a2:Au):Tree (Au×(Bool×Unit)):=
 .ob (Kk a2) fun r1=>
 .br (!r1.1) (
 .leaf (((0:Int),(0:Int),([]:List YB),([]:List YB),(0:Int),([]:List YB),([]:List YB),(0:Int),(0:Int),([]:List YB),([]:List YB),()),(false,()))) (
 .br (a2.1 != (2:Int)) (
 .leaf (((0:Int),(0:Int),([]:List YB),([]:List YB),(0:Int),([]:List YB),([]:List YB),(0:Int),(0:Int),([]:List YB),([]:List YB),()),(false,()))) (
 .ob (Xj a0 a1 (a2.2.2.1,()) (a2.2.2.2.1,()) (a2.2.2.2.2.1,()) (a2.2.2.2.2.2.1,())) fun r2=>
 .br ((r2.1.length:Int)==(0:Int)) (
 .leaf (((0:Int),(0:Int),([]:List YB),([]:List YB),(0:Int),([]:List YB),([]:List YB),(0:Int),(0:Int),([]:List YB),([]:List YB),()),(false,()))) (
 .ob (Ui a2) fun r3=>letI u1:=r3.2.2.2;letI u2:=u1.2.2.2.2;
 .leaf (((3:Int),a1.1,r3.2.2.1,u1.1,u1.2.1,u1.2.2.1,r2.1,u2.1,u2.2.1,u2.2.2.1,u2.2.2.2.1,()),(true,())))))
def Vk (a0:YBs) (a1:YI) (a2:Au):Option (Au×(Bool×Unit)):=(Vj a0 a1 a2).val
def Ahw (a0:Av) (a1:(List YI)×Unit):Tree (YI×Av):=
 .ob (A9 a0 ((a1.1.length:Int),())) fun r1=>
 .ob (idx a1.1 r1.1.1) fun e2=>
 .leaf (e2,(a0.1,r1.2.2.1,r1.2.2.2.1,()))
def Be (a0:Av) (a1:(List YI)×Unit):Option (YI×Av):=(Ahw a0 a1).val
def Ac4 (a0:YI):Tree (Bw):=
 .ob (Bk a0 ((0:Int),()) ((255:Int),())) fun r1=>
 .br (!r1.1) (
 .leaf ((0:Int),(0:Int),())) (
 .leaf ((i64.wrap ((167772160:Int)+a0.1)),(i64.wrap ((7000:Int)+a0.1)),()))
def Ip (a0:YI):Option (Bw):=(Ac4 a0).val
def Ac5 (a0:Bw):Tree ((Bool×Unit)):=
 .ob (Bk (a0.1,()) ((0:Int),()) ((4294967295:Int),())) fun r1=>
 .br r1.1 (
 .ob (Bk (a0.2.1,()) ((0:Int),()) ((65535:Int),())) fun r2=>
 .leaf r2) (
 .leaf (false,()))
def H5 (a0:Bw):Option ((Bool×Unit)):=(Ac5 a0).val
def Zr (a0:YBs) (a1:YBs) (a2:YBs):Tree (YBs):=
 .ob (Ol a0) fun r1=>
 .br (!r1.1) (
 .leaf (([]:List YB),())) (
 .br ((a1.1.length:Int) != (12:Int)) (
 .leaf (([]:List YB),())) (
 .br ((a2.1.length:Int) != (12:Int)) (
 .leaf (([]:List YB),())) (
 .chk (decide (([]:List YB).length+a1.1.length≤4294967296)) <|
 .chk (decide ((([]:List YB)++a1.1).length+a2.1.length≤4294967296)) <|
 .ob (R5 (((([]:List YB)++a1.1)++a2.1),()) a0) fun r2=>
 .leaf r2)))
def Zs (a0:YBs) (a1:YBs) (a2:YBs):Option (YBs):=(Zr a0 a1 a2).val
def Vl (a0:YBs):Tree (YBs):=
 .br ((a0.1.length:Int) != (32:Int)) (
 .leaf (([]:List YB),())) (
 .ob (Cr a0 ((C8 [101,112,111,99,104]),())) fun r1=>
 .leaf r1)
def Vm (a0:YBs):Option (YBs):=(Vl a0).val
def Km (x2:Int×(List YB)×Int×Unit):Option ((Int×(List YB)×Int×Unit)⊕(YBs)):=
 Tree.val (α:=(Int×(List YB)×Int×Unit)⊕(YBs)) <|
 .br (decide (x2.2.2.1<x2.1)) (
 .ob (Cr (x2.2.1,()) ((C8 [114,101,107,101,121]),())) fun r3=>
 .leaf (.inl (x2.1,r3.1,(i64.wrap (x2.2.2.1+(1:Int))),()))) (
 .leaf (.inr (x2.2.1,())))
def Ahx (a0:YBs) (a1:YI):Tree (YBs):=
 .ob (Bk a1 ((0:Int),()) ((64:Int),())) fun r1=>
 .br (!r1.1) (
 .leaf (([]:List YB),())) (
 .chk (decide (([]:List YB).length+a0.1.length≤4294967296)) <|
 .ob (Ay Km (a1.1,(([]:List YB)++a0.1),(0:Int),())) fun o4=>
 .leaf o4)
def Ahy (a0:YBs) (a1:YI):Option (YBs):=(Ahx a0 a1).val
def Vn (a0:YBs) (a1:YBs) (a2:YBs) (a3:YI):Tree (YBs):=
 .ob (Zs a0 a1 a2) fun r1=>
 .ob (Vm r1) fun r2=>
 .br ((r2.1.length:Int)==(0:Int)) (
 .leaf r2) (
 .ob (Ahy r2 a3) fun r3=>
 .leaf r3)
def Vo (a0:YBs) (a1:YBs) (a2:YBs) (a3:YI):Option (YBs):=(Vn a0 a1 a2 a3).val
def I4 (x1:Int×Int×(List YI)×Int×(List YI)×Unit):Option ((Int×Int×(List YI)×Int×(List YI)×Unit)⊕((Int×(List YI)×Int×(List YI)×Unit))):=
 letI u1:=x1.2.2;Tree.val (α:=(Int×Int×(List YI)×Int×(List YI)×Unit)⊕((Int×(List YI)×Int×(List YI)×Unit))) <|
 .br (decide (x1.1<(32:Int))) (
 .chk (decide (x1.2.2.2.2.1.length+[((0:Int),())].length≤4294967296)) <|
 .leaf (.inl ((i64.wrap (x1.1+(1:Int))),x1.2.1,u1.1,u1.2.1,(u1.2.2.1++[((0:Int),())]),()))) (
 .leaf (.inr (x1.2.1,u1.1,u1.2.1,u1.2.2.1,())))
def Ac6:Tree (Bv):=
 .ob (Ay I4 ((0:Int),(0:Int),([]:List YI),(-1:Int),([]:List YI),())) fun o2=>
 .leaf (o2.2.2.1,o2.2.2.2.1,())
def Uj:Option (Bv):=(Ac6).val
def Sx (a0:YI) (a1:YBs):Tree (YEp):=
 .ob (Bk a0 ((0:Int),()) ((4294967295:Int),())) fun r1=>
 .br (!r1.1) (
 .leaf ((0:Int),([]:List YB),(0:Int),(0:Int),([]:List YI),())) (
 .br ((a1.1.length:Int) != (32:Int)) (
 .leaf ((0:Int),([]:List YB),(0:Int),(0:Int),([]:List YI),())) (
 .chk (decide (([]:List YB).length+a1.1.length≤4294967296)) <|
 .ob Uj fun r2=>
 .leaf (a0.1,(([]:List YB)++a1.1),(0:Int),r2.1,r2.2.1,())))
def Dx (a0:YI) (a1:YBs):Option (YEp):=(Sx a0 a1).val
def Zt (a0:YI) (a1:YBs) (a2:YBs):Tree (Aj):=
 .ob (Bk a0 ((0:Int),()) ((1:Int),())) fun r1=>
 .br (!r1.1) (
 .leaf ((0:Int),([]:List YB),(0:Int),([]:List YB),(0:Int),(0:Int),([]:List YI),(0:Int),([]:List YB),(0:Int),(0:Int),([]:List YI),false,(0:Int),([]:List YB),())) (
 .br ((a1.1.length:Int) != (12:Int)) (
 .leaf ((0:Int),([]:List YB),(0:Int),([]:List YB),(0:Int),(0:Int),([]:List YI),(0:Int),([]:List YB),(0:Int),(0:Int),([]:List YI),false,(0:Int),([]:List YB),())) (
 .br ((a2.1.length:Int) != (32:Int)) (
 .leaf ((0:Int),([]:List YB),(0:Int),([]:List YB),(0:Int),(0:Int),([]:List YI),(0:Int),([]:List YB),(0:Int),(0:Int),([]:List YI),false,(0:Int),([]:List YB),())) (
 .chk (decide (([]:List YB).length+a1.1.length≤4294967296)) <|
 .ob (Dx ((0:Int),()) a2) fun r2=>
 .leaf (a0.1,(([]:List YB)++a1.1),r2.1,r2.2.1,r2.2.2.1,r2.2.2.2.1,r2.2.2.2.2.1,(0:Int),([]:List YB),(0:Int),(0:Int),([]:List YI),false,(0:Int),([]:List YB),()))))
def R6 (a0:YI) (a1:YBs) (a2:YBs):Option (Aj):=(Zt a0 a1 a2).val
def Ahz (a0:Bw):Tree (A7):=
 .leaf (a0.1,a0.2.1,([]:List Am),())
def Vp (a0:Bw):Option (A7):=(Ahz a0).val
def Zu (a0:YBs) (a1:YI) (a2:Bw) (a3:Au):Tree (A4):=
 letI u1:=a3.2.2;.ob (Ol a0) fun r1=>
 .br (!r1.1) (
 .leaf ((0:Int),([]:List YB),([]:List YB),(0:Int),([]:List YB),(0:Int),([]:List YB),(0:Int),(0:Int),([]:List YI),(0:Int),([]:List YB),(0:Int),(0:Int),([]:List YI),false,(0:Int),([]:List YB),(0:Int),(0:Int),([]:List Am),(0:Int),(0:Int),false,())) (
 .ob (Bk a1 ((0:Int),()) ((1000000:Int),())) fun r2=>
 .br (!r2.1) (
 .leaf ((0:Int),([]:List YB),([]:List YB),(0:Int),([]:List YB),(0:Int),([]:List YB),(0:Int),(0:Int),([]:List YI),(0:Int),([]:List YB),(0:Int),(0:Int),([]:List YI),false,(0:Int),([]:List YB),(0:Int),(0:Int),([]:List Am),(0:Int),(0:Int),false,())) (
 .ob (H5 a2) fun r3=>
 .br (!r3.1) (
 .leaf ((0:Int),([]:List YB),([]:List YB),(0:Int),([]:List YB),(0:Int),([]:List YB),(0:Int),(0:Int),([]:List YI),(0:Int),([]:List YB),(0:Int),(0:Int),([]:List YI),false,(0:Int),([]:List YB),(0:Int),(0:Int),([]:List Am),(0:Int),(0:Int),false,())) (
 .ob (Kk a3) fun r4=>
 .br (!r4.1) (
 .leaf ((0:Int),([]:List YB),([]:List YB),(0:Int),([]:List YB),(0:Int),([]:List YB),(0:Int),(0:Int),([]:List YI),(0:Int),([]:List YB),(0:Int),(0:Int),([]:List YI),false,(0:Int),([]:List YB),(0:Int),(0:Int),([]:List Am),(0:Int),(0:Int),false,())) (
 .br (a3.1 != (3:Int)) (
 .leaf ((0:Int),([]:List YB),([]:List YB),(0:Int),([]:List YB),(0:Int),([]:List YB),(0:Int),(0:Int),([]:List YI),(0:Int),([]:List YB),(0:Int),(0:Int),([]:List YI),false,(0:Int),([]:List YB),(0:Int),(0:Int),([]:List Am),(0:Int),(0:Int),false,())) (
 .chk (decide (([]:List YB).length+a3.2.2.1.length≤4294967296)) <|
 .chk (decide (([]:List YB).length+a3.2.2.2.1.length≤4294967296)) <|
 .ob (Vo a0 (u1.1,()) (u1.2.1,()) ((0:Int),())) fun r5=>
 .ob (R6 ((1:Int),()) (u1.2.1,()) r5) fun r6=>letI u2:=r6.2.2.2;letI u3:=u2.2.2.2;letI u4:=u3.2.2.2.2;
 .ob (Vp a2) fun r7=>
 .leaf (a3.2.1,(([]:List YB)++u1.1),(([]:List YB)++u1.2.1),r6.1,r6.2.1,r6.2.2.1,u2.1,u2.2.1,u2.2.2.1,u3.1,u3.2.1,u3.2.2.1,u3.2.2.2.1,u4.1,u4.2.1,u4.2.2.1,u4.2.2.2.1,u4.2.2.2.2.1,r7.1,r7.2.1,r7.2.2.1,u1.2.2.1,a1.1,false,()))))))
def Zv (a0:YBs) (a1:YI) (a2:Bw) (a3:Au):Option (A4):=(Zu a0 a1 a2 a3).val
def Ac7 (a0:Av) (a1:YI):Tree ((Bool×Unit)×Av):=
 .ob (A9 a0 a1) fun r1=>
 .leaf (((r1.1.1==(0:Int)),()),(a0.1,r1.2.2.1,r1.2.2.2.1,()))
def Ao (a0:Av) (a1:YI):Option ((Bool×Unit)×Av):=(Ac7 a0 a1).val
def Pg (x3:(List YI)×Int×Int×(List YB)×Int×Int×Unit):Option (((List YI)×Int×Int×(List YB)×Int×Int×Unit)⊕(((List YI)×(List YB)×Int×Int×Unit))):=
 letI u1:=x3.2.2.2;Tree.val (α:=((List YI)×Int×Int×(List YB)×Int×Int×Unit)⊕(((List YI)×(List YB)×Int×Int×Unit))) <|
 .br (decide (x3.2.2.1>(0:Int))) (
 .ob (Ao (u1.1,u1.2.1,u1.2.2.1,()) ((6:Int),())) fun r4=>
 .br r4.1.1 (
 .ob (Be (u1.1,r4.2.2.1,r4.2.2.2.1,()) ([((1:Int),()),((32:Int),()),((900:Int),()),((1023:Int),()),((1024:Int),()),((1025:Int),()),((3000:Int),())],())) fun r5=>
 .ob (A9 (u1.1,r5.2.2.1,r5.2.2.2.1,()) ((40:Int),())) fun r6=>
 .ob (Be (u1.1,r6.2.2.1,r6.2.2.2.1,()) ([((0:Int),()),((0:Int),()),((20:Int),()),((1000:Int),())],())) fun r7=>
 .chk (decide (x3.1.length+[((i64.wrap ((i64.wrap ((i64.wrap (x3.2.1+r5.1.1))+r6.1.1))-r7.1.1)),())].length≤4294967296)) <|
 .leaf (.inl ((x3.1++[((i64.wrap ((i64.wrap ((i64.wrap (x3.2.1+r5.1.1))+r6.1.1))-r7.1.1)),())]),(i64.wrap (x3.2.1+r5.1.1)),(i64.wrap (x3.2.2.1-(1:Int))),u1.1,r7.2.2.1,r7.2.2.2.1,()))) (
 .ob (A9 (u1.1,r4.2.2.1,r4.2.2.2.1,()) ((40:Int),())) fun r8=>
 .ob (Be (u1.1,r8.2.2.1,r8.2.2.2.1,()) ([((0:Int),()),((0:Int),()),((20:Int),()),((1000:Int),())],())) fun r9=>
 .chk (decide (x3.1.length+[((i64.wrap ((i64.wrap (x3.2.1+r8.1.1))-r9.1.1)),())].length≤4294967296)) <|
 .leaf (.inl ((x3.1++[((i64.wrap ((i64.wrap (x3.2.1+r8.1.1))-r9.1.1)),())]),x3.2.1,(i64.wrap (x3.2.2.1-(1:Int))),u1.1,r9.2.2.1,r9.2.2.2.1,())))) (
 .leaf (.inr (x3.1,u1.1,u1.2.1,u1.2.2.1,())))
def Ac8 (a0:Av) (a1:YI):Tree (((List YI)×Unit)×Av):=
 .ob (Be a0 ([((0:Int),()),((0:Int),()),((0:Int),()),((1000:Int),()),((5000:Int),()),((281474976710000:Int),())],())) fun r1=>
 .ob (A9 (a0.1,r1.2.2.1,r1.2.2.2.1,()) ((i64.wrap (a1.1+(1:Int))),())) fun r2=>
 .ob (Ay Pg (([]:List YI),r1.1.1,r2.1.1,a0.1,r2.2.2.1,r2.2.2.2.1,())) fun o10=>
 .ob (Ao (o10.2.1,o10.2.2.1,o10.2.2.2.1,()) ((5:Int),())) fun r11=>
 .br r11.1.1 (
 .ob (Be (o10.2.1,r11.2.2.1,r11.2.2.2.1,()) ([((-1:Int),()),((281474976710655:Int),()),((281474976710656:Int),())],())) fun r12=>
 .chk (decide (o10.1.length+[r12.1].length≤4294967296)) <|
 .leaf (((o10.1++[r12.1]),()),(o10.2.1,r12.2.2.1,r12.2.2.2.1,()))) (
 .leaf ((o10.1,()),(o10.2.1,r11.2.2.1,r11.2.2.2.1,())))
def Ac9 (a0:Av) (a1:YI):Option (((List YI)×Unit)×Av):=(Ac8 a0 a1).val
def Aoy (a0:Bv):Tree (Bv):=
 .chk (decide (([]:List YI).length+a0.2.1.length≤4294967296)) <|
 .leaf (a0.1,(([]:List YI)++a0.2.1),())
def Ada (a0:Bv):Option (Bv):=(Aoy a0).val
def Ah0 (a0:Bv) (a1:YI):Tree ((Bool×Unit)):=
 .chk (decide ((0:Int)≤a1.1)) <|
 .chk (decide ((0:Int)≤(a1.1%(1024:Int)))) <|
 .ob (idx a0.2.1 ((a1.1%(1024:Int))/(32:Int))) fun e1=>
 .chk (decide ((0:Int)≤(a1.1%(1024:Int)))) <|
 .chk (decide ((0:Int)≤((a1.1%(1024:Int))%(32:Int)))) <|
 .leaf (((i64.wrap ((BitVec.ofInt (i64.bits) ((Int.fdiv e1.1 (2^(min (((a1.1%(1024:Int))%(32:Int))).toNat i64.bits)))) &&& BitVec.ofInt (i64.bits) ((1:Int))).toNat:Nat))==(1:Int)),())
def Sy (a0:Bv) (a1:YI):Option ((Bool×Unit)):=(Ah0 a0 a1).val
def Iq (x2:Int×Int×(List YI)×Unit):Option ((Int×Int×(List YI)×Unit)⊕((Bool×Unit)⊕Bv)):=
 Tree.val (α:=(Int×Int×(List YI)×Unit)⊕((Bool×Unit)⊕Bv)) <|
 .br (decide (x2.1<(32:Int))) (
 .ob (idx x2.2.2.1 x2.1) fun e3=>
 .ob (Bk e3 ((0:Int),()) ((4294967295:Int),())) fun r4=>
 .br (!r4.1) (
 .leaf (.inr (.inl (false,())))) (
 .leaf (.inl ((i64.wrap (x2.1+(1:Int))),x2.2.1,x2.2.2.1,())))) (
 .leaf (.inr (.inr (x2.2.1,x2.2.2.1,()))))
def F5 (x9:Int×Int×(List YI)×Unit):Option ((Int×Int×(List YI)×Unit)⊕((Bool×Unit)⊕(Unit))):=
 Tree.val (α:=(Int×Int×(List YI)×Unit)⊕((Bool×Unit)⊕(Unit))) <|
 .br (decide (x9.1<(1024:Int))) (
 .ob (Sy (x9.2.1,x9.2.2.1,()) (x9.1,())) fun r10=>
 .br r10.1 (
 .leaf (.inr (.inl (false,())))) (
 .leaf (.inl ((i64.wrap (x9.1+(1:Int))),x9.2.1,x9.2.2.1,())))) (
 .leaf (.inr (.inr ())))
def Xk (a0:Bv):Tree ((Bool×Unit)):=
 .br ((a0.2.1.length:Int) != (32:Int)) (
 .leaf (false,())) (
 .ob (Bk (a0.1,()) ((-1:Int),()) ((281474976710655:Int),())) fun r1=>
 .br (!r1.1) (
 .leaf (false,())) (
 .ob (Ay Iq ((0:Int),a0.1,a0.2.1,())) fun o5=>
 .sm o5 (fun o6=>
 .leaf o6) (fun o7=>
 .br (decide (o7.1≥(0:Int))) (
 .ob (Sy o7 (o7.1,())) fun r8=>
 .br (!r8.1) (
 .leaf (false,())) (
 .ob (Ay F5 ((i64.wrap (o7.1+(1:Int))),o7.1,o7.2.1,())) fun o11=>
 .sm o11 (fun o12=>
 .leaf o12) (fun o13=>
 .leaf (true,())))) (
 .ob (Ay F5 ((i64.wrap (o7.1+(1:Int))),o7.1,o7.2.1,())) fun o14=>
 .sm o14 (fun o15=>
 .leaf o15) (fun o16=>
 .leaf (true,()))))))
def Xl (a0:Bv):Option ((Bool×Unit)):=(Xk a0).val
def Zw (a0:YI):Tree (YI):=
 .br (decide (a0.1<(1024:Int))) (
 .leaf ((0:Int),())) (
 .leaf ((i64.wrap ((i64.wrap (a0.1-(1024:Int)))+(1:Int))),()))
def Alm (a0:YI):Option (YI):=(Zw a0).val
def Adb (a0:Bv) (a1:YI):Tree ((Bool×Unit)):=
 .ob (Xl a0) fun r1=>
 .br (!r1.1) (
 .leaf (false,())) (
 .ob (Bk a1 ((0:Int),()) ((281474976710655:Int),())) fun r2=>
 .br (!r2.1) (
 .leaf (false,())) (
 .br (decide (a1.1>a0.1)) (
 .leaf (true,())) (
 .ob (Alm (a0.1,())) fun r3=>
 .br (decide (a1.1≥r3.1)) (
 .ob (Sy a0 a1) fun r4=>
 .leaf ((!r4.1),())) (
 .leaf (false,())))))
def Uk (a0:Bv) (a1:YI):Option ((Bool×Unit)):=(Adb a0 a1).val
def I5 (x3:Int×Int×Int×Int×(List YI)×Int×(List YI)×Int×(List YI)×Unit):Option ((Int×Int×Int×Int×(List YI)×Int×(List YI)×Int×(List YI)×Unit)⊕((Int×Int×(List YI)×Int×(List YI)×Int×(List YI)×Unit))):=
 letI u1:=x3.2.2;letI u2:=u1.2.2;letI u3:=u2.2.2;Tree.val (α:=(Int×Int×Int×Int×(List YI)×Int×(List YI)×Int×(List YI)×Unit)⊕((Int×Int×(List YI)×Int×(List YI)×Int×(List YI)×Unit))) <|
 .br (decide (u1.1≤x3.1)) (
 .br (decide (x3.2.1<(1024:Int))) (
 .chk (decide ((0:Int)≤u1.1)) <|
 .chk (decide ((0:Int)≤(u1.1%(1024:Int)))) <|
 .chk (decide ((0:Int)≤(u1.1%(1024:Int)))) <|
 .ob (idx u3.2.2.1 ((u1.1%(1024:Int))/(32:Int))) fun e4=>
 .chk (decide ((0:Int)≤(u1.1%(1024:Int)))) <|
 .chk (decide ((0:Int)≤((u1.1%(1024:Int))%(32:Int)))) <|
 .ob (idx u3.2.2.1 ((u1.1%(1024:Int))/(32:Int))) fun e5=>
 let q6:=(x3.2.2.2.2.2.2.2.2.1.set (((u1.1%(1024:Int))/(32:Int))).toNat ((i64.wrap ((BitVec.ofInt (i64.bits) (e4.1) &&& ~~~ BitVec.ofInt (i64.bits) ((i64.wrap ((1:Int)*2^(min (((u1.1%(1024:Int))%(32:Int))).toNat i64.bits))))).toNat:Nat)),()))
 .leaf (.inl (x3.1,(i64.wrap (x3.2.1+(1:Int))),(i64.wrap (u1.1+(1:Int))),u1.2.1,u2.1,u2.2.1,u3.1,u3.2.1,q6,()))) (
 .leaf (.inr (x3.1,u1.2.1,u2.1,u2.2.1,u3.1,u3.2.1,u3.2.2.1,())))) (
 .leaf (.inr (x3.1,u1.2.1,u2.1,u2.2.1,u3.1,u3.2.1,u3.2.2.1,())))
def Adc (a0:Bv) (a1:YI):Tree (Bv×(Bool×Unit)):=
 .ob (Ada a0) fun r1=>
 .ob (Uk a0 a1) fun r2=>
 .br (!r2.1) (
 .leaf (r1,(false,()))) (
 .ob (Ay I5 (a1.1,(0:Int),(i64.wrap (a0.1+(1:Int))),a0.1,a0.2.1,(0:Int),([]:List YI),r1.1,r1.2.1,())) fun o7=>letI u1:=o7.2.2.2.2.2;
 .chk (decide ((0:Int)≤o7.1)) <|
 .chk (decide ((0:Int)≤(o7.1%(1024:Int)))) <|
 .chk (decide ((0:Int)≤(o7.1%(1024:Int)))) <|
 .ob (idx u1.2.1 ((o7.1%(1024:Int))/(32:Int))) fun e8=>
 .chk (decide ((0:Int)≤(o7.1%(1024:Int)))) <|
 .chk (decide ((0:Int)≤((o7.1%(1024:Int))%(32:Int)))) <|
 .ob (idx u1.2.1 ((o7.1%(1024:Int))/(32:Int))) fun e9=>
 let q10:=(o7.2.2.2.2.2.2.1.set (((o7.1%(1024:Int))/(32:Int))).toNat ((i64.wrap ((BitVec.ofInt (i64.bits) (e8.1) ||| BitVec.ofInt (i64.bits) ((i64.wrap ((1:Int)*2^(min (((o7.1%(1024:Int))%(32:Int))).toNat i64.bits))))).toNat:Nat)),()))
 .br (decide (o7.1>o7.2.1)) (
 .leaf ((o7.1,q10,()),(true,()))) (
 .leaf ((u1.1,q10,()),(true,()))))
def Ph (a0:Bv) (a1:YI):Option (Bv×(Bool×Unit)):=(Adc a0 a1).val
def R7 (x2:(List YI)×Int×Int×(List YI)×Int×(List YI)×Unit):Option (((List YI)×Int×Int×(List YI)×Int×(List YI)×Unit)⊕((Int×(List YI)×Int×(List YI)×Unit))):=
 letI u1:=x2.2.2.2;Tree.val (α:=((List YI)×Int×Int×(List YI)×Int×(List YI)×Unit)⊕((Int×(List YI)×Int×(List YI)×Unit))) <|
 .br (decide (x2.2.1<(x2.1.length:Int))) (
 .ob (idx x2.1 x2.2.1) fun e3=>
 .ob (Ph (u1.2.1,u1.2.2.1,()) e3) fun r4=>
 .leaf (.inl (x2.1,(i64.wrap (x2.2.1+(1:Int))),x2.2.2.1,u1.1,r4.1.1,r4.1.2.1,()))) (
 .leaf (.inr (x2.2.2.1,u1.1,u1.2.1,u1.2.2.1,())))
def Ah1 (a0:(List YI)×Unit):Tree (Bv):=
 .ob Uj fun r1=>
 .ob (Ay R7 (a0.1,(0:Int),(0:Int),([]:List YI),r1.1,r1.2.1,())) fun o5=>
 .leaf (o5.2.2.1,o5.2.2.2.1,())
def Ah2 (a0:(List YI)×Unit):Option (Bv):=(Ah1 a0).val
def Ade (a0:Av):Tree (Bv×Av):=
 .ob (Ac9 a0 ((12:Int),())) fun r1=>
 .ob (Ah2 r1.1) fun r2=>
 .leaf (r2,(a0.1,r1.2.2.1,r1.2.2.2.1,()))
def Pi (a0:Av):Option (Bv×Av):=(Ade a0).val
def Zx (a0:Av) (a1:YI):Tree (Aj×Av):=
 .ob (B8 a0 ((12:Int),())) fun r1=>
 .ob (B8 (a0.1,r1.2.2.1,r1.2.2.2.1,()) ((32:Int),())) fun r2=>
 .ob (R6 a1 r1.1 r2.1) fun r3=>letI u1:=r3.2.2.2;letI u2:=u1.2.2;letI u3:=u2.2.2;letI u4:=u3.2.2;letI u5:=u4.2.2;letI u6:=u5.2.2.2;
 .ob (Be (a0.1,r2.2.2.1,r2.2.2.2.1,()) ([((0:Int),()),((0:Int),()),((3:Int),()),((281474976709656:Int),()),((281474976710656:Int),())],())) fun r4=>
 .ob (Ao (a0.1,r4.2.2.1,r4.2.2.2.1,()) ((3:Int),())) fun r5=>
 .br r5.1.1 (
 .ob (Pi (a0.1,r5.2.2.1,r5.2.2.2.1,())) fun r6=>
 .ob (Ao (a0.1,r6.2.2.1,r6.2.2.2.1,()) ((2:Int),())) fun r7=>letI u7:=r7.2.2;
 .br r7.1.1 (
 .ob (Be (a0.1,u7.1,u7.2.1,()) ([((1:Int),()),((1:Int),()),((2:Int),()),((4294967295:Int),())],())) fun r8=>
 .ob (Cr (u1.1,()) ((C8 [114,101,107,101,121]),())) fun r9=>
 .ob (Dx r8.1 r9) fun r10=>letI u8:=r10.2.2;letI u9:=u8.2.2;
 .ob (Be (a0.1,r8.2.2.1,r8.2.2.2.1,()) ([((-1:Int),()),((0:Int),()),((5:Int),()),((7:Int),()),((1000005:Int),())],())) fun r11=>letI u10:=r11.2.2;
 .br (a1.1==(0:Int)) (
 .br (decide (r11.1.1<(0:Int))) (
 .br (a1.1==(0:Int)) (
 .br (decide (r10.1<(4294967295:Int))) (
 .ob (Ao (a0.1,u10.1,u10.2.1,()) ((2:Int),())) fun r12=>
 .br r12.1.1 (
 .ob (Cr (r10.2.1,()) ((C8 [114,101,107,101,121]),())) fun r13=>
 .leaf ((r3.1,r3.2.1,r10.1,r10.2.1,u8.1,u8.2.1,u9.1,(i64.wrap (r10.1-(1:Int))),u1.1,r4.1.1,r6.1.1,r6.1.2.1,true,(5:Int),r13.1,()),(a0.1,r12.2.2.1,r12.2.2.2.1,()))) (
 .leaf ((r3.1,r3.2.1,r10.1,r10.2.1,u8.1,u8.2.1,u9.1,(i64.wrap (r10.1-(1:Int))),u1.1,r4.1.1,r6.1.1,r6.1.2.1,true,(5:Int),u6.1,()),(a0.1,r12.2.2.1,r12.2.2.2.1,())))) (
 .leaf ((r3.1,r3.2.1,r10.1,r10.2.1,u8.1,u8.2.1,u9.1,(i64.wrap (r10.1-(1:Int))),u1.1,r4.1.1,r6.1.1,r6.1.2.1,true,(5:Int),u6.1,()),(a0.1,u10.1,u10.2.1,())))) (
 .leaf ((r3.1,r3.2.1,r10.1,r10.2.1,u8.1,u8.2.1,u9.1,(i64.wrap (r10.1-(1:Int))),u1.1,r4.1.1,r6.1.1,r6.1.2.1,true,(5:Int),u6.1,()),(a0.1,u10.1,u10.2.1,())))) (
 .br (a1.1==(0:Int)) (
 .br (decide (r10.1<(4294967295:Int))) (
 .ob (Ao (a0.1,u10.1,u10.2.1,()) ((2:Int),())) fun r14=>
 .br r14.1.1 (
 .ob (Cr (r10.2.1,()) ((C8 [114,101,107,101,121]),())) fun r15=>
 .leaf ((r3.1,r3.2.1,r10.1,r10.2.1,u8.1,u8.2.1,u9.1,(i64.wrap (r10.1-(1:Int))),u1.1,r4.1.1,r6.1.1,r6.1.2.1,true,r11.1.1,r15.1,()),(a0.1,r14.2.2.1,r14.2.2.2.1,()))) (
 .leaf ((r3.1,r3.2.1,r10.1,r10.2.1,u8.1,u8.2.1,u9.1,(i64.wrap (r10.1-(1:Int))),u1.1,r4.1.1,r6.1.1,r6.1.2.1,true,r11.1.1,u6.1,()),(a0.1,r14.2.2.1,r14.2.2.2.1,())))) (
 .leaf ((r3.1,r3.2.1,r10.1,r10.2.1,u8.1,u8.2.1,u9.1,(i64.wrap (r10.1-(1:Int))),u1.1,r4.1.1,r6.1.1,r6.1.2.1,true,r11.1.1,u6.1,()),(a0.1,u10.1,u10.2.1,())))) (
 .leaf ((r3.1,r3.2.1,r10.1,r10.2.1,u8.1,u8.2.1,u9.1,(i64.wrap (r10.1-(1:Int))),u1.1,r4.1.1,r6.1.1,r6.1.2.1,true,r11.1.1,u6.1,()),(a0.1,u10.1,u10.2.1,()))))) (
 .br (a1.1==(0:Int)) (
 .br (decide (r10.1<(4294967295:Int))) (
 .ob (Ao (a0.1,u10.1,u10.2.1,()) ((2:Int),())) fun r16=>
 .br r16.1.1 (
 .ob (Cr (r10.2.1,()) ((C8 [114,101,107,101,121]),())) fun r17=>
 .leaf ((r3.1,r3.2.1,r10.1,r10.2.1,u8.1,u8.2.1,u9.1,(i64.wrap (r10.1-(1:Int))),u1.1,r4.1.1,r6.1.1,r6.1.2.1,true,r11.1.1,r17.1,()),(a0.1,r16.2.2.1,r16.2.2.2.1,()))) (
 .leaf ((r3.1,r3.2.1,r10.1,r10.2.1,u8.1,u8.2.1,u9.1,(i64.wrap (r10.1-(1:Int))),u1.1,r4.1.1,r6.1.1,r6.1.2.1,true,r11.1.1,u6.1,()),(a0.1,r16.2.2.1,r16.2.2.2.1,())))) (
 .leaf ((r3.1,r3.2.1,r10.1,r10.2.1,u8.1,u8.2.1,u9.1,(i64.wrap (r10.1-(1:Int))),u1.1,r4.1.1,r6.1.1,r6.1.2.1,true,r11.1.1,u6.1,()),(a0.1,u10.1,u10.2.1,())))) (
 .leaf ((r3.1,r3.2.1,r10.1,r10.2.1,u8.1,u8.2.1,u9.1,(i64.wrap (r10.1-(1:Int))),u1.1,r4.1.1,r6.1.1,r6.1.2.1,true,r11.1.1,u6.1,()),(a0.1,u10.1,u10.2.1,()))))) (
 .br (a1.1==(0:Int)) (
 .br (decide (r3.2.2.1<(4294967295:Int))) (
 .ob (Ao (a0.1,u7.1,u7.2.1,()) ((2:Int),())) fun r18=>
 .br r18.1.1 (
 .ob (Cr (u1.1,()) ((C8 [114,101,107,101,121]),())) fun r19=>
 .leaf ((r3.1,r3.2.1,r3.2.2.1,u1.1,r4.1.1,r6.1.1,r6.1.2.1,u3.1,u3.2.1,u4.1,u4.2.1,u5.1,u5.2.1,u5.2.2.1,r19.1,()),(a0.1,r18.2.2.1,r18.2.2.2.1,()))) (
 .leaf ((r3.1,r3.2.1,r3.2.2.1,u1.1,r4.1.1,r6.1.1,r6.1.2.1,u3.1,u3.2.1,u4.1,u4.2.1,u5.1,u5.2.1,u5.2.2.1,u6.1,()),(a0.1,r18.2.2.1,r18.2.2.2.1,())))) (
 .leaf ((r3.1,r3.2.1,r3.2.2.1,u1.1,r4.1.1,r6.1.1,r6.1.2.1,u3.1,u3.2.1,u4.1,u4.2.1,u5.1,u5.2.1,u5.2.2.1,u6.1,()),(a0.1,u7.1,u7.2.1,())))) (
 .leaf ((r3.1,r3.2.1,r3.2.2.1,u1.1,r4.1.1,r6.1.1,r6.1.2.1,u3.1,u3.2.1,u4.1,u4.2.1,u5.1,u5.2.1,u5.2.2.1,u6.1,()),(a0.1,u7.1,u7.2.1,()))))) (
 .ob (Ao (a0.1,r5.2.2.1,r5.2.2.2.1,()) ((2:Int),())) fun r20=>letI u11:=r20.2.2;
 .br r20.1.1 (
 .ob (Be (a0.1,u11.1,u11.2.1,()) ([((1:Int),()),((1:Int),()),((2:Int),()),((4294967295:Int),())],())) fun r21=>
 .ob (Cr (u1.1,()) ((C8 [114,101,107,101,121]),())) fun r22=>
 .ob (Dx r21.1 r22) fun r23=>letI u12:=r23.2.2;letI u13:=u12.2.2;
 .ob (Be (a0.1,r21.2.2.1,r21.2.2.2.1,()) ([((-1:Int),()),((0:Int),()),((5:Int),()),((7:Int),()),((1000005:Int),())],())) fun r24=>letI u14:=r24.2.2;
 .br (a1.1==(0:Int)) (
 .br (decide (r24.1.1<(0:Int))) (
 .br (a1.1==(0:Int)) (
 .br (decide (r23.1<(4294967295:Int))) (
 .ob (Ao (a0.1,u14.1,u14.2.1,()) ((2:Int),())) fun r25=>
 .br r25.1.1 (
 .ob (Cr (r23.2.1,()) ((C8 [114,101,107,101,121]),())) fun r26=>
 .leaf ((r3.1,r3.2.1,r23.1,r23.2.1,u12.1,u12.2.1,u13.1,(i64.wrap (r23.1-(1:Int))),u1.1,r4.1.1,u2.1,u2.2.1,true,(5:Int),r26.1,()),(a0.1,r25.2.2.1,r25.2.2.2.1,()))) (
 .leaf ((r3.1,r3.2.1,r23.1,r23.2.1,u12.1,u12.2.1,u13.1,(i64.wrap (r23.1-(1:Int))),u1.1,r4.1.1,u2.1,u2.2.1,true,(5:Int),u6.1,()),(a0.1,r25.2.2.1,r25.2.2.2.1,())))) (
 .leaf ((r3.1,r3.2.1,r23.1,r23.2.1,u12.1,u12.2.1,u13.1,(i64.wrap (r23.1-(1:Int))),u1.1,r4.1.1,u2.1,u2.2.1,true,(5:Int),u6.1,()),(a0.1,u14.1,u14.2.1,())))) (
 .leaf ((r3.1,r3.2.1,r23.1,r23.2.1,u12.1,u12.2.1,u13.1,(i64.wrap (r23.1-(1:Int))),u1.1,r4.1.1,u2.1,u2.2.1,true,(5:Int),u6.1,()),(a0.1,u14.1,u14.2.1,())))) (
 .br (a1.1==(0:Int)) (
 .br (decide (r23.1<(4294967295:Int))) (
 .ob (Ao (a0.1,u14.1,u14.2.1,()) ((2:Int),())) fun r27=>
 .br r27.1.1 (
 .ob (Cr (r23.2.1,()) ((C8 [114,101,107,101,121]),())) fun r28=>
 .leaf ((r3.1,r3.2.1,r23.1,r23.2.1,u12.1,u12.2.1,u13.1,(i64.wrap (r23.1-(1:Int))),u1.1,r4.1.1,u2.1,u2.2.1,true,r24.1.1,r28.1,()),(a0.1,r27.2.2.1,r27.2.2.2.1,()))) (
 .leaf ((r3.1,r3.2.1,r23.1,r23.2.1,u12.1,u12.2.1,u13.1,(i64.wrap (r23.1-(1:Int))),u1.1,r4.1.1,u2.1,u2.2.1,true,r24.1.1,u6.1,()),(a0.1,r27.2.2.1,r27.2.2.2.1,())))) (
 .leaf ((r3.1,r3.2.1,r23.1,r23.2.1,u12.1,u12.2.1,u13.1,(i64.wrap (r23.1-(1:Int))),u1.1,r4.1.1,u2.1,u2.2.1,true,r24.1.1,u6.1,()),(a0.1,u14.1,u14.2.1,())))) (
 .leaf ((r3.1,r3.2.1,r23.1,r23.2.1,u12.1,u12.2.1,u13.1,(i64.wrap (r23.1-(1:Int))),u1.1,r4.1.1,u2.1,u2.2.1,true,r24.1.1,u6.1,()),(a0.1,u14.1,u14.2.1,()))))) (
 .br (a1.1==(0:Int)) (
 .br (decide (r23.1<(4294967295:Int))) (
 .ob (Ao (a0.1,u14.1,u14.2.1,()) ((2:Int),())) fun r29=>
 .br r29.1.1 (
 .ob (Cr (r23.2.1,()) ((C8 [114,101,107,101,121]),())) fun r30=>
 .leaf ((r3.1,r3.2.1,r23.1,r23.2.1,u12.1,u12.2.1,u13.1,(i64.wrap (r23.1-(1:Int))),u1.1,r4.1.1,u2.1,u2.2.1,true,r24.1.1,r30.1,()),(a0.1,r29.2.2.1,r29.2.2.2.1,()))) (
 .leaf ((r3.1,r3.2.1,r23.1,r23.2.1,u12.1,u12.2.1,u13.1,(i64.wrap (r23.1-(1:Int))),u1.1,r4.1.1,u2.1,u2.2.1,true,r24.1.1,u6.1,()),(a0.1,r29.2.2.1,r29.2.2.2.1,())))) (
 .leaf ((r3.1,r3.2.1,r23.1,r23.2.1,u12.1,u12.2.1,u13.1,(i64.wrap (r23.1-(1:Int))),u1.1,r4.1.1,u2.1,u2.2.1,true,r24.1.1,u6.1,()),(a0.1,u14.1,u14.2.1,())))) (
 .leaf ((r3.1,r3.2.1,r23.1,r23.2.1,u12.1,u12.2.1,u13.1,(i64.wrap (r23.1-(1:Int))),u1.1,r4.1.1,u2.1,u2.2.1,true,r24.1.1,u6.1,()),(a0.1,u14.1,u14.2.1,()))))) (
 .br (a1.1==(0:Int)) (
 .br (decide (r3.2.2.1<(4294967295:Int))) (
 .ob (Ao (a0.1,u11.1,u11.2.1,()) ((2:Int),())) fun r31=>
 .br r31.1.1 (
 .ob (Cr (u1.1,()) ((C8 [114,101,107,101,121]),())) fun r32=>
 .leaf ((r3.1,r3.2.1,r3.2.2.1,u1.1,r4.1.1,u2.1,u2.2.1,u3.1,u3.2.1,u4.1,u4.2.1,u5.1,u5.2.1,u5.2.2.1,r32.1,()),(a0.1,r31.2.2.1,r31.2.2.2.1,()))) (
 .leaf ((r3.1,r3.2.1,r3.2.2.1,u1.1,r4.1.1,u2.1,u2.2.1,u3.1,u3.2.1,u4.1,u4.2.1,u5.1,u5.2.1,u5.2.2.1,u6.1,()),(a0.1,r31.2.2.1,r31.2.2.2.1,())))) (
 .leaf ((r3.1,r3.2.1,r3.2.2.1,u1.1,r4.1.1,u2.1,u2.2.1,u3.1,u3.2.1,u4.1,u4.2.1,u5.1,u5.2.1,u5.2.2.1,u6.1,()),(a0.1,u11.1,u11.2.1,())))) (
 .leaf ((r3.1,r3.2.1,r3.2.2.1,u1.1,r4.1.1,u2.1,u2.2.1,u3.1,u3.2.1,u4.1,u4.2.1,u5.1,u5.2.1,u5.2.2.1,u6.1,()),(a0.1,u11.1,u11.2.1,())))))
def R8 (a0:Av) (a1:YI):Option (Aj×Av):=(Zx a0 a1).val
def Fr (x6:Int×Int×Int×Int×(List Am)×Int×Int×(List YB)×Int×Unit):Option ((Int×Int×Int×Int×(List Am)×Int×Int×(List YB)×Int×Unit)⊕((Bool×Unit)⊕(Int×Int×Int×(List Am)×Unit))):=
 letI u1:=x6.2.2;letI u2:=u1.2.2;Tree.val (α:=(Int×Int×Int×Int×(List Am)×Int×Int×(List YB)×Int×Unit)⊕((Bool×Unit)⊕(Int×Int×Int×(List Am)×Unit))) <|
 .br (decide (x6.2.1<x6.1)) (
 .ob (idx u2.1 x6.2.1) fun e7=>
 .br (and (e7.1==u2.2.1) (and (e7.2.1==u2.2.2.1) true)) (
 .leaf (.inr (.inl (false,())))) (
 .leaf (.inl (x6.1,(i64.wrap (x6.2.1+(1:Int))),u1.1,u1.2.1,u2.1,u2.2.1,u2.2.2.1,u2.2.2.2.1,u2.2.2.2.2.1,())))) (
 .leaf (.inr (.inr (x6.1,u1.1,u1.2.1,u2.1,()))))
def Hz (x2:Int×Int×Int×(List Am)×Unit):Option ((Int×Int×Int×(List Am)×Unit)⊕((Bool×Unit)⊕(Unit))):=
 Tree.val (α:=(Int×Int×Int×(List Am)×Unit)⊕((Bool×Unit)⊕(Unit))) <|
 .br (decide (x2.1<(x2.2.2.2.1.length:Int))) (
 .ob (idx x2.2.2.2.1 x2.1) fun e3=>
 .ob (H5 (e3.1,e3.2.1,())) fun r4=>
 .br (!r4.1) (
 .leaf (.inr (.inl (false,())))) (
 .br ((e3.2.2.1.length:Int) != (12:Int)) (
 .leaf (.inr (.inl (false,())))) (
 .ob (Bk (e3.2.2.2.1,()) ((0:Int),()) ((1000006:Int),())) fun r5=>
 .br (!r5.1) (
 .leaf (.inr (.inl (false,())))) (
 .br (and (e3.1==x2.2.1) (and (e3.2.1==x2.2.2.1) true)) (
 .leaf (.inr (.inl (false,())))) (
 .ob (Ay Fr (x2.1,(0:Int),x2.2.1,x2.2.2.1,x2.2.2.2.1,e3.1,e3.2.1,e3.2.2.1,e3.2.2.2.1,())) fun o8=>
 .sm o8 (fun o9=>
 .leaf (.inr (.inl o9))) (fun o10=>
 .leaf (.inl ((i64.wrap (o10.1+(1:Int))),o10.2.1,o10.2.2.1,o10.2.2.2.1,())))))))) (
 .leaf (.inr (.inr ())))
def R9 (a0:A7):Tree ((Bool×Unit)):=
 .ob (H5 (a0.1,a0.2.1,())) fun r1=>
 .br (!r1.1) (
 .leaf (false,())) (
 .br (decide ((a0.2.2.1.length:Int)>(3:Int))) (
 .leaf (false,())) (
 .ob (Ay Hz ((0:Int),a0.1,a0.2.1,a0.2.2.1,())) fun o11=>
 .sm o11 (fun o12=>
 .leaf o12) (fun o13=>
 .leaf (true,()))))
def Kn (a0:A7):Option ((Bool×Unit)):=(R9 a0).val
def Zy (a0:Am):Tree (Am):=
 .chk (decide (([]:List YB).length+a0.2.2.1.length≤4294967296)) <|
 .leaf (a0.1,a0.2.1,(([]:List YB)++a0.2.2.1),a0.2.2.2.1,())
def Ko (a0:Am):Option (Am):=(Zy a0).val
def H0 (x1:Int×Int×Int×(List Am)×Int×Int×(List Am)×Int×Int×(List Am)×Unit):Option ((Int×Int×Int×(List Am)×Int×Int×(List Am)×Int×Int×(List Am)×Unit)⊕((Int×Int×(List Am)×Int×Int×(List Am)×Unit))):=
 letI u1:=x1.2.2.2;letI u2:=u1.2.2;letI u3:=u2.2.2;Tree.val (α:=(Int×Int×Int×(List Am)×Int×Int×(List Am)×Int×Int×(List Am)×Unit)⊕((Int×Int×(List Am)×Int×Int×(List Am)×Unit))) <|
 .br (decide (x1.1<(x1.2.2.2.1.length:Int))) (
 .ob (idx u1.1 x1.1) fun e2=>
 .ob (Ko e2) fun r3=>
 .chk (decide (x1.2.2.2.2.2.2.2.2.2.1.length+[r3].length≤4294967296)) <|
 .leaf (.inl ((i64.wrap (x1.1+(1:Int))),x1.2.1,x1.2.2.1,u1.1,u1.2.1,u2.1,u2.2.1,u3.1,u3.2.1,(u3.2.2.1++[r3]),()))) (
 .leaf (.inr (u1.2.1,u2.1,u2.2.1,u3.1,u3.2.1,u3.2.2.1,())))
def Zz (a0:A7):Tree (A7):=
 .ob (Ay H0 ((0:Int),a0.1,a0.2.1,a0.2.2.1,(0:Int),(0:Int),([]:List Am),a0.1,a0.2.1,([]:List Am),())) fun o4=>
 .leaf (o4.2.2.2.1,o4.2.2.2.2.1,o4.2.2.2.2.2.1,())
def Ct (a0:A7):Option (A7):=(Zz a0).val
def Hd (x5:Int×Int×Int×Int×(List Am)×Int×Int×(List Am)×Int×Int×(List Am)×Unit):Option ((Int×Int×Int×Int×(List Am)×Int×Int×(List Am)×Int×Int×(List Am)×Unit)⊕((Int×Int×(List Am)×Int×Int×(List Am)×Unit))):=
 letI u1:=x5.2.2;letI u2:=u1.2.2;letI u3:=u2.2.2;letI u4:=u3.2.2;Tree.val (α:=(Int×Int×Int×Int×(List Am)×Int×Int×(List Am)×Int×Int×(List Am)×Unit)⊕((Int×Int×(List Am)×Int×Int×(List Am)×Unit))) <|
 .br (decide (x5.2.1<(x5.2.2.2.2.1.length:Int))) (
 .ob (idx u2.1 x5.2.1) fun e6=>
 .br (decide (e6.2.2.2.1≥x5.1)) (
 .ob (idx u2.1 x5.2.1) fun e7=>
 .ob (Ko e7) fun r8=>
 .chk (decide (x5.2.2.2.2.2.2.2.2.2.2.1.length+[r8].length≤4294967296)) <|
 .leaf (.inl (x5.1,(i64.wrap (x5.2.1+(1:Int))),u1.1,u1.2.1,u2.1,u2.2.1,u3.1,u3.2.1,u4.1,u4.2.1,(u4.2.2.1++[r8]),()))) (
 .leaf (.inl (x5.1,(i64.wrap (x5.2.1+(1:Int))),u1.1,u1.2.1,u2.1,u2.2.1,u3.1,u3.2.1,u4.1,u4.2.1,u4.2.2.1,())))) (
 .leaf (.inr (u2.2.1,u3.1,u3.2.1,u4.1,u4.2.1,u4.2.2.1,())))
def Vq (a0:A7) (a1:YI):Tree (A7):=
 .ob (Kn a0) fun r1=>
 .br (!r1.1) (
 .ob (Ct a0) fun r2=>
 .leaf r2) (
 .ob (Bk a1 ((0:Int),()) ((1000000:Int),())) fun r3=>
 .br (!r3.1) (
 .ob (Ct a0) fun r4=>
 .leaf r4) (
 .ob (Ay Hd (a1.1,(0:Int),a0.1,a0.2.1,a0.2.2.1,(0:Int),(0:Int),([]:List Am),a0.1,a0.2.1,([]:List Am),())) fun o9=>
 .leaf (o9.2.2.2.1,o9.2.2.2.2.1,o9.2.2.2.2.2.1,())))
def Vr (a0:A7) (a1:YI):Option (A7):=(Vq a0 a1).val
def Kp (x10:Int×(List YB)×Int×Int×Int×(List Am)×Int×Int×Int×Int×(List Am)×Int×Int×(List Am)×Unit):Option ((Int×(List YB)×Int×Int×Int×(List Am)×Int×Int×Int×Int×(List Am)×Int×Int×(List Am)×Unit)⊕((Bool×Int×Int×(List Am)×Unit)⊕(Int×(List YB)×Int×Int×(List Am)×Int×Int×Int×Int×(List Am)×Int×Int×(List Am)×Unit))):=
 letI u1:=x10.2.2;letI u2:=u1.2.2;letI u3:=u2.2.2;letI u4:=u3.2.2;letI u5:=u4.2.2;letI u6:=u5.2.2;Tree.val (α:=(Int×(List YB)×Int×Int×Int×(List Am)×Int×Int×Int×Int×(List Am)×Int×Int×(List Am)×Unit)⊕((Bool×Int×Int×(List Am)×Unit)⊕(Int×(List YB)×Int×Int×(List Am)×Int×Int×Int×Int×(List Am)×Int×Int×(List Am)×Unit))) <|
 .br (decide (u1.1<(x10.2.2.2.2.2.2.2.2.2.2.2.2.2.1.length:Int))) (
 .ob (idx u6.2.1 u1.1) fun e11=>
 .br (and (e11.1==u3.1) (and (e11.2.1==u3.2.1) true)) (
 .ob (Ct (u1.2.1,u2.1,u2.2.1,())) fun r12=>
 .leaf (.inr (.inl (false,r12.1,r12.2.1,r12.2.2.1,())))) (
 .leaf (.inl (x10.1,x10.2.1,(i64.wrap (u1.1+(1:Int))),u1.2.1,u2.1,u2.2.1,u3.1,u3.2.1,u4.1,u4.2.1,u5.1,u5.2.1,u6.1,u6.2.1,())))) (
 .leaf (.inr (.inr (x10.1,x10.2.1,u1.2.1,u2.1,u2.2.1,u3.1,u3.2.1,u4.1,u4.2.1,u5.1,u5.2.1,u6.1,u6.2.1,()))))
def Ah3 (a0:A7) (a1:YI) (a2:Bw) (a3:YBs):Tree (A7×(Bool×Unit)):=
 .ob (Kn a0) fun r1=>
 .br (!r1.1) (
 .ob (Ct a0) fun r2=>
 .leaf (r2,(false,()))) (
 .ob (Bk a1 ((0:Int),()) ((1000000:Int),())) fun r3=>
 .br (!r3.1) (
 .ob (Ct a0) fun r4=>
 .leaf (r4,(false,()))) (
 .ob (H5 a2) fun r5=>
 .br (!r5.1) (
 .ob (Ct a0) fun r6=>
 .leaf (r6,(false,()))) (
 .br ((a3.1.length:Int) != (12:Int)) (
 .ob (Ct a0) fun r7=>
 .leaf (r7,(false,()))) (
 .br (and (a2.1==a0.1) (and (a2.2.1==a0.2.1) true)) (
 .ob (Ct a0) fun r8=>
 .leaf (r8,(false,()))) (
 .ob (Vr a0 a1) fun r9=>
 .ob (Ay Kp (a1.1,a3.1,(0:Int),a0.1,a0.2.1,a0.2.2.1,a2.1,a2.2.1,(0:Int),(0:Int),([]:List Am),r9.1,r9.2.1,r9.2.2.1,())) fun o13=>
 .sm o13 (fun o14=>
 .leaf ((o14.2.1,o14.2.2.1,o14.2.2.2.1,()),(o14.1,()))) (fun o15=>letI u1:=o15.2.2;letI u2:=u1.2.2.2;letI u3:=u2.2.2.2.2.2;
 .br ((o15.2.2.2.2.2.2.2.2.2.2.2.2.1.length:Int)==(3:Int)) (
 .ob (Ct (u1.1,u1.2.1,u1.2.2.1,())) fun r16=>
 .leaf (r16,(false,()))) (
 .chk (decide (([]:List YB).length+o15.2.1.length≤4294967296)) <|
 .chk (decide (o15.2.2.2.2.2.2.2.2.2.2.2.2.1.length+[(u2.1,u2.2.1,(([]:List YB)++o15.2.1),(i64.wrap (o15.1+(6:Int))),())].length≤4294967296)) <|
 .leaf ((u3.1,u3.2.1,(u3.2.2.1++[(u2.1,u2.2.1,(([]:List YB)++o15.2.1),(i64.wrap (o15.1+(6:Int))),())]),()),(true,())))))))))
def Da (a0:A7) (a1:YI) (a2:Bw) (a3:YBs):Option (A7×(Bool×Unit)):=(Ah3 a0 a1 a2 a3).val
def Tu (x6:Int×Int×(List YB)×Int×Int×Int×Int×(List Am)×Int×Int×(List Am)×Unit):Option ((Int×Int×(List YB)×Int×Int×Int×Int×(List Am)×Int×Int×(List Am)×Unit)⊕(((List YB)×Int×Int×Int×Int×(List Am)×Int×Int×(List Am)×Unit))):=
 letI u1:=x6.2.2;letI u2:=u1.2.2;letI u3:=u2.2.2;letI u4:=u3.2.2;Tree.val (α:=(Int×Int×(List YB)×Int×Int×Int×Int×(List Am)×Int×Int×(List Am)×Unit)⊕(((List YB)×Int×Int×Int×Int×(List Am)×Int×Int×(List Am)×Unit))) <|
 .br (decide (x6.2.1>(0:Int))) (
 .ob (A9 (u1.1,u1.2.1,u2.1,()) ((7:Int),())) fun r7=>
 .ob (Ip r7.1) fun r8=>
 .ob (B8 (u1.1,r7.2.2.1,r7.2.2.2.1,()) ((12:Int),())) fun r9=>
 .ob (Da (u4.1,u4.2.1,u4.2.2.1,()) (x6.1,()) r8 r9.1) fun r10=>
 .ob (A9 (u1.1,r9.2.2.1,r9.2.2.2.1,()) ((3:Int),())) fun r11=>
 .leaf (.inl ((i64.wrap (x6.1+r11.1.1)),(i64.wrap (x6.2.1-(1:Int))),u1.1,r11.2.2.1,r11.2.2.2.1,u2.2.1,u3.1,u3.2.1,r10.1.1,r10.1.2.1,r10.1.2.2.1,()))) (
 .leaf (.inr (u1.1,u1.2.1,u2.1,u2.2.1,u3.1,u3.2.1,u4.1,u4.2.1,u4.2.2.1,())))
def Z0 (a0:Av):Tree (A7×Av):=
 .ob (A9 a0 ((5:Int),())) fun r1=>
 .ob (Ip r1.1) fun r2=>
 .ob (Vp r2) fun r3=>
 .ob (A9 (a0.1,r1.2.2.1,r1.2.2.2.1,()) ((6:Int),())) fun r4=>
 .ob (A9 (a0.1,r4.2.2.1,r4.2.2.2.1,()) ((5:Int),())) fun r5=>
 .ob (Ay Tu (r4.1.1,r5.1.1,a0.1,r5.2.2.1,r5.2.2.2.1,(0:Int),(0:Int),([]:List Am),r3.1,r3.2.1,r3.2.2.1,())) fun o12=>letI u1:=o12.2.2.2.2.2.2;
 .leaf ((u1.1,u1.2.1,u1.2.2.1,()),(o12.1,o12.2.1,o12.2.2.1,()))
def M6 (a0:Av):Option (A7×Av):=(Z0 a0).val
def Z1 (a0:Av):Tree (A4×Av):=
 .ob (B8 a0 ((16:Int),())) fun r1=>
 .ob (A9 (a0.1,r1.2.2.1,r1.2.2.2.1,()) ((2:Int),())) fun r2=>
 .ob (Tp (a0.1,r2.2.2.1,r2.2.2.2.1,())) fun r3=>
 .ob (Vk r1.1 ((i64.wrap ((1:Int)+r2.1.1)),()) r3.1) fun r4=>
 .ob (B8 (a0.1,r3.2.2.1,r3.2.2.2.1,()) ((16:Int),())) fun r5=>
 .ob (Be (a0.1,r5.2.2.1,r5.2.2.2.1,()) ([((0:Int),()),((5:Int),()),((90:Int),())],())) fun r6=>
 .ob (A9 (a0.1,r6.2.2.1,r6.2.2.2.1,()) ((5:Int),())) fun r7=>
 .ob (Ip ((i64.wrap ((1:Int)+r7.1.1)),())) fun r8=>
 .ob (Zv r5.1 r6.1 r8 r4.1) fun r9=>letI u1:=r9.2.2.2;letI u2:=u1.2.2.2;letI u3:=u2.2.2.2;letI u4:=u3.2.2.2;letI u5:=u4.2.2.2;letI u6:=u5.2.2.2;letI u7:=u6.2.2.2;
 .ob (Ao (a0.1,r7.2.2.1,r7.2.2.2.1,()) ((2:Int),())) fun r10=>
 .br r10.1.1 (
 .ob (R8 (a0.1,r10.2.2.1,r10.2.2.2.1,()) ((1:Int),())) fun r11=>letI u8:=r11.1.2.2;letI u9:=u8.2.2;letI u10:=u9.2.2;letI u11:=u10.2.2;letI u12:=u11.2.2;letI u13:=u12.2.2;
 .ob (Ao (a0.1,r11.2.2.1,r11.2.2.2.1,()) ((2:Int),())) fun r12=>
 .br r12.1.1 (
 .ob (M6 (a0.1,r12.2.2.1,r12.2.2.2.1,())) fun r13=>
 .leaf ((r9.1,r9.2.1,r11.1.2.1,r11.1.1,r11.1.2.1,u8.1,u8.2.1,u9.1,u9.2.1,u10.1,u10.2.1,u11.1,u11.2.1,u12.1,u12.2.1,u13.1,u13.2.1,u13.2.2.1,r13.1.1,r13.1.2.1,r13.1.2.2.1,u7.1,u7.2.1,u7.2.2.1,()),(a0.1,r13.2.2.1,r13.2.2.2.1,()))) (
 .leaf ((r9.1,r9.2.1,r11.1.2.1,r11.1.1,r11.1.2.1,u8.1,u8.2.1,u9.1,u9.2.1,u10.1,u10.2.1,u11.1,u11.2.1,u12.1,u12.2.1,u13.1,u13.2.1,u13.2.2.1,u6.1,u6.2.1,u6.2.2.1,u7.1,u7.2.1,u7.2.2.1,()),(a0.1,r12.2.2.1,r12.2.2.2.1,())))) (
 .ob (Ao (a0.1,r10.2.2.1,r10.2.2.2.1,()) ((2:Int),())) fun r14=>
 .br r14.1.1 (
 .ob (M6 (a0.1,r14.2.2.1,r14.2.2.2.1,())) fun r15=>
 .leaf ((r9.1,r9.2.1,r9.2.2.1,u1.1,u1.2.1,u1.2.2.1,u2.1,u2.2.1,u2.2.2.1,u3.1,u3.2.1,u3.2.2.1,u4.1,u4.2.1,u4.2.2.1,u5.1,u5.2.1,u5.2.2.1,r15.1.1,r15.1.2.1,r15.1.2.2.1,u7.1,u7.2.1,u7.2.2.1,()),(a0.1,r15.2.2.1,r15.2.2.2.1,()))) (
 .leaf (r9,(a0.1,r14.2.2.1,r14.2.2.2.1,()))))
def Z2 (a0:Av):Option (A4×Av):=(Z1 a0).val
def Am0 (a0:Av):Tree (YEp×Av):=
 .ob (Be a0 ([((0:Int),()),((0:Int),()),((1:Int),()),((2:Int),()),((4294967295:Int),())],())) fun r1=>
 .ob (B8 (a0.1,r1.2.2.1,r1.2.2.2.1,()) ((32:Int),())) fun r2=>
 .ob (Dx r1.1 r2.1) fun r3=>
 .ob (Be (a0.1,r2.2.2.1,r2.2.2.2.1,()) ([((0:Int),()),((0:Int),()),((1:Int),()),((5:Int),()),((281474976709655:Int),()),((281474976709656:Int),()),((281474976710655:Int),()),((281474976710656:Int),())],())) fun r4=>
 .ob (Ao (a0.1,r4.2.2.1,r4.2.2.2.1,()) ((3:Int),())) fun r5=>
 .br r5.1.1 (
 .ob (Pi (a0.1,r5.2.2.1,r5.2.2.2.1,())) fun r6=>
 .leaf ((r3.1,r3.2.1,r4.1.1,r6.1.1,r6.1.2.1,()),(a0.1,r6.2.2.1,r6.2.2.2.1,()))) (
 .leaf ((r3.1,r3.2.1,r4.1.1,r3.2.2.2.1,r3.2.2.2.2.1,()),(a0.1,r5.2.2.1,r5.2.2.2.1,())))
def Am1 (a0:Av):Option (YEp×Av):=(Am0 a0).val
def Ah4 (a0:Av):Tree (Bv×Av):=
 .ob (Pi a0) fun r1=>
 .ob (A9 (a0.1,r1.2.2.1,r1.2.2.2.1,()) ((12:Int),())) fun r2=>letI u1:=r2.2.2;
 .br (r2.1.1==(0:Int)) (
 .ob (Be (a0.1,u1.1,u1.2.1,()) ([((-2:Int),()),((-1:Int),()),((0:Int),()),((700:Int),()),((281474976710656:Int),())],())) fun r3=>
 .leaf ((r3.1.1,r1.1.2.1,()),(a0.1,r3.2.2.1,r3.2.2.2.1,()))) (
 .br (r2.1.1==(1:Int)) (
 .ob (A9 (a0.1,u1.1,u1.2.1,()) ((32:Int),())) fun r4=>
 .ob (Be (a0.1,r4.2.2.1,r4.2.2.2.1,()) ([((-1:Int),()),((0:Int),()),((1:Int),()),((4294967295:Int),()),((4294967296:Int),())],())) fun r5=>
 .ob (idx r1.1.2.1 r4.1.1) fun e6=>
 let q7:=(r1.1.2.1.set (r4.1.1).toNat r5.1)
 .leaf ((r1.1.1,q7,()),(a0.1,r5.2.2.1,r5.2.2.2.1,()))) (
 .br (r2.1.1==(2:Int)) (
 .ob (A9 (a0.1,u1.1,u1.2.1,()) ((32:Int),())) fun r8=>
 .chk (decide ((0:Int)≤r8.1.1)) <|
 .chk (decide (r8.1.1≤(r1.1.2.1.length:Int))) <|
 .leaf ((r1.1.1,((r1.1.2.1.take (r8.1.1).toNat).drop ((0:Int)).toNat),()),(a0.1,r8.2.2.1,r8.2.2.2.1,()))) (
 .leaf (r1.1,(a0.1,u1.1,u1.2.1,())))))
def Ah5 (a0:Av):Option (Bv×Av):=(Ah4 a0).val
def Ah6 (a0:Av):Tree (YEp×Av):=
 .ob (Am1 a0) fun r1=>letI u1:=r1.1.2.2;
 .ob (A9 (a0.1,r1.2.2.1,r1.2.2.2.1,()) ((14:Int),())) fun r2=>letI u2:=r2.2.2;
 .br (r2.1.1==(0:Int)) (
 .ob (Be (a0.1,u2.1,u2.2.1,()) ([((-1:Int),()),((4294967296:Int),())],())) fun r3=>
 .leaf ((r3.1.1,r1.1.2.1,u1.1,u1.2.1,u1.2.2.1,()),(a0.1,r3.2.2.1,r3.2.2.2.1,()))) (
 .br (r2.1.1==(1:Int)) (
 .ob (Be (a0.1,u2.1,u2.2.1,()) ([((0:Int),()),((31:Int),()),((33:Int),())],())) fun r4=>
 .ob (B8 (a0.1,r4.2.2.1,r4.2.2.2.1,()) r4.1) fun r5=>
 .leaf ((r1.1.1,r5.1.1,u1.1,u1.2.1,u1.2.2.1,()),(a0.1,r5.2.2.1,r5.2.2.2.1,()))) (
 .br (r2.1.1==(2:Int)) (
 .ob (Be (a0.1,u2.1,u2.2.1,()) ([((-1:Int),()),((281474976710657:Int),())],())) fun r6=>
 .leaf ((r1.1.1,r1.1.2.1,r6.1.1,u1.2.1,u1.2.2.1,()),(a0.1,r6.2.2.1,r6.2.2.2.1,()))) (
 .br (r2.1.1==(3:Int)) (
 .ob (Ah5 (a0.1,u2.1,u2.2.1,())) fun r7=>
 .leaf ((r1.1.1,r1.1.2.1,u1.1,r7.1.1,r7.1.2.1,()),(a0.1,r7.2.2.1,r7.2.2.2.1,()))) (
 .leaf (r1.1,(a0.1,u2.1,u2.2.1,()))))))
def Xm (a0:Av):Option (YEp×Av):=(Ah6 a0).val
def Adf (a0:Av):Tree (Aj×Av):=
 .ob (A9 a0 ((2:Int),())) fun r1=>
 .ob (R8 (a0.1,r1.2.2.1,r1.2.2.2.1,()) r1.1) fun r2=>letI u1:=r2.1.2.2;letI u2:=u1.2.2;letI u3:=u2.2.2;letI u4:=u3.2.2;letI u5:=u4.2.2;letI u6:=u5.2.2;letI u7:=u6.2.2;
 .ob (A9 (a0.1,r2.2.2.1,r2.2.2.2.1,()) ((20:Int),())) fun r3=>letI u8:=r3.2.2;
 .br (r3.1.1==(0:Int)) (
 .ob (Be (a0.1,u8.1,u8.2.1,()) ([((-1:Int),()),((0:Int),()),((1:Int),()),((2:Int),())],())) fun r4=>
 .leaf ((r4.1.1,r2.1.2.1,u1.1,u1.2.1,u2.1,u2.2.1,u3.1,u3.2.1,u4.1,u4.2.1,u5.1,u5.2.1,u6.1,u6.2.1,u7.1,()),(a0.1,r4.2.2.1,r4.2.2.2.1,()))) (
 .br (r3.1.1==(1:Int)) (
 .ob (B8 (a0.1,u8.1,u8.2.1,()) ((11:Int),())) fun r5=>
 .leaf ((r2.1.1,r5.1.1,u1.1,u1.2.1,u2.1,u2.2.1,u3.1,u3.2.1,u4.1,u4.2.1,u5.1,u5.2.1,u6.1,u6.2.1,u7.1,()),(a0.1,r5.2.2.1,r5.2.2.2.1,()))) (
 .br (r3.1.1==(2:Int)) (
 .ob (Xm (a0.1,u8.1,u8.2.1,())) fun r6=>
 .leaf ((r2.1.1,r2.1.2.1,r6.1.1,r6.1.2.1,r6.1.2.2.1,r6.1.2.2.2.1,r6.1.2.2.2.2.1,u3.2.1,u4.1,u4.2.1,u5.1,u5.2.1,u6.1,u6.2.1,u7.1,()),(a0.1,r6.2.2.1,r6.2.2.2.1,()))) (
 .br (r3.1.1==(3:Int)) (
 .ob (Xm (a0.1,u8.1,u8.2.1,())) fun r7=>
 .leaf ((r2.1.1,r2.1.2.1,u1.1,u1.2.1,u2.1,u2.2.1,u3.1,r7.1.1,r7.1.2.1,r7.1.2.2.1,r7.1.2.2.2.1,r7.1.2.2.2.2.1,u6.1,u6.2.1,u7.1,()),(a0.1,r7.2.2.1,r7.2.2.2.1,()))) (
 .br (r3.1.1==(4:Int)) (
 .leaf ((r2.1.1,r2.1.2.1,u1.1,u1.2.1,u2.1,u2.2.1,u3.1,u3.2.1,u4.1,u4.2.1,u5.1,u5.2.1,(!u6.1),u6.2.1,u7.1,()),(a0.1,u8.1,u8.2.1,()))) (
 .br (r3.1.1==(5:Int)) (
 .ob (Be (a0.1,u8.1,u8.2.1,()) ([((-2:Int),()),((-1:Int),()),((1:Int),()),((1000006:Int),())],())) fun r8=>
 .leaf ((r2.1.1,r2.1.2.1,u1.1,u1.2.1,u2.1,u2.2.1,u3.1,u3.2.1,u4.1,u4.2.1,u5.1,u5.2.1,u6.1,r8.1.1,u7.1,()),(a0.1,r8.2.2.1,r8.2.2.2.1,()))) (
 .br (r3.1.1==(6:Int)) (
 .ob (Be (a0.1,u8.1,u8.2.1,()) ([((0:Int),()),((31:Int),()),((32:Int),())],())) fun r9=>
 .ob (B8 (a0.1,r9.2.2.1,r9.2.2.2.1,()) r9.1) fun r10=>
 .leaf ((r2.1.1,r2.1.2.1,u1.1,u1.2.1,u2.1,u2.2.1,u3.1,u3.2.1,u4.1,u4.2.1,u5.1,u5.2.1,u6.1,u6.2.1,r10.1.1,()),(a0.1,r10.2.2.1,r10.2.2.2.1,()))) (
 .leaf (r2.1,(a0.1,u8.1,u8.2.1,())))))))))
def Adg (a0:Av):Option (Aj×Av):=(Adf a0).val
def Adh (a0:Av):Tree (Bw×Av):=
 .ob (Ao a0 ((3:Int),())) fun r1=>
 .br r1.1.1 (
 .ob (A9 (a0.1,r1.2.2.1,r1.2.2.2.1,()) ((16777216:Int),())) fun r2=>
 .ob (Gv (a0.1,r2.2.2.1,r2.2.2.2.1,())) fun r3=>
 .ob (A9 (a0.1,r3.2.2.1,r3.2.2.2.1,()) ((65536:Int),())) fun r4=>
 .leaf (((i64.wrap ((i64.wrap (r2.1.1*(256:Int)))+r3.1.1)),r4.1.1,()),(a0.1,r4.2.2.1,r4.2.2.2.1,()))) (
 .ob (A9 (a0.1,r1.2.2.1,r1.2.2.2.1,()) ((6:Int),())) fun r5=>
 .ob (Ip r5.1) fun r6=>
 .leaf (r6,(a0.1,r5.2.2.1,r5.2.2.2.1,())))
def Adi (a0:Av):Option (Bw×Av):=(Adh a0).val
def Ah7 (a0:Av):Tree (YI×Av):=
 .ob (Be a0 ([((-1:Int),()),((0:Int),()),((1:Int),()),((2:Int),()),((255:Int),()),((256:Int),()),((65535:Int),()),((2147483647:Int),()),((2147483648:Int),()),((4294967295:Int),()),((4294967296:Int),()),((-2147483648:Int),()),((9223372036854775807:Int),()),((-9223372036854775808:Int),())],())) fun r1=>
 .leaf (r1.1,(a0.1,r1.2.2.1,r1.2.2.2.1,()))
def Ah8 (a0:Av):Option (YI×Av):=(Ah7 a0).val
def Ah9 (a0:Av):Tree (Bw×Av):=
 .ob (Adi a0) fun r1=>
 .ob (A9 (a0.1,r1.2.2.1,r1.2.2.2.1,()) ((10:Int),())) fun r2=>letI u1:=r2.2.2;
 .br (r2.1.1==(0:Int)) (
 .ob (Ah8 (a0.1,u1.1,u1.2.1,())) fun r3=>
 .leaf ((r3.1.1,r1.1.2.1,()),(a0.1,r3.2.2.1,r3.2.2.2.1,()))) (
 .br (r2.1.1==(1:Int)) (
 .ob (Be (a0.1,u1.1,u1.2.1,()) ([((-1:Int),()),((65535:Int),()),((65536:Int),()),((0:Int),())],())) fun r4=>
 .leaf ((r1.1.1,r4.1.1,()),(a0.1,r4.2.2.1,r4.2.2.2.1,()))) (
 .leaf (r1.1,(a0.1,u1.1,u1.2.1,()))))
def Dp (a0:Av):Option (Bw×Av):=(Ah9 a0).val
def Adj (a0:Av):Tree (A7×Av):=
 .ob (M6 a0) fun r1=>letI u1:=r1.1.2.2;
 .br ((r1.1.2.2.1.length:Int)==(0:Int)) (
 .leaf (r1.1,(a0.1,r1.2.2.1,r1.2.2.2.1,()))) (
 .ob (Ao (a0.1,r1.2.2.1,r1.2.2.2.1,()) ((2:Int),())) fun r2=>
 .br r2.1.1 (
 .leaf (r1.1,(a0.1,r2.2.2.1,r2.2.2.2.1,()))) (
 .ob (A9 (a0.1,r2.2.2.1,r2.2.2.2.1,()) ((r1.1.2.2.1.length:Int),())) fun r3=>
 .ob (A9 (a0.1,r3.2.2.1,r3.2.2.2.1,()) ((6:Int),())) fun r4=>letI u2:=r4.2.2;
 .br (r4.1.1==(0:Int)) (
 .ob (Dp (a0.1,u2.1,u2.2.1,())) fun r5=>
 .leaf ((r5.1.1,r5.1.2.1,u1.1,()),(a0.1,r5.2.2.1,r5.2.2.2.1,()))) (
 .br (r4.1.1==(1:Int)) (
 .ob (Dp (a0.1,u2.1,u2.2.1,())) fun r6=>
 .ob (idx u1.1 r3.1.1) fun e7=>
 let q8:=(r1.1.2.2.1.set (r3.1.1).toNat (r6.1.1,r6.1.2.1,e7.2.2.1,e7.2.2.2.1,()))
 .leaf ((r1.1.1,r1.1.2.1,q8,()),(a0.1,r6.2.2.1,r6.2.2.2.1,()))) (
 .br (r4.1.1==(2:Int)) (
 .ob (B8 (a0.1,u2.1,u2.2.1,()) ((11:Int),())) fun r9=>
 .ob (idx u1.1 r3.1.1) fun e10=>
 let q11:=(r1.1.2.2.1.set (r3.1.1).toNat (e10.1,e10.2.1,r9.1.1,e10.2.2.2.1,()))
 .leaf ((r1.1.1,r1.1.2.1,q11,()),(a0.1,r9.2.2.1,r9.2.2.2.1,()))) (
 .br (r4.1.1==(3:Int)) (
 .ob (Be (a0.1,u2.1,u2.2.1,()) ([((-1:Int),()),((1000006:Int),()),((1000007:Int),())],())) fun r12=>
 .ob (idx u1.1 r3.1.1) fun e13=>
 let q14:=(r1.1.2.2.1.set (r3.1.1).toNat (e13.1,e13.2.1,e13.2.2.1,r12.1.1,()))
 .leaf ((r1.1.1,r1.1.2.1,q14,()),(a0.1,r12.2.2.1,r12.2.2.2.1,()))) (
 .br (r4.1.1==(4:Int)) (
 .ob (idx u1.1 r3.1.1) fun e15=>
 .leaf ((e15.1,e15.2.1,u1.1,()),(a0.1,u2.1,u2.2.1,()))) (
 .leaf (r1.1,(a0.1,u2.1,u2.2.1,())))))))))
def Adk (a0:Av):Option (A7×Av):=(Adj a0).val
def Z3 (a0:YEp):Tree ((Bool×Unit)):=
 .br (a0.1==(0:Int)) (
 .br ((a0.2.1.length:Int)==(0:Int)) (
 .br (a0.2.2.1==(0:Int)) (
 .br (a0.2.2.2.1==(0:Int)) (
 .leaf (((a0.2.2.2.2.1.length:Int)==(0:Int)),())) (
 .leaf (false,()))) (
 .leaf (false,()))) (
 .leaf (false,()))) (
 .leaf (false,()))
def M7 (a0:YEp):Option ((Bool×Unit)):=(Z3 a0).val
def Tv (a0:Aj):Tree ((Bool×Unit)):=
 letI u1:=a0.2.2.2;letI u2:=u1.2.2.2;letI u3:=u2.2.2.2;.br (a0.1==(0:Int)) (
 .br ((a0.2.1.length:Int)==(0:Int)) (
 .ob (M7 (a0.2.2.1,u1.1,u1.2.1,u1.2.2.1,u2.1,())) fun r1=>
 .br r1.1 (
 .ob (M7 (u2.2.1,u2.2.2.1,u3.1,u3.2.1,u3.2.2.1,())) fun r2=>
 .br r2.1 (
 .br (!u3.2.2.2.1) (
 .br (u3.2.2.2.2.1==(0:Int)) (
 .leaf (((a0.2.2.2.2.2.2.2.2.2.2.2.2.2.2.1.length:Int)==(0:Int)),())) (
 .leaf (false,()))) (
 .leaf (false,()))) (
 .leaf (false,()))) (
 .leaf (false,()))) (
 .leaf (false,()))) (
 .leaf (false,()))
def Tw (a0:Aj):Option ((Bool×Unit)):=(Tv a0).val
def Am2 (a0:YEp):Tree ((Bool×Unit)):=
 .ob (Bk (a0.1,()) ((0:Int),()) ((4294967295:Int),())) fun r1=>
 .br r1.1 (
 .br ((a0.2.1.length:Int)==(32:Int)) (
 .ob (Bk (a0.2.2.1,()) ((0:Int),()) ((281474976710656:Int),())) fun r2=>
 .br r2.1 (
 .ob (Xl (a0.2.2.2.1,a0.2.2.2.2.1,())) fun r3=>
 .leaf r3) (
 .leaf (false,()))) (
 .leaf (false,()))) (
 .leaf (false,()))
def N7 (a0:YEp):Option ((Bool×Unit)):=(Am2 a0).val
def Adl (a0:Aj):Tree ((Bool×Unit)):=
 letI u1:=a0.2.2;letI u2:=u1.2.2;letI u3:=u2.2.2.2;letI u4:=u3.2.2;letI u5:=u4.2.2;.ob (Bk (a0.1,()) ((0:Int),()) ((1:Int),())) fun r1=>
 .br (!r1.1) (
 .leaf (false,())) (
 .br ((a0.2.1.length:Int) != (12:Int)) (
 .leaf (false,())) (
 .ob (N7 (u1.1,u1.2.1,u2.1,u2.2.1,u2.2.2.1,())) fun r2=>
 .br (!r2.1) (
 .leaf (false,())) (
 .br u5.2.1 (
 .br (a0.1==(0:Int)) (
 .ob (N7 (u3.1,u3.2.1,u4.1,u4.2.1,u5.1,())) fun r3=>
 .br (!r3.1) (
 .leaf (false,())) (
 .br (u3.1 != (i64.wrap (u1.1-(1:Int)))) (
 .leaf (false,())) (
 .ob (Bk (u5.2.2.1,()) ((0:Int),()) ((1000005:Int),())) fun r4=>
 .br (!r4.1) (
 .leaf (false,())) (
 .br ((a0.2.2.2.2.2.2.2.2.2.2.2.2.2.2.1.length:Int)==(0:Int)) (
 .leaf (true,())) (
 .br (a0.1==(0:Int)) (
 .br ((a0.2.2.2.2.2.2.2.2.2.2.2.2.2.2.1.length:Int)==(32:Int)) (
 .leaf ((decide (u1.1<(4294967295:Int))),())) (
 .leaf (false,()))) (
 .leaf (false,()))))))) (
 .ob (N7 (u3.1,u3.2.1,u4.1,u4.2.1,u5.1,())) fun r5=>
 .br (!r5.1) (
 .leaf (false,())) (
 .br (u3.1 != (i64.wrap (u1.1-(1:Int)))) (
 .leaf (false,())) (
 .ob (Bk (u5.2.2.1,()) ((-1:Int),()) ((1000005:Int),())) fun r6=>
 .br (!r6.1) (
 .leaf (false,())) (
 .br ((a0.2.2.2.2.2.2.2.2.2.2.2.2.2.2.1.length:Int)==(0:Int)) (
 .leaf (true,())) (
 .br (a0.1==(0:Int)) (
 .br ((a0.2.2.2.2.2.2.2.2.2.2.2.2.2.2.1.length:Int)==(32:Int)) (
 .leaf ((decide (u1.1<(4294967295:Int))),())) (
 .leaf (false,()))) (
 .leaf (false,())))))))) (
 .ob (M7 (u3.1,u3.2.1,u4.1,u4.2.1,u5.1,())) fun r7=>
 .br (!r7.1) (
 .leaf (false,())) (
 .br (u5.2.2.1 != (0:Int)) (
 .leaf (false,())) (
 .br ((a0.2.2.2.2.2.2.2.2.2.2.2.2.2.2.1.length:Int)==(0:Int)) (
 .leaf (true,())) (
 .br (a0.1==(0:Int)) (
 .br ((a0.2.2.2.2.2.2.2.2.2.2.2.2.2.2.1.length:Int)==(32:Int)) (
 .leaf ((decide (u1.1<(4294967295:Int))),())) (
 .leaf (false,()))) (
 .leaf (false,())))))))))
def Gw (a0:Aj):Option ((Bool×Unit)):=(Adl a0).val
def Aoz (a0:YBs) (a1:YBs):Tree ((Bool×Unit)):=
 .leaf ((decide ((Ku a0.1)=(Ku a1.1))),())
def Pj (a0:YBs) (a1:YBs):Option ((Bool×Unit)):=(Aoz a0 a1).val
def Adm (a0:A4):Tree ((Bool×Unit)):=
 letI u1:=a0.2.2.2;letI u2:=u1.2.2;letI u3:=u2.2.2;letI u4:=u3.2.2;letI u5:=u4.2.2;letI u6:=u5.2.2;letI u7:=u6.2.2;letI u8:=u7.2.2.2;letI u9:=u8.2.2.2;.ob (Bk (a0.1,()) ((1:Int),()) ((9:Int),())) fun r1=>
 .br (!r1.1) (
 .leaf (false,())) (
 .br ((a0.2.1.length:Int) != (12:Int)) (
 .leaf (false,())) (
 .br ((a0.2.2.1.length:Int) != (12:Int)) (
 .leaf (false,())) (
 .ob (Bk (u9.1,()) ((0:Int),()) ((1000000:Int),())) fun r2=>
 .br (!r2.1) (
 .leaf (false,())) (
 .ob (Bk (u9.2.1,()) ((0:Int),()) ((1000000:Int),())) fun r3=>
 .br (!r3.1) (
 .leaf (false,())) (
 .br u9.2.2.1 (
 .ob (Tw (u1.1,u1.2.1,u2.1,u2.2.1,u3.1,u3.2.1,u4.1,u4.2.1,u5.1,u5.2.1,u6.1,u6.2.1,u7.1,u7.2.1,u7.2.2.1,())) fun r4=>
 .br r4.1 (
 .ob (Ip ((-1:Int),())) fun r5=>
 .br (and (u8.1==r5.1) (and (u8.2.1==r5.2.1) true)) (
 .br ((a0.2.2.2.2.2.2.2.2.2.2.2.2.2.2.2.2.2.2.2.2.1.length:Int)==(0:Int)) (
 .leaf ((u9.2.1==(0:Int)),())) (
 .leaf (false,()))) (
 .leaf (false,()))) (
 .leaf (false,()))) (
 .ob (Gw (u1.1,u1.2.1,u2.1,u2.2.1,u3.1,u3.2.1,u4.1,u4.2.1,u5.1,u5.2.1,u6.1,u6.2.1,u7.1,u7.2.1,u7.2.2.1,())) fun r6=>
 .br r6.1 (
 .br (u1.1==(1:Int)) (
 .ob (Pj (u1.2.1,()) (a0.2.2.1,())) fun r7=>
 .br r7.1 (
 .ob (Kn (u8.1,u8.2.1,u8.2.2.1,())) fun r8=>
 .leaf r8) (
 .leaf (false,()))) (
 .leaf (false,()))) (
 .leaf (false,()))))))))
def Pk (a0:A4):Option ((Bool×Unit)):=(Adm a0).val
def Adn (a0:YEp):Tree (YEp):=
 .chk (decide (([]:List YB).length+a0.2.1.length≤4294967296)) <|
 .ob (Ada (a0.2.2.2.1,a0.2.2.2.2.1,())) fun r1=>
 .leaf (a0.1,(([]:List YB)++a0.2.1),a0.2.2.1,r1.1,r1.2.1,())
def Me (a0:YEp):Option (YEp):=(Adn a0).val
def Aia (a0:YEp) (a1:Bool×Unit):Tree (YEp):=
 .br (!a1.1) (
 .chk (decide (([]:List YB).length+a0.2.1.length≤4294967296)) <|
 .chk (decide (([]:List YI).length+a0.2.2.2.2.1.length≤4294967296)) <|
 .leaf (a0.1,(([]:List YB)++a0.2.1),a0.2.2.1,a0.2.2.2.1,(([]:List YI)++a0.2.2.2.2.1),())) (
 .ob (Me a0) fun r1=>
 .leaf r1)
def Aib (a0:YEp) (a1:Bool×Unit):Option (YEp):=(Aia a0 a1).val
def Z4 (a0:Aj):Tree (Aj):=
 letI u1:=a0.2.2.2;letI u2:=u1.2.2.2;letI u3:=u2.2.2.2;letI u4:=u3.2.2.2;.chk (decide (([]:List YB).length+a0.2.1.length≤4294967296)) <|
 .ob (Me (a0.2.2.1,u1.1,u1.2.1,u1.2.2.1,u2.1,())) fun r1=>
 .ob (Aib (u2.2.1,u2.2.2.1,u3.1,u3.2.1,u3.2.2.1,()) (u4.1,())) fun r2=>
 .chk (decide (([]:List YB).length+a0.2.2.2.2.2.2.2.2.2.2.2.2.2.2.1.length≤4294967296)) <|
 .leaf (a0.1,(([]:List YB)++a0.2.1),r1.1,r1.2.1,r1.2.2.1,r1.2.2.2.1,r1.2.2.2.2.1,r2.1,r2.2.1,r2.2.2.1,r2.2.2.2.1,r2.2.2.2.2.1,u4.1,u4.2.1,(([]:List YB)++u4.2.2.1),())
def Fy (a0:Aj):Option (Aj):=(Z4 a0).val
def Z5 (a0:A4):Tree (A4):=
 letI u1:=a0.2.2.2;letI u2:=u1.2.2.2;letI u3:=u2.2.2.2;letI u4:=u3.2.2.2;letI u5:=u4.2.2.2;letI u6:=u5.2.2.2.2;.chk (decide (([]:List YB).length+a0.2.1.length≤4294967296)) <|
 .chk (decide (([]:List YB).length+a0.2.2.1.length≤4294967296)) <|
 .ob (Fy (u1.1,u1.2.1,u1.2.2.1,u2.1,u2.2.1,u2.2.2.1,u3.1,u3.2.1,u3.2.2.1,u4.1,u4.2.1,u4.2.2.1,u5.1,u5.2.1,u5.2.2.1,())) fun r1=>letI u7:=r1.2.2.2;letI u8:=u7.2.2.2;letI u9:=u8.2.2.2.2;
 .ob (Ct (u5.2.2.2.1,u6.1,u6.2.1,())) fun r2=>
 .leaf (a0.1,(([]:List YB)++a0.2.1),(([]:List YB)++a0.2.2.1),r1.1,r1.2.1,r1.2.2.1,u7.1,u7.2.1,u7.2.2.1,u8.1,u8.2.1,u8.2.2.1,u8.2.2.2.1,u9.1,u9.2.1,u9.2.2.1,u9.2.2.2.1,u9.2.2.2.2.1,r2.1,r2.2.1,r2.2.2.1,u6.2.2.1,u6.2.2.2.1,u6.2.2.2.2.1,())
def Sa (a0:A4):Option (A4):=(Z5 a0).val
def Am3 (a0:A4):Tree (A4):=
 .ob (Pk a0) fun r1=>
 .br (!r1.1) (
 .ob (Sa a0) fun r2=>
 .leaf r2) (
 .chk (decide (([]:List YB).length+a0.2.1.length≤4294967296)) <|
 .chk (decide (([]:List YB).length+a0.2.2.1.length≤4294967296)) <|
 .leaf (a0.1,(([]:List YB)++a0.2.1),(([]:List YB)++a0.2.2.1),(0:Int),([]:List YB),(0:Int),([]:List YB),(0:Int),(0:Int),([]:List YI),(0:Int),([]:List YB),(0:Int),(0:Int),([]:List YI),false,(0:Int),([]:List YB),(0:Int),(0:Int),([]:List Am),a0.2.2.2.2.2.2.2.2.2.2.2.2.2.2.2.2.2.2.2.2.2.1,(0:Int),true,()))
def Ado (a0:A4):Option (A4):=(Am3 a0).val
def Adp (a0:Av):Tree (A4×Av):=
 .ob (Z2 a0) fun r1=>letI u1:=r1.1.2.2;letI u2:=u1.2.2;letI u3:=u2.2.2;letI u4:=u3.2.2;letI u5:=u4.2.2;letI u6:=u5.2.2;letI u7:=u6.2.2;letI u8:=u7.2.2;letI u9:=u8.2.2;letI u10:=u9.2.2;letI u11:=u10.2.2;
 .ob (A9 (a0.1,r1.2.2.1,r1.2.2.2.1,()) ((22:Int),())) fun r2=>letI u12:=r2.2.2;
 .br (r2.1.1==(0:Int)) (
 .ob (Be (a0.1,u12.1,u12.2.1,()) ([((0:Int),()),((10:Int),())],())) fun r3=>
 .leaf ((r3.1.1,r1.1.2.1,u1.1,u1.2.1,u2.1,u2.2.1,u3.1,u3.2.1,u4.1,u4.2.1,u5.1,u5.2.1,u6.1,u6.2.1,u7.1,u7.2.1,u8.1,u8.2.1,u9.1,u9.2.1,u10.1,u10.2.1,u11.1,u11.2.1,()),(a0.1,r3.2.2.1,r3.2.2.2.1,()))) (
 .br (r2.1.1==(1:Int)) (
 .ob (B8 (a0.1,u12.1,u12.2.1,()) ((11:Int),())) fun r4=>
 .leaf ((r1.1.1,r4.1.1,u1.1,u1.2.1,u2.1,u2.2.1,u3.1,u3.2.1,u4.1,u4.2.1,u5.1,u5.2.1,u6.1,u6.2.1,u7.1,u7.2.1,u8.1,u8.2.1,u9.1,u9.2.1,u10.1,u10.2.1,u11.1,u11.2.1,()),(a0.1,r4.2.2.1,r4.2.2.2.1,()))) (
 .br (r2.1.1==(2:Int)) (
 .ob (Be (a0.1,u12.1,u12.2.1,()) ([((11:Int),()),((12:Int),())],())) fun r5=>
 .ob (B8 (a0.1,r5.2.2.1,r5.2.2.2.1,()) r5.1) fun r6=>
 .leaf ((r1.1.1,r1.1.2.1,r6.1.1,u1.2.1,u2.1,u2.2.1,u3.1,u3.2.1,u4.1,u4.2.1,u5.1,u5.2.1,u6.1,u6.2.1,u7.1,u7.2.1,u8.1,u8.2.1,u9.1,u9.2.1,u10.1,u10.2.1,u11.1,u11.2.1,()),(a0.1,r6.2.2.1,r6.2.2.2.1,()))) (
 .br (r2.1.1==(3:Int)) (
 .ob (Adg (a0.1,u12.1,u12.2.1,())) fun r7=>letI u13:=r7.1.2.2.2;letI u14:=u13.2.2.2;letI u15:=u14.2.2.2.2;
 .leaf ((r1.1.1,r1.1.2.1,u1.1,r7.1.1,r7.1.2.1,r7.1.2.2.1,u13.1,u13.2.1,u13.2.2.1,u14.1,u14.2.1,u14.2.2.1,u14.2.2.2.1,u15.1,u15.2.1,u15.2.2.1,u15.2.2.2.1,u15.2.2.2.2.1,u9.1,u9.2.1,u10.1,u10.2.1,u11.1,u11.2.1,()),(a0.1,r7.2.2.1,r7.2.2.2.1,()))) (
 .br (r2.1.1==(4:Int)) (
 .ob (Adk (a0.1,u12.1,u12.2.1,())) fun r8=>
 .leaf ((r1.1.1,r1.1.2.1,u1.1,u1.2.1,u2.1,u2.2.1,u3.1,u3.2.1,u4.1,u4.2.1,u5.1,u5.2.1,u6.1,u6.2.1,u7.1,u7.2.1,u8.1,u8.2.1,r8.1.1,r8.1.2.1,r8.1.2.2.1,u10.2.1,u11.1,u11.2.1,()),(a0.1,r8.2.2.1,r8.2.2.2.1,()))) (
 .br (r2.1.1==(5:Int)) (
 .ob (Be (a0.1,u12.1,u12.2.1,()) ([((-1:Int),()),((1000001:Int),())],())) fun r9=>
 .leaf ((r1.1.1,r1.1.2.1,u1.1,u1.2.1,u2.1,u2.2.1,u3.1,u3.2.1,u4.1,u4.2.1,u5.1,u5.2.1,u6.1,u6.2.1,u7.1,u7.2.1,u8.1,u8.2.1,u9.1,u9.2.1,u10.1,r9.1.1,u11.1,u11.2.1,()),(a0.1,r9.2.2.1,r9.2.2.2.1,()))) (
 .br (r2.1.1==(6:Int)) (
 .ob (Be (a0.1,u12.1,u12.2.1,()) ([((-1:Int),()),((1000001:Int),())],())) fun r10=>
 .leaf ((r1.1.1,r1.1.2.1,u1.1,u1.2.1,u2.1,u2.2.1,u3.1,u3.2.1,u4.1,u4.2.1,u5.1,u5.2.1,u6.1,u6.2.1,u7.1,u7.2.1,u8.1,u8.2.1,u9.1,u9.2.1,u10.1,u10.2.1,r10.1.1,u11.2.1,()),(a0.1,r10.2.2.1,r10.2.2.2.1,()))) (
 .br (r2.1.1==(7:Int)) (
 .leaf ((r1.1.1,r1.1.2.1,u1.1,u1.2.1,u2.1,u2.2.1,u3.1,u3.2.1,u4.1,u4.2.1,u5.1,u5.2.1,u6.1,u6.2.1,u7.1,u7.2.1,u8.1,u8.2.1,u9.1,u9.2.1,u10.1,u10.2.1,u11.1,true,()),(a0.1,u12.1,u12.2.1,()))) (
 .br (r2.1.1==(8:Int)) (
 .ob (Ado r1.1) fun r11=>
 .leaf (r11,(a0.1,u12.1,u12.2.1,()))) (
 .br (r2.1.1==(9:Int)) (
 .ob (Ado r1.1) fun r12=>
 .leaf (r12,(a0.1,u12.1,u12.2.1,()))) (
 .leaf (r1.1,(a0.1,u12.1,u12.2.1,()))))))))))))
def Adq (a0:Av):Option (A4×Av):=(Adp a0).val
def Adr (a0:Av):Tree (YI×YBs×Av):=
 .ob (A9 a0 ((6:Int),())) fun r1=>letI u1:=r1.2.2;
 .br (r1.1.1==(0:Int)) (
 .ob (A9 (a0.1,u1.1,u1.2.1,()) ((2:Int),())) fun r2=>
 .ob (B8 (a0.1,r2.2.2.1,r2.2.2.2.1,()) ((12:Int),())) fun r3=>
 .leaf (((i64.wrap ((5:Int)+r2.1.1)),()),r3.1,(a0.1,r3.2.2.1,r3.2.2.2.1,()))) (
 .br (r1.1.1==(1:Int)) (
 .ob (A9 (a0.1,u1.1,u1.2.1,()) ((2:Int),())) fun r4=>
 .ob (B8 (a0.1,r4.2.2.1,r4.2.2.2.1,()) ((4:Int),())) fun r5=>
 .leaf (((i64.wrap ((7:Int)+r4.1.1)),()),r5.1,(a0.1,r5.2.2.1,r5.2.2.2.1,()))) (
 .ob (Be (a0.1,u1.1,u1.2.1,()) ([((0:Int),()),((1:Int),()),((3:Int),()),((12:Int),()),((33:Int),()),((40:Int),())],())) fun r6=>
 .ob (B8 (a0.1,r6.2.2.1,r6.2.2.2.1,()) r6.1) fun r7=>
 .leaf (((4:Int),()),r7.1,(a0.1,r7.2.2.1,r7.2.2.2.1,()))))
def Ads (a0:Av):Option (YI×YBs×Av):=(Adr a0).val
def Adt (a0:YI) (a1:YBs) (a2:YI) (a3:YI):Tree (YBs):=
 .ob (Bk a0 ((0:Int),()) ((1:Int),())) fun r1=>
 .br (!r1.1) (
 .leaf (([]:List YB),())) (
 .br ((a1.1.length:Int) != (12:Int)) (
 .leaf (([]:List YB),())) (
 .ob (Bk a2 ((0:Int),()) ((4294967295:Int),())) fun r2=>
 .br (!r2.1) (
 .leaf (([]:List YB),())) (
 .ob (Bk a3 ((0:Int),()) ((281474976710655:Int),())) fun r3=>
 .br (!r3.1) (
 .leaf (([]:List YB),())) (
 .chk (decide ([((u8.wrap (a0.1)),())].length+a1.1.length≤4294967296)) <|
 .ob (Fp (([((u8.wrap (a0.1)),())]++a1.1),()) a2 ((4:Int),())) fun r4=>
 .ob (Fp r4 a3 ((6:Int),())) fun r5=>
 .leaf r5))))
def Mf (a0:YI) (a1:YBs) (a2:YI) (a3:YI):Option (YBs):=(Adt a0 a1 a2 a3).val
def Z6 (a0:YBs) (a1:YBs) (a2:YI):Tree (YBs):=
 .ob (Bk a2 ((0:Int),()) ((6:Int),())) fun r1=>
 .br (!r1.1) (
 .leaf (([]:List YB),())) (
 .br (decide ((a1.1.length:Int)>(100:Int))) (
 .leaf (([]:List YB),())) (
 .chk (decide ([((115:Int),())].length+a1.1.length≤4294967296)) <|
 .ob (Fp (([((115:Int),())]++a1.1),()) a2 ((4:Int),())) fun r2=>
 .ob (Q9 a0 r2) fun r3=>
 .leaf r3))
def Z7 (a0:YBs) (a1:YBs) (a2:YI):Option (YBs):=(Z6 a0 a1 a2).val
def I6 (x2:(List YB)×(List YB)×Int×(List YB)×Int×Unit):Option (((List YB)×(List YB)×Int×(List YB)×Int×Unit)⊕((Int×(List YB)×Unit))):=
 letI u1:=x2.2.2;Tree.val (α:=((List YB)×(List YB)×Int×(List YB)×Int×Unit)⊕((Int×(List YB)×Unit))) <|
 .br (decide ((x2.2.2.2.1.length:Int)<u1.1)) (
 .ob (Z7 (x2.1,()) (x2.2.1,()) (u1.2.2.1,())) fun r3=>
 .chk (decide (x2.2.2.2.1.length+r3.1.length≤4294967296)) <|
 .leaf (.inl (x2.1,x2.2.1,u1.1,(u1.2.1++r3.1),(i64.wrap (u1.2.2.1+(1:Int))),()))) (
 .leaf (.inr (u1.1,u1.2.1,())))
def Adu (a0:YBs) (a1:YBs) (a2:YI):Tree (YBs):=
 .ob (Bk a2 ((0:Int),()) ((200:Int),())) fun r1=>
 .br (!r1.1) (
 .leaf (([]:List YB),())) (
 .br (decide ((a1.1.length:Int)>(100:Int))) (
 .leaf (([]:List YB),())) (
 .br (decide ((a0.1.length:Int)>(1048576:Int))) (
 .leaf (([]:List YB),())) (
 .ob (Ay I6 (a0.1,a1.1,a2.1,([]:List YB),(0:Int),())) fun o4=>
 .chk (decide ((0:Int)≤o4.1)) <|
 .chk (decide (o4.1≤(o4.2.1.length:Int))) <|
 .chk (decide (([]:List YB).length+((o4.2.1.take (o4.1).toNat).drop ((0:Int)).toNat).length≤4294967296)) <|
 .leaf ((([]:List YB)++((o4.2.1.take (o4.1).toNat).drop ((0:Int)).toNat)),()))))
def Adv (a0:YBs) (a1:YBs) (a2:YI):Option (YBs):=(Adu a0 a1 a2).val
def On (x2:(List YB)×(List YB)×(List YB)×Int×Unit):Option (((List YB)×(List YB)×(List YB)×Int×Unit)⊕(YBs)):=
 letI u1:=x2.2.2;Tree.val (α:=((List YB)×(List YB)×(List YB)×Int×Unit)⊕(YBs)) <|
 .br (decide (u1.2.1<(x2.1.length:Int))) (
 .ob (idx x2.1 u1.2.1) fun e3=>
 .ob (idx u1.1 u1.2.1) fun e4=>
 .chk (decide (x2.2.1.length+[((u8.wrap ((BitVec.ofInt (u8.bits) (e3.1) ^^^ BitVec.ofInt (u8.bits) (e4.1)).toNat:Nat)),())].length≤4294967296)) <|
 .leaf (.inl (x2.1,(x2.2.1++[((u8.wrap ((BitVec.ofInt (u8.bits) (e3.1) ^^^ BitVec.ofInt (u8.bits) (e4.1)).toNat:Nat)),())]),u1.1,(i64.wrap (u1.2.1+(1:Int))),()))) (
 .leaf (.inr (x2.2.1,())))
def Arl (a0:YBs) (a1:YBs) (a2:YBs):Tree (YBs):=
 .br (decide ((a2.1.length:Int)>(200:Int))) (
 .leaf (([]:List YB),())) (
 .br (decide ((a1.1.length:Int)>(100:Int))) (
 .leaf (([]:List YB),())) (
 .br (decide ((a0.1.length:Int)>(1048576:Int))) (
 .leaf (([]:List YB),())) (
 .ob (Adv a0 a1 ((a2.1.length:Int),())) fun r1=>
 .ob (Ay On (a2.1,([]:List YB),r1.1,(0:Int),())) fun o5=>
 .leaf o5)))
def Aku (a0:YBs) (a1:YBs) (a2:YBs):Option (YBs):=(Arl a0 a1 a2).val
def Vs (a0:YI) (a1:Au):Tree (YBs):=
 letI u1:=a1.2.2.2.2.2.2.2;.ob (Bk a0 ((0:Int),()) ((1:Int),())) fun r1=>
 .br (!r1.1) (
 .leaf (([]:List YB),())) (
 .ob (Kk a1) fun r2=>
 .br (!r2.1) (
 .leaf (([]:List YB),())) (
 .ob (Jz (a1.1,())) fun r3=>
 .br (!r3.1) (
 .leaf (([]:List YB),())) (
 .ob (Mf a0 (a1.2.2.2.1,()) (u1.1,()) (u1.2.1,())) fun r4=>
 .chk (decide ([((116:Int),())].length+r4.1.length≤4294967296)) <|
 .chk (decide (([((116:Int),())]++r4.1).length+[((u8.wrap (a1.1)),())].length≤4294967296)) <|
 .chk (decide ((([((116:Int),())]++r4.1)++[((u8.wrap (a1.1)),())]).length+a1.2.2.2.2.2.2.2.2.2.1.length≤4294967296)) <|
 .leaf (((([((116:Int),())]++r4.1)++[((u8.wrap (a1.1)),())])++u1.2.2.1),()))))
def Hl (a0:YI) (a1:Au):Option (YBs):=(Vs a0 a1).val
def J0 (x5:(List YB)×Int×Int×Int×Int×(List YB)×(List YB)×Int×(List YB)×(List YB)×Int×Int×(List YB)×(List YB)×Int×Int×(List YB)×(List YB)×Int×(List YB)×(List YB)×Int×Int×(List YB)×(List YB)×Unit):Option (((List YB)×Int×Int×Int×Int×(List YB)×(List YB)×Int×(List YB)×(List YB)×Int×Int×(List YB)×(List YB)×Int×Int×(List YB)×(List YB)×Int×(List YB)×(List YB)×Int×Int×(List YB)×(List YB)×Unit)⊕(((List YB)×Int×Int×Int×(List YB)×(List YB)×Int×(List YB)×(List YB)×Int×Int×(List YB)×(List YB)×Int×Int×(List YB)×(List YB)×Int×(List YB)×(List YB)×Int×Int×(List YB)×(List YB)×Unit))):=
 letI u1:=x5.2.2;letI u2:=u1.2.2;letI u3:=u2.2.2;letI u4:=u3.2.2;letI u5:=u4.2.2;letI u6:=u5.2.2;letI u7:=u6.2.2;letI u8:=u7.2.2;letI u9:=u8.2.2;letI u10:=u9.2.2;letI u11:=u10.2.2;Tree.val (α:=((List YB)×Int×Int×Int×Int×(List YB)×(List YB)×Int×(List YB)×(List YB)×Int×Int×(List YB)×(List YB)×Int×Int×(List YB)×(List YB)×Int×(List YB)×(List YB)×Int×Int×(List YB)×(List YB)×Unit)⊕(((List YB)×Int×Int×Int×(List YB)×(List YB)×Int×(List YB)×(List YB)×Int×Int×(List YB)×(List YB)×Int×Int×(List YB)×(List YB)×Int×(List YB)×(List YB)×Int×Int×(List YB)×(List YB)×Unit))) <|
 .br (decide (u1.1<(16:Int))) (
 .chk (decide (x5.2.2.2.2.2.2.2.2.2.2.2.2.2.2.2.2.2.2.2.2.2.2.2.2.1.length+[((0:Int),())].length≤4294967296)) <|
 .leaf (.inl (x5.1,x5.2.1,(i64.wrap (u1.1+(1:Int))),u1.2.1,u2.1,u2.2.1,u3.1,u3.2.1,u4.1,u4.2.1,u5.1,u5.2.1,u6.1,u6.2.1,u7.1,u7.2.1,u8.1,u8.2.1,u9.1,u9.2.1,u10.1,u10.2.1,u11.1,u11.2.1,(u11.2.2.1++[((0:Int),())]),()))) (
 .leaf (.inr (x5.1,x5.2.1,u1.2.1,u2.1,u2.2.1,u3.1,u3.2.1,u4.1,u4.2.1,u5.1,u5.2.1,u6.1,u6.2.1,u7.1,u7.2.1,u8.1,u8.2.1,u9.1,u9.2.1,u10.1,u10.2.1,u11.1,u11.2.1,u11.2.2.1,())))
def Adw (a0:YBs) (a1:YI) (a2:YBs) (a3:YI) (a4:YI) (a5:YI) (a6:YBs):Tree (Au×(Bool×Unit)):=
 .ob (Mf a1 a2 a3 a4) fun r1=>
 .br ((a0.1.length:Int) != (32:Int)) (
 .leaf (((0:Int),(0:Int),([]:List YB),([]:List YB),(0:Int),([]:List YB),([]:List YB),(0:Int),(0:Int),([]:List YB),([]:List YB),()),(false,()))) (
 .br ((r1.1.length:Int)==(0:Int)) (
 .leaf (((0:Int),(0:Int),([]:List YB),([]:List YB),(0:Int),([]:List YB),([]:List YB),(0:Int),(0:Int),([]:List YB),([]:List YB),()),(false,()))) (
 .ob (Jz a5) fun r2=>
 .br (!r2.1) (
 .leaf (((0:Int),(0:Int),([]:List YB),([]:List YB),(0:Int),([]:List YB),([]:List YB),(0:Int),(0:Int),([]:List YB),([]:List YB),()),(false,()))) (
 .ob (Pa a5 ((a6.1.length:Int),())) fun r3=>
 .br (!r3.1) (
 .leaf (((0:Int),(0:Int),([]:List YB),([]:List YB),(0:Int),([]:List YB),([]:List YB),(0:Int),(0:Int),([]:List YB),([]:List YB),()),(false,()))) (
 .chk (decide (([]:List YB).length+a2.1.length≤4294967296)) <|
 .ob (Aku a0 r1 a6) fun r4=>
 .ob (Ay J0 (a0.1,a1.1,(0:Int),(0:Int),(0:Int),([]:List YB),([]:List YB),(0:Int),([]:List YB),([]:List YB),(0:Int),(0:Int),([]:List YB),([]:List YB),a5.1,(0:Int),([]:List YB),(([]:List YB)++a2.1),(0:Int),([]:List YB),([]:List YB),a3.1,a4.1,r4.1,([]:List YB),())) fun o6=>letI u1:=o6.2.2.2.2.2.2.2.2.2.2.2.2.2;letI u2:=u1.2.2;letI u3:=u2.2.2;letI u4:=u3.2.2;letI u5:=u4.2.2;
 .ob (Hl (o6.2.1,()) (u1.1,u1.2.1,u2.1,u2.2.1,u3.1,u3.2.1,u4.1,u4.2.1,u5.1,u5.2.1,u5.2.2.1,())) fun r7=>
 .ob (Abp (o6.1,()) r7) fun r8=>
 .leaf ((u1.1,u1.2.1,u2.1,u2.2.1,u3.1,u3.2.1,u4.1,u4.2.1,u5.1,u5.2.1,r8.1,()),(true,()))))))
def Bc (a0:YBs) (a1:YI) (a2:YBs) (a3:YI) (a4:YI) (a5:YI) (a6:YBs):Option (Au×(Bool×Unit)):=(Adw a0 a1 a2 a3 a4 a5 a6).val
def Adx (a0:Av) (a1:YBs):Tree (YBs×Av):=
 .chk (decide (([]:List YB).length+a1.1.length≤4294967296)) <|
 .ob (A9 a0 ((8:Int),())) fun r1=>letI u1:=r1.2.2;
 .br (r1.1.1==(0:Int)) (
 .br (decide (((([]:List YB)++a1.1).length:Int)>(0:Int))) (
 .ob (A9 (a0.1,u1.1,u1.2.1,()) (((([]:List YB)++a1.1).length:Int),())) fun r2=>
 .ob (idx (([]:List YB)++a1.1) r2.1.1) fun e3=>
 .ob (A9 (a0.1,r2.2.2.1,r2.2.2.2.1,()) ((255:Int),())) fun r4=>
 .ob (idx (([]:List YB)++a1.1) r2.1.1) fun e5=>
 let q6:=((([]:List YB)++a1.1).set (r2.1.1).toNat ((u8.wrap ((BitVec.ofInt (u8.bits) (e3.1) ^^^ BitVec.ofInt (u8.bits) ((u8.wrap ((i64.wrap ((1:Int)+r4.1.1)))))).toNat:Nat)),()))
 .leaf ((q6,()),(a0.1,r4.2.2.1,r4.2.2.2.1,()))) (
 .leaf (((([]:List YB)++a1.1),()),(a0.1,u1.1,u1.2.1,())))) (
 .br (r1.1.1==(1:Int)) (
 .br (decide (((([]:List YB)++a1.1).length:Int)>(0:Int))) (
 .ob (A9 (a0.1,u1.1,u1.2.1,()) (((([]:List YB)++a1.1).length:Int),())) fun r7=>
 .chk (decide ((0:Int)≤r7.1.1)) <|
 .chk (decide (r7.1.1≤((([]:List YB)++a1.1).length:Int))) <|
 .leaf (((((([]:List YB)++a1.1).take (r7.1.1).toNat).drop ((0:Int)).toNat),()),(a0.1,r7.2.2.1,r7.2.2.2.1,()))) (
 .leaf (((([]:List YB)++a1.1),()),(a0.1,u1.1,u1.2.1,())))) (
 .br (r1.1.1==(2:Int)) (
 .ob (Gv (a0.1,u1.1,u1.2.1,())) fun r8=>
 .chk (decide ((([]:List YB)++a1.1).length+[((u8.wrap (r8.1.1)),())].length≤4294967296)) <|
 .leaf ((((([]:List YB)++a1.1)++[((u8.wrap (r8.1.1)),())]),()),(a0.1,r8.2.2.1,r8.2.2.2.1,()))) (
 .leaf (((([]:List YB)++a1.1),()),(a0.1,u1.1,u1.2.1,())))))
def J1 (a0:Av) (a1:YBs):Option (YBs×Av):=(Adx a0 a1).val
def Ady (a0:Av) (a1:Au):Tree (Au×Av):=
 .ob (Ui a1) fun r1=>letI u1:=r1.2.2;letI u2:=u1.2.2;letI u3:=u2.2.2;letI u4:=u3.2.2;letI u5:=u4.2.2;
 .ob (A9 a0 ((14:Int),())) fun r2=>letI u6:=r2.2.2;
 .br (r2.1.1==(0:Int)) (
 .ob (Be (a0.1,u6.1,u6.2.1,()) ([((1:Int),()),((-1:Int),()),((7:Int),())],())) fun r3=>
 .leaf ((r1.1,r1.2.1,u1.1,u1.2.1,u2.1,u2.2.1,u3.1,u3.2.1,(i64.wrap (u4.1+r3.1.1)),u4.2.1,u5.1,()),(a0.1,r3.2.2.1,r3.2.2.2.1,()))) (
 .br (r2.1.1==(1:Int)) (
 .ob (Be (a0.1,u6.1,u6.2.1,()) ([((1:Int),()),((-1:Int),())],())) fun r4=>
 .leaf ((r1.1,r1.2.1,u1.1,u1.2.1,u2.1,u2.2.1,u3.1,(i64.wrap (u3.2.1+r4.1.1)),u4.1,u4.2.1,u5.1,()),(a0.1,r4.2.2.1,r4.2.2.2.1,()))) (
 .br (r2.1.1==(2:Int)) (
 .ob (J1 (a0.1,u6.1,u6.2.1,()) (u1.2.1,())) fun r5=>
 .leaf ((r1.1,r1.2.1,u1.1,r5.1.1,u2.1,u2.2.1,u3.1,u3.2.1,u4.1,u4.2.1,u5.1,()),(a0.1,r5.2.2.1,r5.2.2.2.1,()))) (
 .br (r2.1.1==(3:Int)) (
 .ob (J1 (a0.1,u6.1,u6.2.1,()) (u4.2.1,())) fun r6=>
 .leaf ((r1.1,r1.2.1,u1.1,u1.2.1,u2.1,u2.2.1,u3.1,u3.2.1,u4.1,r6.1.1,u5.1,()),(a0.1,r6.2.2.1,r6.2.2.2.1,()))) (
 .br (r2.1.1==(4:Int)) (
 .ob (J1 (a0.1,u6.1,u6.2.1,()) (u4.2.1,())) fun r7=>
 .leaf ((r1.1,r1.2.1,u1.1,u1.2.1,u2.1,u2.2.1,u3.1,u3.2.1,u4.1,r7.1.1,u5.1,()),(a0.1,r7.2.2.1,r7.2.2.2.1,()))) (
 .br (r2.1.1==(5:Int)) (
 .ob (J1 (a0.1,u6.1,u6.2.1,()) (u5.1,())) fun r8=>
 .leaf ((r1.1,r1.2.1,u1.1,u1.2.1,u2.1,u2.2.1,u3.1,u3.2.1,u4.1,u4.2.1,r8.1.1,()),(a0.1,r8.2.2.1,r8.2.2.2.1,()))) (
 .br (r2.1.1==(6:Int)) (
 .ob (J1 (a0.1,u6.1,u6.2.1,()) (u5.1,())) fun r9=>
 .leaf ((r1.1,r1.2.1,u1.1,u1.2.1,u2.1,u2.2.1,u3.1,u3.2.1,u4.1,u4.2.1,r9.1.1,()),(a0.1,r9.2.2.1,r9.2.2.2.1,()))) (
 .br (r2.1.1==(7:Int)) (
 .ob (A9 (a0.1,u6.1,u6.2.1,()) ((10:Int),())) fun r10=>
 .leaf ((r10.1.1,r1.2.1,u1.1,u1.2.1,u2.1,u2.2.1,u3.1,u3.2.1,u4.1,u4.2.1,u5.1,()),(a0.1,r10.2.2.1,r10.2.2.2.1,()))) (
 .leaf (r1,(a0.1,u6.1,u6.2.1,()))))))))))
def Bf (a0:Av) (a1:Au):Option (Au×Av):=(Ady a0 a1).val
def Vt (a0:Av) (a1:Aj):Tree (Au×Av):=
 letI u1:=a1.2.2;letI u2:=u1.2.2.2;letI u3:=u2.2.2;letI u4:=u3.2.2.2;letI u5:=u4.2.2.2.2;.ob (Ads a0) fun r1=>letI u6:=r1.2.2.2;
 .br u4.2.2.1 (
 .ob (Ao (a0.1,u6.1,u6.2.1,()) ((3:Int),())) fun r2=>letI u7:=r2.2.2;
 .br r2.1.1 (
 .br (decide ((a1.2.2.2.2.2.2.2.2.2.2.2.2.2.2.1.length:Int)>(0:Int))) (
 .ob (Ao (a0.1,u7.1,u7.2.1,()) ((2:Int),())) fun r3=>
 .br r3.1.1 (
 .ob (Dx ((i64.wrap (u1.1+(1:Int))),()) (u5.1,())) fun r4=>
 .ob (Be (a0.1,r3.2.2.1,r3.2.2.2.1,()) ([((1:Int),()),((1:Int),()),((2:Int),()),((0:Int),()),((-1:Int),()),((5:Int),())],())) fun r5=>
 .br (decide ((i64.wrap (r4.2.2.2.1+r5.1.1))<(0:Int))) (
 .ob (Ao (a0.1,r5.2.2.1,r5.2.2.2.1,()) ((10:Int),())) fun r6=>
 .br r6.1.1 (
 .ob (Bc (r4.2.1,()) (a1.1,()) (a1.2.1,()) (r4.1,()) ((0:Int),()) r1.1 r1.2.1) fun r7=>
 .ob (Ao (a0.1,r6.2.2.1,r6.2.2.2.1,()) ((5:Int),())) fun r8=>
 .br r8.1.1 (
 .ob (Bf (a0.1,r8.2.2.1,r8.2.2.2.1,()) r7.1) fun r9=>
 .leaf (r9.1,(a0.1,r9.2.2.1,r9.2.2.2.1,()))) (
 .leaf (r7.1,(a0.1,r8.2.2.1,r8.2.2.2.1,())))) (
 .ob (Bc (r4.2.1,()) ((i64.wrap ((1:Int)-a1.1)),()) (a1.2.1,()) (r4.1,()) ((0:Int),()) r1.1 r1.2.1) fun r10=>
 .ob (Ao (a0.1,r6.2.2.1,r6.2.2.2.1,()) ((5:Int),())) fun r11=>
 .br r11.1.1 (
 .ob (Bf (a0.1,r11.2.2.1,r11.2.2.2.1,()) r10.1) fun r12=>
 .leaf (r12.1,(a0.1,r12.2.2.1,r12.2.2.2.1,()))) (
 .leaf (r10.1,(a0.1,r11.2.2.1,r11.2.2.2.1,()))))) (
 .ob (Ao (a0.1,r5.2.2.1,r5.2.2.2.1,()) ((10:Int),())) fun r13=>
 .br r13.1.1 (
 .ob (Bc (r4.2.1,()) (a1.1,()) (a1.2.1,()) (r4.1,()) ((i64.wrap (r4.2.2.2.1+r5.1.1)),()) r1.1 r1.2.1) fun r14=>
 .ob (Ao (a0.1,r13.2.2.1,r13.2.2.2.1,()) ((5:Int),())) fun r15=>
 .br r15.1.1 (
 .ob (Bf (a0.1,r15.2.2.1,r15.2.2.2.1,()) r14.1) fun r16=>
 .leaf (r16.1,(a0.1,r16.2.2.1,r16.2.2.2.1,()))) (
 .leaf (r14.1,(a0.1,r15.2.2.1,r15.2.2.2.1,())))) (
 .ob (Bc (r4.2.1,()) ((i64.wrap ((1:Int)-a1.1)),()) (a1.2.1,()) (r4.1,()) ((i64.wrap (r4.2.2.2.1+r5.1.1)),()) r1.1 r1.2.1) fun r17=>
 .ob (Ao (a0.1,r13.2.2.1,r13.2.2.2.1,()) ((5:Int),())) fun r18=>
 .br r18.1.1 (
 .ob (Bf (a0.1,r18.2.2.1,r18.2.2.2.1,()) r17.1) fun r19=>
 .leaf (r19.1,(a0.1,r19.2.2.1,r19.2.2.2.1,()))) (
 .leaf (r17.1,(a0.1,r18.2.2.1,r18.2.2.2.1,())))))) (
 .ob (Be (a0.1,r3.2.2.1,r3.2.2.2.1,()) ([((1:Int),()),((1:Int),()),((2:Int),()),((0:Int),()),((-1:Int),()),((5:Int),())],())) fun r20=>
 .br (decide ((i64.wrap (u4.1+r20.1.1))<(0:Int))) (
 .ob (Ao (a0.1,r20.2.2.1,r20.2.2.2.1,()) ((10:Int),())) fun r21=>
 .br r21.1.1 (
 .ob (Bc (u3.2.1,()) (a1.1,()) (a1.2.1,()) (u3.1,()) ((0:Int),()) r1.1 r1.2.1) fun r22=>
 .ob (Ao (a0.1,r21.2.2.1,r21.2.2.2.1,()) ((5:Int),())) fun r23=>
 .br r23.1.1 (
 .ob (Bf (a0.1,r23.2.2.1,r23.2.2.2.1,()) r22.1) fun r24=>
 .leaf (r24.1,(a0.1,r24.2.2.1,r24.2.2.2.1,()))) (
 .leaf (r22.1,(a0.1,r23.2.2.1,r23.2.2.2.1,())))) (
 .ob (Bc (u3.2.1,()) ((i64.wrap ((1:Int)-a1.1)),()) (a1.2.1,()) (u3.1,()) ((0:Int),()) r1.1 r1.2.1) fun r25=>
 .ob (Ao (a0.1,r21.2.2.1,r21.2.2.2.1,()) ((5:Int),())) fun r26=>
 .br r26.1.1 (
 .ob (Bf (a0.1,r26.2.2.1,r26.2.2.2.1,()) r25.1) fun r27=>
 .leaf (r27.1,(a0.1,r27.2.2.1,r27.2.2.2.1,()))) (
 .leaf (r25.1,(a0.1,r26.2.2.1,r26.2.2.2.1,()))))) (
 .ob (Ao (a0.1,r20.2.2.1,r20.2.2.2.1,()) ((10:Int),())) fun r28=>
 .br r28.1.1 (
 .ob (Bc (u3.2.1,()) (a1.1,()) (a1.2.1,()) (u3.1,()) ((i64.wrap (u4.1+r20.1.1)),()) r1.1 r1.2.1) fun r29=>
 .ob (Ao (a0.1,r28.2.2.1,r28.2.2.2.1,()) ((5:Int),())) fun r30=>
 .br r30.1.1 (
 .ob (Bf (a0.1,r30.2.2.1,r30.2.2.2.1,()) r29.1) fun r31=>
 .leaf (r31.1,(a0.1,r31.2.2.1,r31.2.2.2.1,()))) (
 .leaf (r29.1,(a0.1,r30.2.2.1,r30.2.2.2.1,())))) (
 .ob (Bc (u3.2.1,()) ((i64.wrap ((1:Int)-a1.1)),()) (a1.2.1,()) (u3.1,()) ((i64.wrap (u4.1+r20.1.1)),()) r1.1 r1.2.1) fun r32=>
 .ob (Ao (a0.1,r28.2.2.1,r28.2.2.2.1,()) ((5:Int),())) fun r33=>
 .br r33.1.1 (
 .ob (Bf (a0.1,r33.2.2.1,r33.2.2.2.1,()) r32.1) fun r34=>
 .leaf (r34.1,(a0.1,r34.2.2.1,r34.2.2.2.1,()))) (
 .leaf (r32.1,(a0.1,r33.2.2.1,r33.2.2.2.1,()))))))) (
 .ob (Be (a0.1,u7.1,u7.2.1,()) ([((1:Int),()),((1:Int),()),((2:Int),()),((0:Int),()),((-1:Int),()),((5:Int),())],())) fun r35=>
 .br (decide ((i64.wrap (u4.1+r35.1.1))<(0:Int))) (
 .ob (Ao (a0.1,r35.2.2.1,r35.2.2.2.1,()) ((10:Int),())) fun r36=>
 .br r36.1.1 (
 .ob (Bc (u3.2.1,()) (a1.1,()) (a1.2.1,()) (u3.1,()) ((0:Int),()) r1.1 r1.2.1) fun r37=>
 .ob (Ao (a0.1,r36.2.2.1,r36.2.2.2.1,()) ((5:Int),())) fun r38=>
 .br r38.1.1 (
 .ob (Bf (a0.1,r38.2.2.1,r38.2.2.2.1,()) r37.1) fun r39=>
 .leaf (r39.1,(a0.1,r39.2.2.1,r39.2.2.2.1,()))) (
 .leaf (r37.1,(a0.1,r38.2.2.1,r38.2.2.2.1,())))) (
 .ob (Bc (u3.2.1,()) ((i64.wrap ((1:Int)-a1.1)),()) (a1.2.1,()) (u3.1,()) ((0:Int),()) r1.1 r1.2.1) fun r40=>
 .ob (Ao (a0.1,r36.2.2.1,r36.2.2.2.1,()) ((5:Int),())) fun r41=>
 .br r41.1.1 (
 .ob (Bf (a0.1,r41.2.2.1,r41.2.2.2.1,()) r40.1) fun r42=>
 .leaf (r42.1,(a0.1,r42.2.2.1,r42.2.2.2.1,()))) (
 .leaf (r40.1,(a0.1,r41.2.2.1,r41.2.2.2.1,()))))) (
 .ob (Ao (a0.1,r35.2.2.1,r35.2.2.2.1,()) ((10:Int),())) fun r43=>
 .br r43.1.1 (
 .ob (Bc (u3.2.1,()) (a1.1,()) (a1.2.1,()) (u3.1,()) ((i64.wrap (u4.1+r35.1.1)),()) r1.1 r1.2.1) fun r44=>
 .ob (Ao (a0.1,r43.2.2.1,r43.2.2.2.1,()) ((5:Int),())) fun r45=>
 .br r45.1.1 (
 .ob (Bf (a0.1,r45.2.2.1,r45.2.2.2.1,()) r44.1) fun r46=>
 .leaf (r46.1,(a0.1,r46.2.2.1,r46.2.2.2.1,()))) (
 .leaf (r44.1,(a0.1,r45.2.2.1,r45.2.2.2.1,())))) (
 .ob (Bc (u3.2.1,()) ((i64.wrap ((1:Int)-a1.1)),()) (a1.2.1,()) (u3.1,()) ((i64.wrap (u4.1+r35.1.1)),()) r1.1 r1.2.1) fun r47=>
 .ob (Ao (a0.1,r43.2.2.1,r43.2.2.2.1,()) ((5:Int),())) fun r48=>
 .br r48.1.1 (
 .ob (Bf (a0.1,r48.2.2.1,r48.2.2.2.1,()) r47.1) fun r49=>
 .leaf (r49.1,(a0.1,r49.2.2.1,r49.2.2.2.1,()))) (
 .leaf (r47.1,(a0.1,r48.2.2.1,r48.2.2.2.1,()))))))) (
 .br (decide ((a1.2.2.2.2.2.2.2.2.2.2.2.2.2.2.1.length:Int)>(0:Int))) (
 .ob (Ao (a0.1,u7.1,u7.2.1,()) ((2:Int),())) fun r50=>
 .br r50.1.1 (
 .ob (Dx ((i64.wrap (u1.1+(1:Int))),()) (u5.1,())) fun r51=>
 .ob (Be (a0.1,r50.2.2.1,r50.2.2.2.1,()) ([((1:Int),()),((1:Int),()),((2:Int),()),((0:Int),()),((-1:Int),()),((5:Int),())],())) fun r52=>
 .br (decide ((i64.wrap (r51.2.2.2.1+r52.1.1))<(0:Int))) (
 .ob (Ao (a0.1,r52.2.2.1,r52.2.2.2.1,()) ((10:Int),())) fun r53=>
 .br r53.1.1 (
 .ob (Bc (r51.2.1,()) (a1.1,()) (a1.2.1,()) (r51.1,()) ((0:Int),()) r1.1 r1.2.1) fun r54=>
 .ob (Ao (a0.1,r53.2.2.1,r53.2.2.2.1,()) ((5:Int),())) fun r55=>
 .br r55.1.1 (
 .ob (Bf (a0.1,r55.2.2.1,r55.2.2.2.1,()) r54.1) fun r56=>
 .leaf (r56.1,(a0.1,r56.2.2.1,r56.2.2.2.1,()))) (
 .leaf (r54.1,(a0.1,r55.2.2.1,r55.2.2.2.1,())))) (
 .ob (Bc (r51.2.1,()) ((i64.wrap ((1:Int)-a1.1)),()) (a1.2.1,()) (r51.1,()) ((0:Int),()) r1.1 r1.2.1) fun r57=>
 .ob (Ao (a0.1,r53.2.2.1,r53.2.2.2.1,()) ((5:Int),())) fun r58=>
 .br r58.1.1 (
 .ob (Bf (a0.1,r58.2.2.1,r58.2.2.2.1,()) r57.1) fun r59=>
 .leaf (r59.1,(a0.1,r59.2.2.1,r59.2.2.2.1,()))) (
 .leaf (r57.1,(a0.1,r58.2.2.1,r58.2.2.2.1,()))))) (
 .ob (Ao (a0.1,r52.2.2.1,r52.2.2.2.1,()) ((10:Int),())) fun r60=>
 .br r60.1.1 (
 .ob (Bc (r51.2.1,()) (a1.1,()) (a1.2.1,()) (r51.1,()) ((i64.wrap (r51.2.2.2.1+r52.1.1)),()) r1.1 r1.2.1) fun r61=>
 .ob (Ao (a0.1,r60.2.2.1,r60.2.2.2.1,()) ((5:Int),())) fun r62=>
 .br r62.1.1 (
 .ob (Bf (a0.1,r62.2.2.1,r62.2.2.2.1,()) r61.1) fun r63=>
 .leaf (r63.1,(a0.1,r63.2.2.1,r63.2.2.2.1,()))) (
 .leaf (r61.1,(a0.1,r62.2.2.1,r62.2.2.2.1,())))) (
 .ob (Bc (r51.2.1,()) ((i64.wrap ((1:Int)-a1.1)),()) (a1.2.1,()) (r51.1,()) ((i64.wrap (r51.2.2.2.1+r52.1.1)),()) r1.1 r1.2.1) fun r64=>
 .ob (Ao (a0.1,r60.2.2.1,r60.2.2.2.1,()) ((5:Int),())) fun r65=>
 .br r65.1.1 (
 .ob (Bf (a0.1,r65.2.2.1,r65.2.2.2.1,()) r64.1) fun r66=>
 .leaf (r66.1,(a0.1,r66.2.2.1,r66.2.2.2.1,()))) (
 .leaf (r64.1,(a0.1,r65.2.2.1,r65.2.2.2.1,())))))) (
 .ob (Be (a0.1,r50.2.2.1,r50.2.2.2.1,()) ([((1:Int),()),((1:Int),()),((2:Int),()),((0:Int),()),((-1:Int),()),((5:Int),())],())) fun r67=>
 .br (decide ((i64.wrap (u2.1+r67.1.1))<(0:Int))) (
 .ob (Ao (a0.1,r67.2.2.1,r67.2.2.2.1,()) ((10:Int),())) fun r68=>
 .br r68.1.1 (
 .ob (Bc (u1.2.1,()) (a1.1,()) (a1.2.1,()) (u1.1,()) ((0:Int),()) r1.1 r1.2.1) fun r69=>
 .ob (Ao (a0.1,r68.2.2.1,r68.2.2.2.1,()) ((5:Int),())) fun r70=>
 .br r70.1.1 (
 .ob (Bf (a0.1,r70.2.2.1,r70.2.2.2.1,()) r69.1) fun r71=>
 .leaf (r71.1,(a0.1,r71.2.2.1,r71.2.2.2.1,()))) (
 .leaf (r69.1,(a0.1,r70.2.2.1,r70.2.2.2.1,())))) (
 .ob (Bc (u1.2.1,()) ((i64.wrap ((1:Int)-a1.1)),()) (a1.2.1,()) (u1.1,()) ((0:Int),()) r1.1 r1.2.1) fun r72=>
 .ob (Ao (a0.1,r68.2.2.1,r68.2.2.2.1,()) ((5:Int),())) fun r73=>
 .br r73.1.1 (
 .ob (Bf (a0.1,r73.2.2.1,r73.2.2.2.1,()) r72.1) fun r74=>
 .leaf (r74.1,(a0.1,r74.2.2.1,r74.2.2.2.1,()))) (
 .leaf (r72.1,(a0.1,r73.2.2.1,r73.2.2.2.1,()))))) (
 .ob (Ao (a0.1,r67.2.2.1,r67.2.2.2.1,()) ((10:Int),())) fun r75=>
 .br r75.1.1 (
 .ob (Bc (u1.2.1,()) (a1.1,()) (a1.2.1,()) (u1.1,()) ((i64.wrap (u2.1+r67.1.1)),()) r1.1 r1.2.1) fun r76=>
 .ob (Ao (a0.1,r75.2.2.1,r75.2.2.2.1,()) ((5:Int),())) fun r77=>
 .br r77.1.1 (
 .ob (Bf (a0.1,r77.2.2.1,r77.2.2.2.1,()) r76.1) fun r78=>
 .leaf (r78.1,(a0.1,r78.2.2.1,r78.2.2.2.1,()))) (
 .leaf (r76.1,(a0.1,r77.2.2.1,r77.2.2.2.1,())))) (
 .ob (Bc (u1.2.1,()) ((i64.wrap ((1:Int)-a1.1)),()) (a1.2.1,()) (u1.1,()) ((i64.wrap (u2.1+r67.1.1)),()) r1.1 r1.2.1) fun r79=>
 .ob (Ao (a0.1,r75.2.2.1,r75.2.2.2.1,()) ((5:Int),())) fun r80=>
 .br r80.1.1 (
 .ob (Bf (a0.1,r80.2.2.1,r80.2.2.2.1,()) r79.1) fun r81=>
 .leaf (r81.1,(a0.1,r81.2.2.1,r81.2.2.2.1,()))) (
 .leaf (r79.1,(a0.1,r80.2.2.1,r80.2.2.2.1,()))))))) (
 .ob (Be (a0.1,u7.1,u7.2.1,()) ([((1:Int),()),((1:Int),()),((2:Int),()),((0:Int),()),((-1:Int),()),((5:Int),())],())) fun r82=>
 .br (decide ((i64.wrap (u2.1+r82.1.1))<(0:Int))) (
 .ob (Ao (a0.1,r82.2.2.1,r82.2.2.2.1,()) ((10:Int),())) fun r83=>
 .br r83.1.1 (
 .ob (Bc (u1.2.1,()) (a1.1,()) (a1.2.1,()) (u1.1,()) ((0:Int),()) r1.1 r1.2.1) fun r84=>
 .ob (Ao (a0.1,r83.2.2.1,r83.2.2.2.1,()) ((5:Int),())) fun r85=>
 .br r85.1.1 (
 .ob (Bf (a0.1,r85.2.2.1,r85.2.2.2.1,()) r84.1) fun r86=>
 .leaf (r86.1,(a0.1,r86.2.2.1,r86.2.2.2.1,()))) (
 .leaf (r84.1,(a0.1,r85.2.2.1,r85.2.2.2.1,())))) (
 .ob (Bc (u1.2.1,()) ((i64.wrap ((1:Int)-a1.1)),()) (a1.2.1,()) (u1.1,()) ((0:Int),()) r1.1 r1.2.1) fun r87=>
 .ob (Ao (a0.1,r83.2.2.1,r83.2.2.2.1,()) ((5:Int),())) fun r88=>
 .br r88.1.1 (
 .ob (Bf (a0.1,r88.2.2.1,r88.2.2.2.1,()) r87.1) fun r89=>
 .leaf (r89.1,(a0.1,r89.2.2.1,r89.2.2.2.1,()))) (
 .leaf (r87.1,(a0.1,r88.2.2.1,r88.2.2.2.1,()))))) (
 .ob (Ao (a0.1,r82.2.2.1,r82.2.2.2.1,()) ((10:Int),())) fun r90=>
 .br r90.1.1 (
 .ob (Bc (u1.2.1,()) (a1.1,()) (a1.2.1,()) (u1.1,()) ((i64.wrap (u2.1+r82.1.1)),()) r1.1 r1.2.1) fun r91=>
 .ob (Ao (a0.1,r90.2.2.1,r90.2.2.2.1,()) ((5:Int),())) fun r92=>
 .br r92.1.1 (
 .ob (Bf (a0.1,r92.2.2.1,r92.2.2.2.1,()) r91.1) fun r93=>
 .leaf (r93.1,(a0.1,r93.2.2.1,r93.2.2.2.1,()))) (
 .leaf (r91.1,(a0.1,r92.2.2.1,r92.2.2.2.1,())))) (
 .ob (Bc (u1.2.1,()) ((i64.wrap ((1:Int)-a1.1)),()) (a1.2.1,()) (u1.1,()) ((i64.wrap (u2.1+r82.1.1)),()) r1.1 r1.2.1) fun r94=>
 .ob (Ao (a0.1,r90.2.2.1,r90.2.2.2.1,()) ((5:Int),())) fun r95=>
 .br r95.1.1 (
 .ob (Bf (a0.1,r95.2.2.1,r95.2.2.2.1,()) r94.1) fun r96=>
 .leaf (r96.1,(a0.1,r96.2.2.1,r96.2.2.2.1,()))) (
 .leaf (r94.1,(a0.1,r95.2.2.1,r95.2.2.2.1,())))))))) (
 .br (decide ((a1.2.2.2.2.2.2.2.2.2.2.2.2.2.2.1.length:Int)>(0:Int))) (
 .ob (Ao (a0.1,u6.1,u6.2.1,()) ((2:Int),())) fun r97=>
 .br r97.1.1 (
 .ob (Dx ((i64.wrap (u1.1+(1:Int))),()) (u5.1,())) fun r98=>
 .ob (Be (a0.1,r97.2.2.1,r97.2.2.2.1,()) ([((1:Int),()),((1:Int),()),((2:Int),()),((0:Int),()),((-1:Int),()),((5:Int),())],())) fun r99=>
 .br (decide ((i64.wrap (r98.2.2.2.1+r99.1.1))<(0:Int))) (
 .ob (Ao (a0.1,r99.2.2.1,r99.2.2.2.1,()) ((10:Int),())) fun r100=>
 .br r100.1.1 (
 .ob (Bc (r98.2.1,()) (a1.1,()) (a1.2.1,()) (r98.1,()) ((0:Int),()) r1.1 r1.2.1) fun r101=>
 .ob (Ao (a0.1,r100.2.2.1,r100.2.2.2.1,()) ((5:Int),())) fun r102=>
 .br r102.1.1 (
 .ob (Bf (a0.1,r102.2.2.1,r102.2.2.2.1,()) r101.1) fun r103=>
 .leaf (r103.1,(a0.1,r103.2.2.1,r103.2.2.2.1,()))) (
 .leaf (r101.1,(a0.1,r102.2.2.1,r102.2.2.2.1,())))) (
 .ob (Bc (r98.2.1,()) ((i64.wrap ((1:Int)-a1.1)),()) (a1.2.1,()) (r98.1,()) ((0:Int),()) r1.1 r1.2.1) fun r104=>
 .ob (Ao (a0.1,r100.2.2.1,r100.2.2.2.1,()) ((5:Int),())) fun r105=>
 .br r105.1.1 (
 .ob (Bf (a0.1,r105.2.2.1,r105.2.2.2.1,()) r104.1) fun r106=>
 .leaf (r106.1,(a0.1,r106.2.2.1,r106.2.2.2.1,()))) (
 .leaf (r104.1,(a0.1,r105.2.2.1,r105.2.2.2.1,()))))) (
 .ob (Ao (a0.1,r99.2.2.1,r99.2.2.2.1,()) ((10:Int),())) fun r107=>
 .br r107.1.1 (
 .ob (Bc (r98.2.1,()) (a1.1,()) (a1.2.1,()) (r98.1,()) ((i64.wrap (r98.2.2.2.1+r99.1.1)),()) r1.1 r1.2.1) fun r108=>
 .ob (Ao (a0.1,r107.2.2.1,r107.2.2.2.1,()) ((5:Int),())) fun r109=>
 .br r109.1.1 (
 .ob (Bf (a0.1,r109.2.2.1,r109.2.2.2.1,()) r108.1) fun r110=>
 .leaf (r110.1,(a0.1,r110.2.2.1,r110.2.2.2.1,()))) (
 .leaf (r108.1,(a0.1,r109.2.2.1,r109.2.2.2.1,())))) (
 .ob (Bc (r98.2.1,()) ((i64.wrap ((1:Int)-a1.1)),()) (a1.2.1,()) (r98.1,()) ((i64.wrap (r98.2.2.2.1+r99.1.1)),()) r1.1 r1.2.1) fun r111=>
 .ob (Ao (a0.1,r107.2.2.1,r107.2.2.2.1,()) ((5:Int),())) fun r112=>
 .br r112.1.1 (
 .ob (Bf (a0.1,r112.2.2.1,r112.2.2.2.1,()) r111.1) fun r113=>
 .leaf (r113.1,(a0.1,r113.2.2.1,r113.2.2.2.1,()))) (
 .leaf (r111.1,(a0.1,r112.2.2.1,r112.2.2.2.1,())))))) (
 .ob (Be (a0.1,r97.2.2.1,r97.2.2.2.1,()) ([((1:Int),()),((1:Int),()),((2:Int),()),((0:Int),()),((-1:Int),()),((5:Int),())],())) fun r114=>
 .br (decide ((i64.wrap (u2.1+r114.1.1))<(0:Int))) (
 .ob (Ao (a0.1,r114.2.2.1,r114.2.2.2.1,()) ((10:Int),())) fun r115=>
 .br r115.1.1 (
 .ob (Bc (u1.2.1,()) (a1.1,()) (a1.2.1,()) (u1.1,()) ((0:Int),()) r1.1 r1.2.1) fun r116=>
 .ob (Ao (a0.1,r115.2.2.1,r115.2.2.2.1,()) ((5:Int),())) fun r117=>
 .br r117.1.1 (
 .ob (Bf (a0.1,r117.2.2.1,r117.2.2.2.1,()) r116.1) fun r118=>
 .leaf (r118.1,(a0.1,r118.2.2.1,r118.2.2.2.1,()))) (
 .leaf (r116.1,(a0.1,r117.2.2.1,r117.2.2.2.1,())))) (
 .ob (Bc (u1.2.1,()) ((i64.wrap ((1:Int)-a1.1)),()) (a1.2.1,()) (u1.1,()) ((0:Int),()) r1.1 r1.2.1) fun r119=>
 .ob (Ao (a0.1,r115.2.2.1,r115.2.2.2.1,()) ((5:Int),())) fun r120=>
 .br r120.1.1 (
 .ob (Bf (a0.1,r120.2.2.1,r120.2.2.2.1,()) r119.1) fun r121=>
 .leaf (r121.1,(a0.1,r121.2.2.1,r121.2.2.2.1,()))) (
 .leaf (r119.1,(a0.1,r120.2.2.1,r120.2.2.2.1,()))))) (
 .ob (Ao (a0.1,r114.2.2.1,r114.2.2.2.1,()) ((10:Int),())) fun r122=>
 .br r122.1.1 (
 .ob (Bc (u1.2.1,()) (a1.1,()) (a1.2.1,()) (u1.1,()) ((i64.wrap (u2.1+r114.1.1)),()) r1.1 r1.2.1) fun r123=>
 .ob (Ao (a0.1,r122.2.2.1,r122.2.2.2.1,()) ((5:Int),())) fun r124=>
 .br r124.1.1 (
 .ob (Bf (a0.1,r124.2.2.1,r124.2.2.2.1,()) r123.1) fun r125=>
 .leaf (r125.1,(a0.1,r125.2.2.1,r125.2.2.2.1,()))) (
 .leaf (r123.1,(a0.1,r124.2.2.1,r124.2.2.2.1,())))) (
 .ob (Bc (u1.2.1,()) ((i64.wrap ((1:Int)-a1.1)),()) (a1.2.1,()) (u1.1,()) ((i64.wrap (u2.1+r114.1.1)),()) r1.1 r1.2.1) fun r126=>
 .ob (Ao (a0.1,r122.2.2.1,r122.2.2.2.1,()) ((5:Int),())) fun r127=>
 .br r127.1.1 (
 .ob (Bf (a0.1,r127.2.2.1,r127.2.2.2.1,()) r126.1) fun r128=>
 .leaf (r128.1,(a0.1,r128.2.2.1,r128.2.2.2.1,()))) (
 .leaf (r126.1,(a0.1,r127.2.2.1,r127.2.2.2.1,()))))))) (
 .ob (Be (a0.1,u6.1,u6.2.1,()) ([((1:Int),()),((1:Int),()),((2:Int),()),((0:Int),()),((-1:Int),()),((5:Int),())],())) fun r129=>
 .br (decide ((i64.wrap (u2.1+r129.1.1))<(0:Int))) (
 .ob (Ao (a0.1,r129.2.2.1,r129.2.2.2.1,()) ((10:Int),())) fun r130=>
 .br r130.1.1 (
 .ob (Bc (u1.2.1,()) (a1.1,()) (a1.2.1,()) (u1.1,()) ((0:Int),()) r1.1 r1.2.1) fun r131=>
 .ob (Ao (a0.1,r130.2.2.1,r130.2.2.2.1,()) ((5:Int),())) fun r132=>
 .br r132.1.1 (
 .ob (Bf (a0.1,r132.2.2.1,r132.2.2.2.1,()) r131.1) fun r133=>
 .leaf (r133.1,(a0.1,r133.2.2.1,r133.2.2.2.1,()))) (
 .leaf (r131.1,(a0.1,r132.2.2.1,r132.2.2.2.1,())))) (
 .ob (Bc (u1.2.1,()) ((i64.wrap ((1:Int)-a1.1)),()) (a1.2.1,()) (u1.1,()) ((0:Int),()) r1.1 r1.2.1) fun r134=>
 .ob (Ao (a0.1,r130.2.2.1,r130.2.2.2.1,()) ((5:Int),())) fun r135=>
 .br r135.1.1 (
 .ob (Bf (a0.1,r135.2.2.1,r135.2.2.2.1,()) r134.1) fun r136=>
 .leaf (r136.1,(a0.1,r136.2.2.1,r136.2.2.2.1,()))) (
 .leaf (r134.1,(a0.1,r135.2.2.1,r135.2.2.2.1,()))))) (
 .ob (Ao (a0.1,r129.2.2.1,r129.2.2.2.1,()) ((10:Int),())) fun r137=>
 .br r137.1.1 (
 .ob (Bc (u1.2.1,()) (a1.1,()) (a1.2.1,()) (u1.1,()) ((i64.wrap (u2.1+r129.1.1)),()) r1.1 r1.2.1) fun r138=>
 .ob (Ao (a0.1,r137.2.2.1,r137.2.2.2.1,()) ((5:Int),())) fun r139=>
 .br r139.1.1 (
 .ob (Bf (a0.1,r139.2.2.1,r139.2.2.2.1,()) r138.1) fun r140=>
 .leaf (r140.1,(a0.1,r140.2.2.1,r140.2.2.2.1,()))) (
 .leaf (r138.1,(a0.1,r139.2.2.1,r139.2.2.2.1,())))) (
 .ob (Bc (u1.2.1,()) ((i64.wrap ((1:Int)-a1.1)),()) (a1.2.1,()) (u1.1,()) ((i64.wrap (u2.1+r129.1.1)),()) r1.1 r1.2.1) fun r141=>
 .ob (Ao (a0.1,r137.2.2.1,r137.2.2.2.1,()) ((5:Int),())) fun r142=>
 .br r142.1.1 (
 .ob (Bf (a0.1,r142.2.2.1,r142.2.2.2.1,()) r141.1) fun r143=>
 .leaf (r143.1,(a0.1,r143.2.2.1,r143.2.2.2.1,()))) (
 .leaf (r141.1,(a0.1,r142.2.2.1,r142.2.2.2.1,())))))))
def Pm (a0:Av) (a1:Aj):Option (Au×Av):=(Vt a0 a1).val
def Tx (a0:YI):Tree (YBs):=
 .ob (Bk a0 ((0:Int),()) ((4294967295:Int),())) fun r1=>
 .br (!r1.1) (
 .leaf (([]:List YB),())) (
 .ob (Fp (([]:List YB),()) a0 ((4:Int),())) fun r2=>
 .leaf r2)
def Dj (a0:YI):Option (YBs):=(Tx a0).val
def Vu (a0:Av) (a1:A4):Tree (Bw×Au×Av):=
 letI u1:=a1.2.2;letI u2:=u1.2.2.2;letI u3:=u2.2.2.2;letI u4:=u3.2.2;letI u5:=u4.2.2.2;letI u6:=u5.2.2;letI u7:=u6.2.2.2;.ob (Ao a0 ((2:Int),())) fun r1=>
 .br r1.1.1 (
 .ob (A9 (a0.1,r1.2.2.1,r1.2.2.2.1,()) ((7:Int),())) fun r2=>
 .ob (Ip ((i64.wrap ((1:Int)+r2.1.1)),())) fun r3=>
 .ob (Pm (a0.1,r2.2.2.1,r2.2.2.2.1,()) (u1.2.1,u1.2.2.1,u2.1,u2.2.1,u2.2.2.1,u3.1,u3.2.1,u4.1,u4.2.1,u4.2.2.1,u5.1,u5.2.1,u6.1,u6.2.1,u6.2.2.1,())) fun r4=>
 .ob (A9 (a0.1,r4.2.2.1,r4.2.2.2.1,()) ((5:Int),())) fun r5=>letI u8:=r5.2.2;
 .br (r5.1.1==(0:Int)) (
 .br (decide ((a1.2.2.2.2.2.2.2.2.2.2.2.2.2.2.2.2.2.2.2.2.1.length:Int)>(0:Int))) (
 .ob (A9 (a0.1,u8.1,u8.2.1,()) ((a1.2.2.2.2.2.2.2.2.2.2.2.2.2.2.2.2.2.2.2.2.1.length:Int),())) fun r6=>
 .ob (idx u7.2.2.1 r6.1.1) fun e7=>
 .ob (Bc (u2.2.1,()) ((0:Int),()) (u1.1,()) (u2.1,()) ((i64.wrap (u3.1+(1:Int))),()) ((6:Int),()) (e7.2.2.1,())) fun r8=>
 .ob (Ao (a0.1,r6.2.2.1,r6.2.2.2.1,()) ((12:Int),())) fun r9=>
 .br r9.1.1 (
 .ob (Dp (a0.1,r9.2.2.1,r9.2.2.2.1,())) fun r10=>
 .leaf (r10.1,r8.1,(a0.1,r10.2.2.1,r10.2.2.2.1,()))) (
 .leaf ((e7.1,e7.2.1,()),r8.1,(a0.1,r9.2.2.1,r9.2.2.2.1,())))) (
 .ob (Ao (a0.1,u8.1,u8.2.1,()) ((12:Int),())) fun r11=>
 .br r11.1.1 (
 .ob (Dp (a0.1,r11.2.2.1,r11.2.2.2.1,())) fun r12=>
 .leaf (r12.1,r4.1,(a0.1,r12.2.2.1,r12.2.2.2.1,()))) (
 .leaf (r3,r4.1,(a0.1,r11.2.2.1,r11.2.2.2.1,()))))) (
 .br (r5.1.1==(1:Int)) (
 .br u6.1 (
 .ob (Ao (a0.1,u8.1,u8.2.1,()) ((2:Int),())) fun r13=>
 .br r13.1.1 (
 .ob (Dj ((i64.wrap (u4.1+(1:Int))),())) fun r14=>
 .ob (Bc (u4.2.1,()) ((0:Int),()) (u1.1,()) (u4.1,()) ((i64.wrap (u5.1+(1:Int))),()) ((7:Int),()) r14) fun r15=>
 .ob (Ao (a0.1,r13.2.2.1,r13.2.2.2.1,()) ((12:Int),())) fun r16=>
 .br r16.1.1 (
 .ob (Dp (a0.1,r16.2.2.1,r16.2.2.2.1,())) fun r17=>
 .leaf (r17.1,r15.1,(a0.1,r17.2.2.1,r17.2.2.2.1,()))) (
 .leaf (r3,r15.1,(a0.1,r16.2.2.1,r16.2.2.2.1,())))) (
 .ob (Dj ((i64.wrap (u2.1+(1:Int))),())) fun r18=>
 .ob (Bc (u2.2.1,()) ((0:Int),()) (u1.1,()) (u2.1,()) ((i64.wrap (u3.1+(1:Int))),()) ((7:Int),()) r18) fun r19=>
 .ob (Ao (a0.1,r13.2.2.1,r13.2.2.2.1,()) ((12:Int),())) fun r20=>
 .br r20.1.1 (
 .ob (Dp (a0.1,r20.2.2.1,r20.2.2.2.1,())) fun r21=>
 .leaf (r21.1,r19.1,(a0.1,r21.2.2.1,r21.2.2.2.1,()))) (
 .leaf (r3,r19.1,(a0.1,r20.2.2.1,r20.2.2.2.1,()))))) (
 .ob (Dj ((i64.wrap (u2.1+(1:Int))),())) fun r22=>
 .ob (Bc (u2.2.1,()) ((0:Int),()) (u1.1,()) (u2.1,()) ((i64.wrap (u3.1+(1:Int))),()) ((7:Int),()) r22) fun r23=>
 .ob (Ao (a0.1,u8.1,u8.2.1,()) ((12:Int),())) fun r24=>
 .br r24.1.1 (
 .ob (Dp (a0.1,r24.2.2.1,r24.2.2.2.1,())) fun r25=>
 .leaf (r25.1,r23.1,(a0.1,r25.2.2.1,r25.2.2.2.1,()))) (
 .leaf (r3,r23.1,(a0.1,r24.2.2.1,r24.2.2.2.1,()))))) (
 .ob (Ao (a0.1,u8.1,u8.2.1,()) ((12:Int),())) fun r26=>
 .br r26.1.1 (
 .ob (Dp (a0.1,r26.2.2.1,r26.2.2.2.1,())) fun r27=>
 .leaf (r27.1,r4.1,(a0.1,r27.2.2.1,r27.2.2.2.1,()))) (
 .leaf (r3,r4.1,(a0.1,r26.2.2.1,r26.2.2.2.1,())))))) (
 .ob (Pm (a0.1,r1.2.2.1,r1.2.2.2.1,()) (u1.2.1,u1.2.2.1,u2.1,u2.2.1,u2.2.2.1,u3.1,u3.2.1,u4.1,u4.2.1,u4.2.2.1,u5.1,u5.2.1,u6.1,u6.2.1,u6.2.2.1,())) fun r28=>
 .ob (A9 (a0.1,r28.2.2.1,r28.2.2.2.1,()) ((5:Int),())) fun r29=>letI u9:=r29.2.2;
 .br (r29.1.1==(0:Int)) (
 .br (decide ((a1.2.2.2.2.2.2.2.2.2.2.2.2.2.2.2.2.2.2.2.2.1.length:Int)>(0:Int))) (
 .ob (A9 (a0.1,u9.1,u9.2.1,()) ((a1.2.2.2.2.2.2.2.2.2.2.2.2.2.2.2.2.2.2.2.2.1.length:Int),())) fun r30=>
 .ob (idx u7.2.2.1 r30.1.1) fun e31=>
 .ob (Bc (u2.2.1,()) ((0:Int),()) (u1.1,()) (u2.1,()) ((i64.wrap (u3.1+(1:Int))),()) ((6:Int),()) (e31.2.2.1,())) fun r32=>
 .ob (Ao (a0.1,r30.2.2.1,r30.2.2.2.1,()) ((12:Int),())) fun r33=>
 .br r33.1.1 (
 .ob (Dp (a0.1,r33.2.2.1,r33.2.2.2.1,())) fun r34=>
 .leaf (r34.1,r32.1,(a0.1,r34.2.2.1,r34.2.2.2.1,()))) (
 .leaf ((e31.1,e31.2.1,()),r32.1,(a0.1,r33.2.2.1,r33.2.2.2.1,())))) (
 .ob (Ao (a0.1,u9.1,u9.2.1,()) ((12:Int),())) fun r35=>
 .br r35.1.1 (
 .ob (Dp (a0.1,r35.2.2.1,r35.2.2.2.1,())) fun r36=>
 .leaf (r36.1,r28.1,(a0.1,r36.2.2.1,r36.2.2.2.1,()))) (
 .leaf ((u7.1,u7.2.1,()),r28.1,(a0.1,r35.2.2.1,r35.2.2.2.1,()))))) (
 .br (r29.1.1==(1:Int)) (
 .br u6.1 (
 .ob (Ao (a0.1,u9.1,u9.2.1,()) ((2:Int),())) fun r37=>
 .br r37.1.1 (
 .ob (Dj ((i64.wrap (u4.1+(1:Int))),())) fun r38=>
 .ob (Bc (u4.2.1,()) ((0:Int),()) (u1.1,()) (u4.1,()) ((i64.wrap (u5.1+(1:Int))),()) ((7:Int),()) r38) fun r39=>
 .ob (Ao (a0.1,r37.2.2.1,r37.2.2.2.1,()) ((12:Int),())) fun r40=>
 .br r40.1.1 (
 .ob (Dp (a0.1,r40.2.2.1,r40.2.2.2.1,())) fun r41=>
 .leaf (r41.1,r39.1,(a0.1,r41.2.2.1,r41.2.2.2.1,()))) (
 .leaf ((u7.1,u7.2.1,()),r39.1,(a0.1,r40.2.2.1,r40.2.2.2.1,())))) (
 .ob (Dj ((i64.wrap (u2.1+(1:Int))),())) fun r42=>
 .ob (Bc (u2.2.1,()) ((0:Int),()) (u1.1,()) (u2.1,()) ((i64.wrap (u3.1+(1:Int))),()) ((7:Int),()) r42) fun r43=>
 .ob (Ao (a0.1,r37.2.2.1,r37.2.2.2.1,()) ((12:Int),())) fun r44=>
 .br r44.1.1 (
 .ob (Dp (a0.1,r44.2.2.1,r44.2.2.2.1,())) fun r45=>
 .leaf (r45.1,r43.1,(a0.1,r45.2.2.1,r45.2.2.2.1,()))) (
 .leaf ((u7.1,u7.2.1,()),r43.1,(a0.1,r44.2.2.1,r44.2.2.2.1,()))))) (
 .ob (Dj ((i64.wrap (u2.1+(1:Int))),())) fun r46=>
 .ob (Bc (u2.2.1,()) ((0:Int),()) (u1.1,()) (u2.1,()) ((i64.wrap (u3.1+(1:Int))),()) ((7:Int),()) r46) fun r47=>
 .ob (Ao (a0.1,u9.1,u9.2.1,()) ((12:Int),())) fun r48=>
 .br r48.1.1 (
 .ob (Dp (a0.1,r48.2.2.1,r48.2.2.2.1,())) fun r49=>
 .leaf (r49.1,r47.1,(a0.1,r49.2.2.1,r49.2.2.2.1,()))) (
 .leaf ((u7.1,u7.2.1,()),r47.1,(a0.1,r48.2.2.1,r48.2.2.2.1,()))))) (
 .ob (Ao (a0.1,u9.1,u9.2.1,()) ((12:Int),())) fun r50=>
 .br r50.1.1 (
 .ob (Dp (a0.1,r50.2.2.1,r50.2.2.2.1,())) fun r51=>
 .leaf (r51.1,r28.1,(a0.1,r51.2.2.1,r51.2.2.2.1,()))) (
 .leaf ((u7.1,u7.2.1,()),r28.1,(a0.1,r50.2.2.1,r50.2.2.2.1,()))))))
def Vv (a0:Av) (a1:A4):Option (Bw×Au×Av):=(Vu a0 a1).val
def N8 (a0:YBs):Tree (A4×YI×Bw×Au×YBs):=
 .ob (Ahq a0) fun r1=>
 .ob (Adq r1) fun r2=>
 .ob (Vv (r1.1,r2.2.2.1,r2.2.2.2.1,()) r2.1) fun r3=>
 .ob (Be (r1.1,r3.2.2.2.1,r3.2.2.2.2.1,()) ([((0:Int),()),((1:Int),()),((5:Int),()),((6:Int),()),((7:Int),()),((8:Int),()),((10:Int),()),((1000000:Int),()),((1000001:Int),()),((-1:Int),())],())) fun r4=>
 .ob (Be (r1.1,r4.2.2.1,r4.2.2.2.1,()) ([((12:Int),()),((12:Int),()),((12:Int),()),((12:Int),()),((12:Int),()),((0:Int),())],())) fun r5=>
 .ob (B8 (r1.1,r5.2.2.1,r5.2.2.2.1,()) r5.1) fun r6=>
 .leaf (r2.1,r4.1,r3.1,r3.2.1,r6.1)
def N9 (a0:YBs):Option (A4×YI×Bw×Au×YBs):=(N8 a0).val
def Aic (a0:YBs):Tree (YBs):=
 .chk (decide (([]:List YB).length+a0.1.length≤4294967296)) <|
 .leaf ((([]:List YB)++a0.1),())
def Bg (a0:YBs):Option (YBs):=(Aic a0).val
def Z8 (a0:Bv):Tree (Bv):=
 .chk (decide (([]:List YI).length+a0.2.1.length≤4294967296)) <|
 .leaf (a0.1,(([]:List YI)++a0.2.1),())
def Sb (a0:Bv):Option (Bv):=(Z8 a0).val
def Adz (a0:YEp):Tree (YEp):=
 .ob (Bg (a0.2.1,())) fun r1=>
 .ob (Sb (a0.2.2.2.1,a0.2.2.2.2.1,())) fun r2=>
 .leaf (a0.1,r1.1,a0.2.2.1,r2.1,r2.2.1,())
def Mg (a0:YEp):Option (YEp):=(Adz a0).val
def Vw (a0:Aj):Tree (Aj):=
 letI u1:=a0.2.2.2;letI u2:=u1.2.2.2;letI u3:=u2.2.2.2.2;.ob (Bg (a0.2.1,())) fun r1=>
 .ob (Bg (u3.2.2.2.2.1,())) fun r2=>
 .ob (Mg (a0.2.2.1,u1.1,u1.2.1,u1.2.2.1,u2.1,())) fun r3=>
 .ob (Mg (u2.2.1,u2.2.2.1,u2.2.2.2.1,u3.1,u3.2.1,())) fun r4=>
 .leaf (a0.1,r1.1,r3.1,r3.2.1,r3.2.2.1,r3.2.2.2.1,r3.2.2.2.2.1,r4.1,r4.2.1,r4.2.2.1,r4.2.2.2.1,r4.2.2.2.2.1,u3.2.2.1,u3.2.2.2.1,r2.1,())
def E9 (a0:Aj):Option (Aj):=(Vw a0).val
def Gd (x1:(List Am)×Int×Int×Int×Int×(List Am)×Int×Int×(List Am)×Unit):Option (((List Am)×Int×Int×Int×Int×(List Am)×Int×Int×(List Am)×Unit)⊕((Int×Int×(List Am)×Int×Int×(List Am)×Unit))):=
 letI u1:=x1.2.2;letI u2:=u1.2.2;letI u3:=u2.2.2;Tree.val (α:=((List Am)×Int×Int×Int×Int×(List Am)×Int×Int×(List Am)×Unit)⊕((Int×Int×(List Am)×Int×Int×(List Am)×Unit))) <|
 .br (decide (u1.1<x1.2.1)) (
 .ob (idx x1.1 u1.1) fun e2=>
 .ob (Bg (e2.2.2.1,())) fun r3=>
 .chk (decide (x1.2.2.2.2.2.2.2.2.1.length+[(e2.1,e2.2.1,r3.1,e2.2.2.2.1,())].length≤4294967296)) <|
 .leaf (.inl (x1.1,x1.2.1,(i64.wrap (u1.1+(1:Int))),u1.2.1,u2.1,u2.2.1,u3.1,u3.2.1,(u3.2.2.1++[(e2.1,e2.2.1,r3.1,e2.2.2.2.1,())]),()))) (
 .leaf (.inr (u1.2.1,u2.1,u2.2.1,u3.1,u3.2.1,u3.2.2.1,())))
def Tz (a0:A7):Tree (A7):=
 .ob (Ay Gd (a0.2.2.1,(a0.2.2.1.length:Int),(0:Int),(0:Int),(0:Int),([]:List Am),a0.1,a0.2.1,([]:List Am),())) fun o4=>
 .leaf (o4.2.2.2.1,o4.2.2.2.2.1,o4.2.2.2.2.2.1,())
def Dk (a0:A7):Option (A7):=(Tz a0).val
def Vx (a0:A4):Tree (A4):=
 letI u1:=a0.2.2.2;letI u2:=u1.2.2.2;letI u3:=u2.2.2.2;letI u4:=u3.2.2.2;letI u5:=u4.2.2.2;letI u6:=u5.2.2.2.2;.ob (Bg (a0.2.1,())) fun r1=>
 .ob (Bg (a0.2.2.1,())) fun r2=>
 .ob (E9 (u1.1,u1.2.1,u1.2.2.1,u2.1,u2.2.1,u2.2.2.1,u3.1,u3.2.1,u3.2.2.1,u4.1,u4.2.1,u4.2.2.1,u5.1,u5.2.1,u5.2.2.1,())) fun r3=>letI u7:=r3.2.2.2;letI u8:=u7.2.2.2;letI u9:=u8.2.2.2.2;
 .ob (Dk (u5.2.2.2.1,u6.1,u6.2.1,())) fun r4=>
 .leaf (a0.1,r1.1,r2.1,r3.1,r3.2.1,r3.2.2.1,u7.1,u7.2.1,u7.2.2.1,u8.1,u8.2.1,u8.2.2.1,u8.2.2.2.1,u9.1,u9.2.1,u9.2.2.1,u9.2.2.2.1,u9.2.2.2.2.1,r4.1,r4.2.1,r4.2.2.1,u6.2.2.1,u6.2.2.2.1,u6.2.2.2.2.1,())
def I7 (a0:A4):Option (A4):=(Vx a0).val
def Ad0 (a0:YI) (a1:YI) (a2:YI):Tree ((Bool×Unit)):=
 .br (decide (a0.1≥a1.1)) (
 .leaf ((decide (a0.1≤a2.1)),())) (
 .leaf (false,()))
def Bn (a0:YI) (a1:YI) (a2:YI):Option ((Bool×Unit)):=(Ad0 a0 a1 a2).val
def Aln (a0:YBs):Tree ((Bool×Unit)):=
 .leaf (((a0.1.length:Int)==(12:Int)),())
def Dw (a0:YBs):Option ((Bool×Unit)):=(Aln a0).val
def Agt (a0:YBs) (a1:YBs):Tree ((Bool×Unit)):=
 .leaf ((decide ((Ku a0.1)=(Ku a1.1))),())
def Cv (a0:YBs) (a1:YBs):Option ((Bool×Unit)):=(Agt a0 a1).val
def Abq (x1:(List YI)×(List YI)×Int×Int×Unit):Option (((List YI)×(List YI)×Int×Int×Unit)⊕((Bool×Unit)⊕(Unit))):=
 letI u1:=x1.2.2;Tree.val (α:=((List YI)×(List YI)×Int×Int×Unit)⊕((Bool×Unit)⊕(Unit))) <|
 .br (decide (u1.2.1<u1.1)) (
 .ob (idx x1.2.1 u1.2.1) fun e2=>
 .ob (idx x1.1 u1.2.1) fun e3=>
 .br (e2.1 != e3.1) (
 .leaf (.inr (.inl (false,())))) (
 .leaf (.inl (x1.1,x1.2.1,u1.1,(i64.wrap (u1.2.1+(1:Int))),())))) (
 .leaf (.inr (.inr ())))
def Vy (a0:(List YI)×Unit) (a1:(List YI)×Unit):Tree ((Bool×Unit)):=
 .br ((a0.1.length:Int) != (a1.1.length:Int)) (
 .leaf (false,())) (
 .ob (Ay Abq (a1.1,a0.1,(a0.1.length:Int),(0:Int),())) fun o4=>
 .sm o4 (fun o5=>
 .leaf o5) (fun o6=>
 .leaf (true,())))
def Vz (a0:(List YI)×Unit) (a1:(List YI)×Unit):Option ((Bool×Unit)):=(Vy a0 a1).val
def Ad1 (a0:YEp) (a1:YEp):Tree ((Bool×Unit)):=
 .br (a0.1==a1.1) (
 .ob (Cv (a0.2.1,()) (a1.2.1,())) fun r1=>
 .br r1.1 (
 .br (a0.2.2.1==a1.2.2.1) (
 .br (a0.2.2.2.1==a1.2.2.2.1) (
 .ob (Vz (a0.2.2.2.2.1,()) (a1.2.2.2.2.1,())) fun r2=>
 .leaf r2) (
 .leaf (false,()))) (
 .leaf (false,()))) (
 .leaf (false,()))) (
 .leaf (false,()))
def Pn (a0:YEp) (a1:YEp):Option ((Bool×Unit)):=(Ad1 a0 a1).val
def Ra (a0:Aj):Tree ((Bool×Unit)):=
 letI u1:=a0.2.2.2;letI u2:=u1.2.2.2;letI u3:=u2.2.2.2;.br (a0.1==(0:Int)) (
 .br ((a0.2.1.length:Int)==(0:Int)) (
 .ob (Pn (a0.2.2.1,u1.1,u1.2.1,u1.2.2.1,u2.1,()) ((0:Int),([]:List YB),(0:Int),(0:Int),([]:List YI),())) fun r1=>
 .br r1.1 (
 .ob (Pn (u2.2.1,u2.2.2.1,u3.1,u3.2.1,u3.2.2.1,()) ((0:Int),([]:List YB),(0:Int),(0:Int),([]:List YI),())) fun r2=>
 .br r2.1 (
 .br (!u3.2.2.2.1) (
 .br (u3.2.2.2.2.1==(0:Int)) (
 .leaf (((a0.2.2.2.2.2.2.2.2.2.2.2.2.2.2.1.length:Int)==(0:Int)),())) (
 .leaf (false,()))) (
 .leaf (false,()))) (
 .leaf (false,()))) (
 .leaf (false,()))) (
 .leaf (false,()))) (
 .leaf (false,()))
def Rb (a0:Aj):Option ((Bool×Unit)):=(Ra a0).val
def Ad2 (a0:YI):Tree ((Bool×Unit)):=
 .br (a0.1==(0:Int)) (
 .leaf (true,())) (
 .leaf ((a0.1==(1:Int)),()))
def Mh (a0:YI):Option ((Bool×Unit)):=(Ad2 a0).val
def I8 (x1:(List YI)×Int×(List YI)×Int×Int×Unit):Option (((List YI)×Int×(List YI)×Int×Int×Unit)⊕((Bool×Unit)⊕((List YI)×Int×Unit))):=
 letI u1:=x1.2.2;Tree.val (α:=((List YI)×Int×(List YI)×Int×Int×Unit)⊕((Bool×Unit)⊕((List YI)×Int×Unit))) <|
 .br (decide (u1.2.2.1<u1.2.1)) (
 .ob (idx u1.1 u1.2.2.1) fun e2=>
 .ob (Bn e2 ((0:Int),()) ((4294967295:Int),())) fun r3=>
 .br (!r3.1) (
 .leaf (.inr (.inl (false,())))) (
 .leaf (.inl (x1.1,x1.2.1,u1.1,u1.2.1,(i64.wrap (u1.2.2.1+(1:Int))),())))) (
 .leaf (.inr (.inr (x1.1,x1.2.1,()))))
def V0 (a0:(List YI)×Unit) (a1:YI):Tree ((Bool×Unit)):=
 .ob (Ay I8 (a0.1,a1.1,a0.1,(a0.1.length:Int),(0:Int),())) fun o4=>
 .sm o4 (fun o5=>
 .leaf o5) (fun o6=>
 .leaf (((o6.1.length:Int)==o6.2.1),()))
def K9 (a0:(List YI)×Unit) (a1:YI):Option ((Bool×Unit)):=(V0 a0 a1).val
def Ad3 (a0:Bv) (a1:YI):Tree ((Bool×Unit)):=
 .chk (decide ((0:Int)≤a1.1)) <|
 .chk (decide ((0:Int)≤(a1.1%(1024:Int)))) <|
 .ob (idx a0.2.1 ((a1.1%(1024:Int))/(32:Int))) fun e1=>
 .chk (decide ((0:Int)≤a1.1)) <|
 .chk (decide ((0:Int)≤(a1.1%(32:Int)))) <|
 .leaf (((i64.wrap ((BitVec.ofInt (i64.bits) ((Int.fdiv e1.1 (2^(min ((a1.1%(32:Int))).toNat i64.bits)))) &&& BitVec.ofInt (i64.bits) ((1:Int))).toNat:Nat))==(1:Int)),())
def Po (a0:Bv) (a1:YI):Option ((Bool×Unit)):=(Ad3 a0 a1).val
def Kq (x3:Int×Int×(List YI)×Unit):Option ((Int×Int×(List YI)×Unit)⊕((Bool×Unit)⊕Bv)):=
 Tree.val (α:=(Int×Int×(List YI)×Unit)⊕((Bool×Unit)⊕Bv)) <|
 .br (decide (x3.1<(1024:Int))) (
 .ob (Po (x3.2.1,x3.2.2.1,()) (x3.1,())) fun r4=>
 .br r4.1 (
 .leaf (.inr (.inl (false,())))) (
 .leaf (.inl ((i64.wrap (x3.1+(1:Int))),x3.2.1,x3.2.2.1,())))) (
 .leaf (.inr (.inr (x3.2.1,x3.2.2.1,()))))
def Aid (a0:Bv):Tree ((Bool×Unit)):=
 .ob (Bn (a0.1,()) ((-1:Int),()) ((281474976710655:Int),())) fun r1=>
 .br (!r1.1) (
 .leaf (false,())) (
 .ob (K9 (a0.2.1,()) ((32:Int),())) fun r2=>
 .br (!r2.1) (
 .leaf (false,())) (
 .ob (Ay Kq ((i64.wrap (a0.1+(1:Int))),a0.1,a0.2.1,())) fun o5=>
 .sm o5 (fun o6=>
 .leaf o6) (fun o7=>
 .br (o7.1==(-1:Int)) (
 .leaf (true,())) (
 .ob (Po o7 (o7.1,())) fun r8=>
 .leaf r8))))
def Xn (a0:Bv):Option ((Bool×Unit)):=(Aid a0).val
def Am4 (a0:YEp):Tree ((Bool×Unit)):=
 .ob (Bn (a0.1,()) ((0:Int),()) ((4294967295:Int),())) fun r1=>
 .br r1.1 (
 .br ((a0.2.1.length:Int)==(32:Int)) (
 .ob (Bn (a0.2.2.1,()) ((0:Int),()) ((281474976710656:Int),())) fun r2=>
 .br r2.1 (
 .ob (Xn (a0.2.2.2.1,a0.2.2.2.2.1,())) fun r3=>
 .leaf r3) (
 .leaf (false,()))) (
 .leaf (false,()))) (
 .leaf (false,()))
def Rc (a0:YEp):Option ((Bool×Unit)):=(Am4 a0).val
def Aie (a0:Aj):Tree ((Bool×Unit)):=
 letI u1:=a0.2.2.2.2.2.2.2;letI u2:=u1.2.2;letI u3:=u2.2.2;.br (!u3.2.1) (
 .ob (Pn (u1.1,u1.2.1,u2.1,u2.2.1,u3.1,()) ((0:Int),([]:List YB),(0:Int),(0:Int),([]:List YI),())) fun r1=>
 .br r1.1 (
 .leaf ((u3.2.2.1==(0:Int)),())) (
 .leaf (false,()))) (
 .ob (Rc (u1.1,u1.2.1,u2.1,u2.2.1,u3.1,())) fun r2=>
 .br (!r2.1) (
 .leaf (false,())) (
 .br (u1.1 != (i64.wrap (a0.2.2.1-(1:Int)))) (
 .leaf (false,())) (
 .ob (Bn (u3.2.2.1,()) ((0:Int),()) ((1000005:Int),())) fun r3=>
 .br r3.1 (
 .leaf (true,())) (
 .br (u3.2.2.1==(-1:Int)) (
 .leaf ((a0.1==(1:Int)),())) (
 .leaf (false,()))))))
def Aif (a0:Aj):Option ((Bool×Unit)):=(Aie a0).val
def Ad4 (a0:Aj):Tree ((Bool×Unit)):=
 letI u1:=a0.2.2;.ob (Mh (a0.1,())) fun r1=>
 .br (!r1.1) (
 .leaf (false,())) (
 .ob (Dw (a0.2.1,())) fun r2=>
 .br (!r2.1) (
 .leaf (false,())) (
 .ob (Rc (u1.1,u1.2.1,u1.2.2.1,u1.2.2.2.1,u1.2.2.2.2.1,())) fun r3=>
 .br (!r3.1) (
 .leaf (false,())) (
 .ob (Aif a0) fun r4=>
 .br (!r4.1) (
 .leaf (false,())) (
 .br ((a0.2.2.2.2.2.2.2.2.2.2.2.2.2.2.1.length:Int)==(0:Int)) (
 .leaf (true,())) (
 .br (a0.1==(0:Int)) (
 .br ((a0.2.2.2.2.2.2.2.2.2.2.2.2.2.2.1.length:Int)==(32:Int)) (
 .leaf ((decide (u1.1<(4294967295:Int))),())) (
 .leaf (false,()))) (
 .leaf (false,())))))))
def Fz (a0:Aj):Option ((Bool×Unit)):=(Ad4 a0).val
def Ad5 (a0:Bw):Tree ((Bool×Unit)):=
 .ob (Bn (a0.1,()) ((0:Int),()) ((4294967295:Int),())) fun r1=>
 .br r1.1 (
 .ob (Bn (a0.2.1,()) ((0:Int),()) ((65535:Int),())) fun r2=>
 .leaf r2) (
 .leaf (false,()))
def Mi (a0:Bw):Option ((Bool×Unit)):=(Ad5 a0).val
def Gm (x7:(List Am)×Int×Int×(List Am)×Int×Int×Int×Int×(List Am)×Int×Int×(List YB)×Int×Unit):Option (((List Am)×Int×Int×(List Am)×Int×Int×Int×Int×(List Am)×Int×Int×(List YB)×Int×Unit)⊕((Bool×Unit)⊕((List Am)×Int×Int×Int×Int×(List Am)×Unit))):=
 letI u1:=x7.2.2;letI u2:=u1.2.2.2;letI u3:=u2.2.2;letI u4:=u3.2.2;Tree.val (α:=((List Am)×Int×Int×(List Am)×Int×Int×Int×Int×(List Am)×Int×Int×(List YB)×Int×Unit)⊕((Bool×Unit)⊕((List Am)×Int×Int×Int×Int×(List Am)×Unit))) <|
 .br (decide (u2.1<u1.2.2.1)) (
 .ob (idx u1.2.1 u2.1) fun e8=>
 .br (and (e8.1==u4.1) (and (e8.2.1==u4.2.1) true)) (
 .leaf (.inr (.inl (false,())))) (
 .leaf (.inl (x7.1,x7.2.1,u1.1,u1.2.1,u1.2.2.1,(i64.wrap (u2.1+(1:Int))),u2.2.1,u3.1,u3.2.1,u4.1,u4.2.1,u4.2.2.1,u4.2.2.2.1,())))) (
 .leaf (.inr (.inr (x7.1,x7.2.1,u1.1,u2.2.1,u3.1,u3.2.1,()))))
def H1 (x2:(List Am)×Int×Int×Int×Int×(List Am)×Unit):Option (((List Am)×Int×Int×Int×Int×(List Am)×Unit)⊕((Bool×Unit)⊕(Unit))):=
 letI u1:=x2.2.2;Tree.val (α:=((List Am)×Int×Int×Int×Int×(List Am)×Unit)⊕((Bool×Unit)⊕(Unit))) <|
 .br (decide (u1.1<x2.2.1)) (
 .ob (idx x2.1 u1.1) fun e3=>
 .ob (Mi (e3.1,e3.2.1,())) fun r4=>
 .br (!r4.1) (
 .leaf (.inr (.inl (false,())))) (
 .br (and (e3.1==u1.2.1) (and (e3.2.1==u1.2.2.1) true)) (
 .leaf (.inr (.inl (false,())))) (
 .ob (Dw (e3.2.2.1,())) fun r5=>
 .br (!r5.1) (
 .leaf (.inr (.inl (false,())))) (
 .ob (Bn (e3.2.2.2.1,()) ((0:Int),()) ((1000006:Int),())) fun r6=>
 .br (!r6.1) (
 .leaf (.inr (.inl (false,())))) (
 .chk (decide ((0:Int)≤u1.1)) <|
 .chk (decide (u1.1≤(x2.2.2.2.2.2.1.length:Int))) <|
 .ob (Ay Gm (x2.1,x2.2.1,u1.1,((x2.2.2.2.2.2.1.take (u1.1).toNat).drop ((0:Int)).toNat),(((x2.2.2.2.2.2.1.take (u1.1).toNat).drop ((0:Int)).toNat).length:Int),(0:Int),u1.2.1,u1.2.2.1,u1.2.2.2.1,e3.1,e3.2.1,e3.2.2.1,e3.2.2.2.1,())) fun o9=>
 .sm o9 (fun o10=>
 .leaf (.inr (.inl o10))) (fun o11=>
 .leaf (.inl (o11.1,o11.2.1,(i64.wrap (o11.2.2.1+(1:Int))),o11.2.2.2.1,o11.2.2.2.2.1,o11.2.2.2.2.2.1,())))))))) (
 .leaf (.inr (.inr ())))
def Sc (a0:A7):Tree ((Bool×Unit)):=
 .ob (Mi (a0.1,a0.2.1,())) fun r1=>
 .br (!r1.1) (
 .leaf (false,())) (
 .br (decide ((a0.2.2.1.length:Int)>(3:Int))) (
 .leaf (false,())) (
 .ob (Ay H1 (a0.2.2.1,(a0.2.2.1.length:Int),(0:Int),a0.1,a0.2.1,a0.2.2.1,())) fun o12=>
 .sm o12 (fun o13=>
 .leaf o13) (fun o14=>
 .leaf (true,()))))
def M8 (a0:A7):Option ((Bool×Unit)):=(Sc a0).val
def Ad6 (a0:A4):Tree ((Bool×Unit)):=
 letI u1:=a0.2.2;letI u2:=u1.2.2;letI u3:=u2.2.2;letI u4:=u3.2.2;letI u5:=u4.2.2;letI u6:=u5.2.2;letI u7:=u6.2.2;letI u8:=u7.2.2;letI u9:=u8.2.2;letI u10:=u9.2.2.2;.ob (Bn (a0.1,()) ((1:Int),()) ((9:Int),())) fun r1=>
 .br (!r1.1) (
 .leaf (false,())) (
 .ob (Dw (a0.2.1,())) fun r2=>
 .br (!r2.1) (
 .leaf (false,())) (
 .ob (Dw (u1.1,())) fun r3=>
 .br (!r3.1) (
 .leaf (false,())) (
 .ob (Bn (u10.1,()) ((0:Int),()) ((1000000:Int),())) fun r4=>
 .br (!r4.1) (
 .leaf (false,())) (
 .br u10.2.2.1 (
 .ob (Rb (u1.2.1,u2.1,u2.2.1,u3.1,u3.2.1,u4.1,u4.2.1,u5.1,u5.2.1,u6.1,u6.2.1,u7.1,u7.2.1,u8.1,u8.2.1,())) fun r5=>
 .br r5.1 (
 .br (and (u9.1==(0:Int)) (and (u9.2.1==(0:Int)) true)) (
 .br ((a0.2.2.2.2.2.2.2.2.2.2.2.2.2.2.2.2.2.2.2.2.1.length:Int)==(0:Int)) (
 .leaf ((u10.2.1==(0:Int)),())) (
 .leaf (false,()))) (
 .leaf (false,()))) (
 .leaf (false,()))) (
 .ob (Fz (u1.2.1,u2.1,u2.2.1,u3.1,u3.2.1,u4.1,u4.2.1,u5.1,u5.2.1,u6.1,u6.2.1,u7.1,u7.2.1,u8.1,u8.2.1,())) fun r6=>
 .br r6.1 (
 .br (u1.2.1==(1:Int)) (
 .ob (Cv (u2.1,()) (u1.1,())) fun r7=>
 .br r7.1 (
 .ob (M8 (u9.1,u9.2.1,u9.2.2.1,())) fun r8=>
 .br r8.1 (
 .ob (Bn (u10.2.1,()) ((0:Int),()) ((1000000:Int),())) fun r9=>
 .leaf r9) (
 .leaf (false,()))) (
 .leaf (false,()))) (
 .leaf (false,()))) (
 .leaf (false,())))))))
def Gx (a0:A4):Option ((Bool×Unit)):=(Ad6 a0).val
def Ad7 (a0:YI):Tree ((Bool×Unit)):=
 .ob (Bn a0 ((4:Int),()) ((8:Int),())) fun r1=>
 .leaf r1
def Mj (a0:YI):Option ((Bool×Unit)):=(Ad7 a0).val
def Ad8 (a0:YI) (a1:YI):Tree ((Bool×Unit)):=
 .br (a0.1==(4:Int)) (
 .leaf ((decide (a1.1≤(40:Int))),())) (
 .br (a0.1==(5:Int)) (
 .leaf ((a1.1==(12:Int)),())) (
 .br (a0.1==(6:Int)) (
 .leaf ((a1.1==(12:Int)),())) (
 .leaf ((a1.1==(4:Int)),()))))
def Ad9 (a0:YI) (a1:YI):Option ((Bool×Unit)):=(Ad8 a0 a1).val
def T0 (a0:Au) (a1:Au):Tree ((Bool×Unit)):=
 letI u1:=a0.2.2.2;letI u2:=u1.2.2.2;letI u3:=a1.2.2.2;letI u4:=u3.2.2.2;.br (a0.1==a1.1) (
 .br (a0.2.1==a1.2.1) (
 .br (u1.2.1==u3.2.1) (
 .br (u2.2.1==u4.2.1) (
 .br (u2.2.2.1==u4.2.2.1) (
 .ob (Cv (a0.2.2.1,()) (a1.2.2.1,())) fun r1=>
 .br r1.1 (
 .ob (Cv (u1.1,()) (u3.1,())) fun r2=>
 .br r2.1 (
 .ob (Cv (u1.2.2.1,()) (u3.2.2.1,())) fun r3=>
 .br r3.1 (
 .ob (Cv (u2.1,()) (u4.1,())) fun r4=>
 .br r4.1 (
 .ob (Cv (u2.2.2.2.1,()) (u4.2.2.2.1,())) fun r5=>
 .br r5.1 (
 .ob (Cv (u2.2.2.2.2.1,()) (u4.2.2.2.2.1,())) fun r6=>
 .leaf r6) (
 .leaf (false,()))) (
 .leaf (false,()))) (
 .leaf (false,()))) (
 .leaf (false,()))) (
 .leaf (false,()))) (
 .leaf (false,()))) (
 .leaf (false,()))) (
 .leaf (false,()))) (
 .leaf (false,()))) (
 .leaf (false,()))
def H2 (a0:Au) (a1:Au):Option ((Bool×Unit)):=(T0 a0 a1).val
def Z9 (a0:Au):Tree ((Bool×Unit)):=
 letI u1:=a0.2.2;letI u2:=u1.2.2;letI u3:=u2.2.2.2;.br (a0.1==(1:Int)) (
 .ob (Bn (a0.2.1,()) ((1:Int),()) ((9:Int),())) fun r1=>
 .br r1.1 (
 .ob (Dw (u1.1,())) fun r2=>
 .br r2.1 (
 .ob (H2 a0 (a0.1,a0.2.1,u1.1,([]:List YB),(0:Int),([]:List YB),([]:List YB),(0:Int),(0:Int),([]:List YB),([]:List YB),())) fun r3=>
 .leaf r3) (
 .leaf (false,()))) (
 .leaf (false,()))) (
 .br (a0.1==(2:Int)) (
 .ob (Dw (u1.1,())) fun r4=>
 .br r4.1 (
 .ob (Dw (u1.2.1,())) fun r5=>
 .br r5.1 (
 .ob (Bn (u2.1,()) ((0:Int),()) ((1000000:Int),())) fun r6=>
 .br r6.1 (
 .br ((a0.2.2.2.2.2.1.length:Int)==(16:Int)) (
 .ob (H2 a0 (a0.1,(0:Int),u1.1,u1.2.1,u2.1,u2.2.1,([]:List YB),(0:Int),(0:Int),([]:List YB),([]:List YB),())) fun r7=>
 .leaf r7) (
 .leaf (false,()))) (
 .leaf (false,()))) (
 .leaf (false,()))) (
 .leaf (false,()))) (
 .br (a0.1==(3:Int)) (
 .ob (Bn (a0.2.1,()) ((1:Int),()) ((9:Int),())) fun r8=>
 .br r8.1 (
 .ob (Dw (u1.1,())) fun r9=>
 .br r9.1 (
 .ob (Dw (u1.2.1,())) fun r10=>
 .br r10.1 (
 .ob (Bn (u2.1,()) ((0:Int),()) ((1000000:Int),())) fun r11=>
 .br r11.1 (
 .br ((a0.2.2.2.2.2.1.length:Int)==(16:Int)) (
 .br ((a0.2.2.2.2.2.2.1.length:Int)==(16:Int)) (
 .ob (H2 a0 (a0.1,a0.2.1,u1.1,u1.2.1,u2.1,u2.2.1,u2.2.2.1,(0:Int),(0:Int),([]:List YB),([]:List YB),())) fun r12=>
 .leaf r12) (
 .leaf (false,()))) (
 .leaf (false,()))) (
 .leaf (false,()))) (
 .leaf (false,()))) (
 .leaf (false,()))) (
 .leaf (false,()))) (
 .ob (Mj (a0.1,())) fun r13=>
 .br r13.1 (
 .ob (Dw (u1.2.1,())) fun r14=>
 .br r14.1 (
 .ob (Bn (u3.1,()) ((0:Int),()) ((4294967295:Int),())) fun r15=>
 .br r15.1 (
 .ob (Bn (u3.2.1,()) ((0:Int),()) ((281474976710655:Int),())) fun r16=>
 .br r16.1 (
 .br ((a0.2.2.2.2.2.2.2.2.2.2.1.length:Int)==(16:Int)) (
 .ob (Ad9 (a0.1,()) ((a0.2.2.2.2.2.2.2.2.2.1.length:Int),())) fun r17=>
 .br r17.1 (
 .ob (H2 a0 (a0.1,(0:Int),([]:List YB),u1.2.1,(0:Int),([]:List YB),([]:List YB),u3.1,u3.2.1,u3.2.2.1,u3.2.2.2.1,())) fun r18=>
 .leaf r18) (
 .leaf (false,()))) (
 .leaf (false,()))) (
 .leaf (false,()))) (
 .leaf (false,()))) (
 .leaf (false,()))) (
 .leaf (false,())))))
def M9 (a0:Au):Option ((Bool×Unit)):=(Z9 a0).val
def Pp (x1:(List YB)×(List YB)×Int×Int×Int×Unit):Option (((List YB)×(List YB)×Int×Int×Int×Unit)⊕(YI)):=
 letI u1:=x1.2.2.2;Tree.val (α:=((List YB)×(List YB)×Int×Int×Int×Unit)⊕(YI)) <|
 .br (decide (u1.2.1<u1.1)) (
 .ob (idx x1.1 u1.2.1) fun e2=>
 .ob (idx x1.2.1 u1.2.1) fun e3=>
 .leaf (.inl (x1.1,x1.2.1,(i64.wrap ((BitVec.ofInt (i64.bits) (x1.2.2.1) ||| BitVec.ofInt (i64.bits) ((i64.wrap ((u8.wrap ((BitVec.ofInt (u8.bits) (e2.1) ^^^ BitVec.ofInt (u8.bits) (e3.1)).toNat:Nat)))))).toNat:Nat)),u1.1,(i64.wrap (u1.2.1+(1:Int))),()))) (
 .leaf (.inr (x1.2.2.1,())))
def Am5 (a0:YBs) (a1:YBs):Tree (YI):=
 .br ((a0.1.length:Int) != (a1.1.length:Int)) (
 .leaf ((-1:Int),())) (
 .ob (Ay Pp (a0.1,a1.1,(0:Int),(a0.1.length:Int),(0:Int),())) fun o4=>
 .leaf o4)
def Oa (a0:YBs) (a1:YBs):Option (YI):=(Am5 a0 a1).val
def Aea:Tree (Bv):=
 .leaf ((-1:Int),(List.replicate ((32:Int)).toNat ((0:Int),())),())
def Ul:Option (Bv):=(Aea).val
def Xo (a0:YI) (a1:YBs):Tree (YEp):=
 .ob (Bn a0 ((0:Int),()) ((4294967295:Int),())) fun r1=>
 .br (!r1.1) (
 .leaf ((0:Int),([]:List YB),(0:Int),(0:Int),([]:List YI),())) (
 .br ((a1.1.length:Int) != (32:Int)) (
 .leaf ((0:Int),([]:List YB),(0:Int),(0:Int),([]:List YI),())) (
 .ob (Bg a1) fun r2=>
 .ob Ul fun r3=>
 .leaf (a0.1,r2.1,(0:Int),r3.1,r3.2.1,())))
def La (a0:YI) (a1:YBs):Option (YEp):=(Xo a0 a1).val
def Ao0 (x1:Int×(List YB)×Int×Unit):Option ((Int×(List YB)×Int×Unit)⊕(YBs)):=
 letI u1:=x1.2.2;Tree.val (α:=(Int×(List YB)×Int×Unit)⊕(YBs)) <|
 .br (decide (u1.1≥(0:Int))) (
 .chk (decide ((0:Int)≤(i64.wrap ((8:Int)*u1.1)))) <|
 .chk (decide (x1.2.1.length+[((u8.wrap ((i64.wrap ((BitVec.ofInt (i64.bits) ((Int.fdiv x1.1 (2^(min ((i64.wrap ((8:Int)*u1.1))).toNat i64.bits)))) &&& BitVec.ofInt (i64.bits) ((255:Int))).toNat:Nat)))),())].length≤4294967296)) <|
 .leaf (.inl (x1.1,(x1.2.1++[((u8.wrap ((i64.wrap ((BitVec.ofInt (i64.bits) ((Int.fdiv x1.1 (2^(min ((i64.wrap ((8:Int)*u1.1))).toNat i64.bits)))) &&& BitVec.ofInt (i64.bits) ((255:Int))).toNat:Nat)))),())]),(i64.wrap (u1.1-(1:Int))),()))) (
 .leaf (.inr (x1.2.1,())))
def Avx (a0:YBs) (a1:YI) (a2:YI):Tree (YBs):=
 .chk (decide (([]:List YB).length+a0.1.length≤4294967296)) <|
 .br (decide (a2.1<(1:Int))) (
 .leaf ((([]:List YB)++a0.1),())) (
 .br (decide (a2.1>(6:Int))) (
 .leaf ((([]:List YB)++a0.1),())) (
 .ob (Ay Ao0 (a1.1,(([]:List YB)++a0.1),(i64.wrap (a2.1-(1:Int))),())) fun o2=>
 .leaf o2))
def Ir (a0:YBs) (a1:YI) (a2:YI):Option (YBs):=(Avx a0 a1 a2).val
def I9 (x1:(List YB)×(List YBs)×Int×Int×Unit):Option (((List YB)×(List YBs)×Int×Int×Unit)⊕(YBs)):=
 letI u1:=x1.2.2;Tree.val (α:=((List YB)×(List YBs)×Int×Int×Unit)⊕(YBs)) <|
 .br (decide (u1.2.1<u1.1)) (
 .ob (idx x1.2.1 u1.2.1) fun e2=>
 .chk (decide (x1.1.length+e2.1.length≤4294967296)) <|
 .leaf (.inl ((x1.1++e2.1),x1.2.1,u1.1,(i64.wrap (u1.2.1+(1:Int))),()))) (
 .leaf (.inr (x1.1,())))
def Aeb (a0:(List YBs)×Unit):Tree (YBs):=
 .ob (Ay I9 (([]:List YB),a0.1,(a0.1.length:Int),(0:Int),())) fun o3=>
 .leaf o3
def F0 (a0:(List YBs)×Unit):Option (YBs):=(Aeb a0).val
def Aec (a0:YI) (a1:YBs) (a2:YI) (a3:YI):Tree (YBs):=
 .ob (Mh a0) fun r1=>
 .br (!r1.1) (
 .leaf (([]:List YB),())) (
 .ob (Dw a1) fun r2=>
 .br (!r2.1) (
 .leaf (([]:List YB),())) (
 .ob (Bn a2 ((0:Int),()) ((4294967295:Int),())) fun r3=>
 .br (!r3.1) (
 .leaf (([]:List YB),())) (
 .ob (Bn a3 ((0:Int),()) ((281474976710655:Int),())) fun r4=>
 .br (!r4.1) (
 .leaf (([]:List YB),())) (
 .ob (Ir (([]:List YB),()) a2 ((4:Int),())) fun r5=>
 .ob (Ir (([]:List YB),()) a3 ((6:Int),())) fun r6=>
 .ob (F0 ([([((u8.wrap (a0.1)),())],()),a1,r5,r6],())) fun r7=>
 .leaf r7))))
def Pq (a0:YI) (a1:YBs) (a2:YI) (a3:YI):Option (YBs):=(Aec a0 a1 a2 a3).val
def V2 (a0:YI) (a1:Au):Tree (YBs):=
 letI u1:=a1.2.2.2.2.2.2.2;.ob (Mh a0) fun r1=>
 .br (!r1.1) (
 .leaf (([]:List YB),())) (
 .ob (Mj (a1.1,())) fun r2=>
 .br (!r2.1) (
 .leaf (([]:List YB),())) (
 .ob (M9 a1) fun r3=>
 .br (!r3.1) (
 .leaf (([]:List YB),())) (
 .ob (Pq a0 (a1.2.2.2.1,()) (u1.1,()) (u1.2.1,())) fun r4=>
 .ob (F0 ([([((116:Int),())],()),r4,([((u8.wrap (a1.1)),())],()),(u1.2.2.1,())],())) fun r5=>
 .leaf r5)))
def Hm (a0:YI) (a1:Au):Option (YBs):=(V2 a0 a1).val
def Aed (a0:Bv) (a1:YI):Tree ((Bool×Unit)):=
 .ob (Xn a0) fun r1=>
 .br (!r1.1) (
 .leaf (false,())) (
 .ob (Bn a1 ((0:Int),()) ((281474976710655:Int),())) fun r2=>
 .br (!r2.1) (
 .leaf (false,())) (
 .br (decide (a1.1>a0.1)) (
 .leaf (true,())) (
 .br (decide (a1.1≥(i64.wrap ((i64.wrap (a0.1-(1024:Int)))+(1:Int))))) (
 .ob (Po a0 a1) fun r3=>
 .leaf ((!r3.1),())) (
 .leaf (false,())))))
def Aee (a0:Bv) (a1:YI):Option ((Bool×Unit)):=(Aed a0 a1).val
def Ja (x3:Int×Int×Int×(List YI)×Int×(List YI)×Int×(List YI)×Unit):Option ((Int×Int×Int×(List YI)×Int×(List YI)×Int×(List YI)×Unit)⊕((Int×Int×(List YI)×Int×(List YI)×Int×(List YI)×Unit))):=
 letI u1:=x3.2.2;letI u2:=u1.2.2;letI u3:=u2.2.2;Tree.val (α:=(Int×Int×Int×(List YI)×Int×(List YI)×Int×(List YI)×Unit)⊕((Int×Int×(List YI)×Int×(List YI)×Int×(List YI)×Unit))) <|
 .br (decide (x3.2.1<x3.1)) (
 .chk (decide ((0:Int)≤x3.2.1)) <|
 .chk (decide ((0:Int)≤(x3.2.1%(1024:Int)))) <|
 .ob (idx u3.2.1 ((x3.2.1%(1024:Int))/(32:Int))) fun e4=>
 .chk (decide ((0:Int)≤x3.2.1)) <|
 .chk (decide ((0:Int)≤(x3.2.1%(32:Int)))) <|
 .ob (idx u3.2.1 ((x3.2.1%(1024:Int))/(32:Int))) fun e5=>
 let q6:=(x3.2.2.2.2.2.2.2.1.set (((x3.2.1%(1024:Int))/(32:Int))).toNat ((i64.wrap ((BitVec.ofInt (i64.bits) (e4.1) &&& ~~~ BitVec.ofInt (i64.bits) ((i64.wrap ((1:Int)*2^(min ((x3.2.1%(32:Int))).toNat i64.bits))))).toNat:Nat)),()))
 .leaf (.inl (x3.1,(i64.wrap (x3.2.1+(1:Int))),u1.1,u1.2.1,u2.1,u2.2.1,u3.1,q6,()))) (
 .leaf (.inr (x3.1,u1.1,u1.2.1,u2.1,u2.2.1,u3.1,u3.2.1,())))
def Aef (a0:Bv) (a1:YI):Tree (Bv×(Bool×Unit)):=
 .ob (Sb a0) fun r1=>
 .ob (Aee a0 a1) fun r2=>
 .br (!r2.1) (
 .leaf (r1,(false,()))) (
 .ob (Ay Ja (a1.1,(if (i64.wrap (a0.1+(1:Int)))<(i64.wrap ((i64.wrap (a1.1-(1024:Int)))+(1:Int)))then(i64.wrap ((i64.wrap (a1.1-(1024:Int)))+(1:Int)))else(i64.wrap (a0.1+(1:Int)))),a0.1,a0.2.1,(0:Int),([]:List YI),r1.1,r1.2.1,())) fun o7=>
 .chk (decide ((0:Int)≤o7.1)) <|
 .chk (decide ((0:Int)≤(o7.1%(1024:Int)))) <|
 .ob (idx o7.2.2.2.2.2.2.1 ((o7.1%(1024:Int))/(32:Int))) fun e8=>
 .chk (decide ((0:Int)≤o7.1)) <|
 .chk (decide ((0:Int)≤(o7.1%(32:Int)))) <|
 .ob (idx o7.2.2.2.2.2.2.1 ((o7.1%(1024:Int))/(32:Int))) fun e9=>
 let q10:=(o7.2.2.2.2.2.2.1.set (((o7.1%(1024:Int))/(32:Int))).toNat ((i64.wrap ((BitVec.ofInt (i64.bits) (e8.1) ||| BitVec.ofInt (i64.bits) ((i64.wrap ((1:Int)*2^(min ((o7.1%(32:Int))).toNat i64.bits))))).toNat:Nat)),()))
 .leaf (((if o7.2.1<o7.1 then o7.1 else o7.2.1),q10,()),(true,())))
def Aeg (a0:Bv) (a1:YI):Option (Bv×(Bool×Unit)):=(Aef a0 a1).val
def Ath:Tree (((List YI)×Unit)):=
 .leaf ([((1779033703:Int),()),((3144134277:Int),()),((1013904242:Int),()),((2773480762:Int),()),((1359893119:Int),()),((2600822924:Int),()),((528734635:Int),()),((1541459225:Int),())],())
def A39:Option (((List YI)×Unit)):=(Ath).val
def Alo:Tree (Jy):=
 .ob A39 fun r1=>
 .leaf (r1.1,([]:List YB),(0:Int),())
def Alp:Option (Jy):=(Alo).val
def Aeh (a0:Jy):Tree ((Bool×Unit)):=
 .ob (K9 (a0.1,()) ((8:Int),())) fun r1=>
 .br r1.1 (
 .ob (Bn (a0.2.2.1,()) ((0:Int),()) ((1048576:Int),())) fun r2=>
 .br r2.1 (
 .chk (decide ((0:Int)≤a0.2.2.1)) <|
 .leaf (((a0.2.2.1%(64:Int))==(a0.2.1.length:Int)),())) (
 .leaf (false,()))) (
 .leaf (false,()))
def Um (a0:Jy):Option ((Bool×Unit)):=(Aeh a0).val
def Arm (a0:YBs) (a1:YI) (a2:YI):Tree (YBs×(Bool×Unit)):=
 .br (decide (a1.1<(0:Int))) (
 .leaf ((([]:List YB),()),(false,()))) (
 .br (decide (a2.1<(0:Int))) (
 .leaf ((([]:List YB),()),(false,()))) (
 .br (decide (a1.1>(a0.1.length:Int))) (
 .leaf ((([]:List YB),()),(false,()))) (
 .br (decide (a2.1>(i64.wrap ((a0.1.length:Int)-a1.1)))) (
 .leaf ((([]:List YB),()),(false,()))) (
 .chk (decide ((0:Int)≤a1.1)) <|
 .chk (decide (a1.1≤(i64.wrap (a1.1+a2.1)))) <|
 .chk (decide ((i64.wrap (a1.1+a2.1))≤(a0.1.length:Int))) <|
 .chk (decide (([]:List YB).length+((a0.1.take ((i64.wrap (a1.1+a2.1))).toNat).drop (a1.1).toNat).length≤4294967296)) <|
 .leaf (((([]:List YB)++((a0.1.take ((i64.wrap (a1.1+a2.1))).toNat).drop (a1.1).toNat)),()),(true,()))))))
def Arn (a0:YBs) (a1:YI) (a2:YI):Option (YBs×(Bool×Unit)):=(Arm a0 a1 a2).val
def Mk (x2:Int×Int×Int×(List YB)×Int×Int×Unit):Option ((Int×Int×Int×(List YB)×Int×Int×Unit)⊕((Int×Int×Int×Unit))):=
 letI u1:=x2.2.2;letI u2:=u1.2.2;Tree.val (α:=(Int×Int×Int×(List YB)×Int×Int×Unit)⊕((Int×Int×Int×Unit))) <|
 .br (decide (u2.2.1<u2.1)) (
 .ob (idx u1.2.1 u2.2.1) fun e3=>
 .leaf (.inl (x2.1,x2.2.1,(i64.wrap ((i64.wrap ((256:Int)*u1.1))+(i64.wrap (e3.1)))),u1.2.1,u2.1,(i64.wrap (u2.2.1+(1:Int))),()))) (
 .leaf (.inr (x2.1,x2.2.1,u1.1,())))
def Am6 (a0:YBs) (a1:YI) (a2:YI):Tree (YI×YI×(Bool×Unit)):=
 .br (decide (a2.1<(1:Int))) (
 .leaf (((0:Int),()),((0:Int),()),(false,()))) (
 .br (decide (a2.1>(6:Int))) (
 .leaf (((0:Int),()),((0:Int),()),(false,()))) (
 .ob (Arn a0 a1 a2) fun r1=>
 .br (!r1.2.1) (
 .leaf (((0:Int),()),((0:Int),()),(false,()))) (
 .ob (Ay Mk (a1.1,a2.1,(0:Int),r1.1.1,(r1.1.1.length:Int),(0:Int),())) fun o4=>
 .leaf ((o4.2.2.1,()),((i64.wrap (o4.1+o4.2.1)),()),(true,())))))
def Am7 (a0:YBs) (a1:YI) (a2:YI):Option (YI×YI×(Bool×Unit)):=(Am6 a0 a1 a2).val
def Aro (a0:YI) (a1:YI):Tree (YI):=
 .br (decide (a1.1<(0:Int))) (
 .leaf ((i64.wrap ((BitVec.ofInt (i64.bits) (a0.1) &&& BitVec.ofInt (i64.bits) ((4294967295:Int))).toNat:Nat)),())) (
 .br (decide (a1.1>(31:Int))) (
 .leaf ((i64.wrap ((BitVec.ofInt (i64.bits) (a0.1) &&& BitVec.ofInt (i64.bits) ((4294967295:Int))).toNat:Nat)),())) (
 .chk (decide ((0:Int)≤a1.1)) <|
 .chk (decide ((0:Int)≤(i64.wrap ((32:Int)-a1.1)))) <|
 .leaf ((i64.wrap ((BitVec.ofInt (i64.bits) ((i64.wrap ((BitVec.ofInt (i64.bits) ((Int.fdiv (i64.wrap ((BitVec.ofInt (i64.bits) (a0.1) &&& BitVec.ofInt (i64.bits) ((4294967295:Int))).toNat:Nat)) (2^(min (a1.1).toNat i64.bits)))) ||| BitVec.ofInt (i64.bits) ((i64.wrap ((i64.wrap ((BitVec.ofInt (i64.bits) (a0.1) &&& BitVec.ofInt (i64.bits) ((4294967295:Int))).toNat:Nat))*2^(min ((i64.wrap ((32:Int)-a1.1))).toNat i64.bits))))).toNat:Nat))) &&& BitVec.ofInt (i64.bits) ((4294967295:Int))).toNat:Nat)),())))
def H3 (a0:YI) (a1:YI):Option (YI):=(Aro a0 a1).val
def He (x1:(List YB)×(List YI)×Int×Unit):Option (((List YB)×(List YI)×Int×Unit)⊕(((List YI)×Unit))):=
 letI u1:=x1.2.2;Tree.val (α:=((List YB)×(List YI)×Int×Unit)⊕(((List YI)×Unit))) <|
 .br (decide (u1.1<(16:Int))) (
 .ob (Am7 (x1.1,()) ((i64.wrap ((4:Int)*u1.1)),()) ((4:Int),())) fun r2=>
 .ob (idx x1.2.1 u1.1) fun e3=>
 let q4:=(x1.2.1.set (u1.1).toNat r2.1)
 .leaf (.inl (x1.1,q4,(i64.wrap (u1.1+(1:Int))),()))) (
 .leaf (.inr (x1.2.1,())))
def Hf (x6:(List YI)×Int×Unit):Option (((List YI)×Int×Unit)⊕(((List YI)×Unit))):=
 Tree.val (α:=((List YI)×Int×Unit)⊕(((List YI)×Unit))) <|
 .br (decide (x6.2.1<(64:Int))) (
 .ob (idx x6.1 (i64.wrap (x6.2.1-(15:Int)))) fun e7=>
 .ob (idx x6.1 (i64.wrap (x6.2.1-(2:Int)))) fun e8=>
 .ob (H3 e7 ((7:Int),())) fun r9=>
 .ob (H3 e7 ((18:Int),())) fun r10=>
 .ob (H3 e8 ((17:Int),())) fun r11=>
 .ob (H3 e8 ((19:Int),())) fun r12=>
 .ob (idx x6.1 (i64.wrap (x6.2.1-(7:Int)))) fun e13=>
 .ob (idx x6.1 (i64.wrap (x6.2.1-(16:Int)))) fun e14=>
 .ob (idx x6.1 x6.2.1) fun e15=>
 let q16:=(x6.1.set (x6.2.1).toNat ((i64.wrap ((BitVec.ofInt (i64.bits) ((i64.wrap ((i64.wrap ((i64.wrap (e13.1+e14.1))+(i64.wrap ((BitVec.ofInt (i64.bits) ((i64.wrap ((BitVec.ofInt (i64.bits) (r9.1) ^^^ BitVec.ofInt (i64.bits) (r10.1)).toNat:Nat))) ^^^ BitVec.ofInt (i64.bits) ((Int.fdiv e7.1 (2^(min ((3:Int)).toNat i64.bits))))).toNat:Nat))))+(i64.wrap ((BitVec.ofInt (i64.bits) ((i64.wrap ((BitVec.ofInt (i64.bits) (r11.1) ^^^ BitVec.ofInt (i64.bits) (r12.1)).toNat:Nat))) ^^^ BitVec.ofInt (i64.bits) ((Int.fdiv e8.1 (2^(min ((10:Int)).toNat i64.bits))))).toNat:Nat))))) &&& BitVec.ofInt (i64.bits) ((4294967295:Int))).toNat:Nat)),()))
 .leaf (.inl (q16,(i64.wrap (x6.2.1+(1:Int))),()))) (
 .leaf (.inr (x6.1,())))
def Pr (a0:YBs):Tree (((List YI)×Unit)):=
 .br ((a0.1.length:Int) != (64:Int)) (
 .leaf (([]:List YI),())) (
 .ob (Ay He (a0.1,(List.replicate ((64:Int)).toNat ((0:Int),())),(0:Int),())) fun o5=>
 .ob (Ay Hf (o5.1,(16:Int),())) fun o17=>
 .leaf o17)
def V3 (a0:YBs):Option (((List YI)×Unit)):=(Pr a0).val
def Agu (a0:YI):Tree YI:=.leaf (Sz a0.1,())
def Agv (a0:YI):Option YI:=(Agu a0).val
def Ati (a0:YI) (a1:YI):Tree (YI):=
 .leaf ((i64.wrap ((BitVec.ofInt (i64.bits) ((i64.wrap (a0.1+a1.1))) &&& BitVec.ofInt (i64.bits) ((4294967295:Int))).toNat:Nat)),())
def Xp (a0:YI) (a1:YI):Option (YI):=(Ati a0 a1).val
def Fs (x11:(List YI)×(List YI)×(List YI)×Int×Int×Int×Int×Int×Int×Int×Int×Int×Unit):Option (((List YI)×(List YI)×(List YI)×Int×Int×Int×Int×Int×Int×Int×Int×Int×Unit)⊕(((List YI)×(List YI)×Int×Int×Int×Int×Int×Int×Int×Int×Unit))):=
 letI u1:=x11.2.2.2;letI u2:=u1.2.2;letI u3:=u2.2.2;letI u4:=u3.2.2;Tree.val (α:=((List YI)×(List YI)×(List YI)×Int×Int×Int×Int×Int×Int×Int×Int×Int×Unit)⊕(((List YI)×(List YI)×Int×Int×Int×Int×Int×Int×Int×Int×Unit))) <|
 .br (decide (u4.2.2.1<(64:Int))) (
 .ob (H3 (u3.1,()) ((6:Int),())) fun r12=>
 .ob (H3 (u3.1,()) ((11:Int),())) fun r13=>
 .ob (H3 (u3.1,()) ((25:Int),())) fun r14=>
 .ob (Agv (u4.2.2.1,())) fun r15=>
 .ob (idx x11.2.2.1 u4.2.2.1) fun e16=>
 .ob (H3 (u1.1,()) ((2:Int),())) fun r17=>
 .ob (H3 (u1.1,()) ((13:Int),())) fun r18=>
 .ob (H3 (u1.1,()) ((22:Int),())) fun r19=>
 .ob (Xp (u2.2.1,()) ((i64.wrap ((i64.wrap ((i64.wrap ((i64.wrap (u4.2.1+(i64.wrap ((BitVec.ofInt (i64.bits) ((i64.wrap ((BitVec.ofInt (i64.bits) (r12.1) ^^^ BitVec.ofInt (i64.bits) (r13.1)).toNat:Nat))) ^^^ BitVec.ofInt (i64.bits) (r14.1)).toNat:Nat))))+(i64.wrap ((BitVec.ofInt (i64.bits) ((i64.wrap ((BitVec.ofInt (i64.bits) (u3.1) &&& BitVec.ofInt (i64.bits) (u3.2.1)).toNat:Nat))) ^^^ BitVec.ofInt (i64.bits) ((i64.wrap ((BitVec.ofInt (i64.bits) ((i64.wrap ((BitVec.ofInt (i64.bits) ((4294967295:Int)) ^^^ BitVec.ofInt (i64.bits) (u3.1)).toNat:Nat))) &&& BitVec.ofInt (i64.bits) (u4.1)).toNat:Nat)))).toNat:Nat))))+r15.1))+e16.1)),())) fun r20=>
 .ob (Xp ((i64.wrap ((i64.wrap ((i64.wrap ((i64.wrap (u4.2.1+(i64.wrap ((BitVec.ofInt (i64.bits) ((i64.wrap ((BitVec.ofInt (i64.bits) (r12.1) ^^^ BitVec.ofInt (i64.bits) (r13.1)).toNat:Nat))) ^^^ BitVec.ofInt (i64.bits) (r14.1)).toNat:Nat))))+(i64.wrap ((BitVec.ofInt (i64.bits) ((i64.wrap ((BitVec.ofInt (i64.bits) (u3.1) &&& BitVec.ofInt (i64.bits) (u3.2.1)).toNat:Nat))) ^^^ BitVec.ofInt (i64.bits) ((i64.wrap ((BitVec.ofInt (i64.bits) ((i64.wrap ((BitVec.ofInt (i64.bits) ((4294967295:Int)) ^^^ BitVec.ofInt (i64.bits) (u3.1)).toNat:Nat))) &&& BitVec.ofInt (i64.bits) (u4.1)).toNat:Nat)))).toNat:Nat))))+r15.1))+e16.1)),()) ((i64.wrap ((i64.wrap ((BitVec.ofInt (i64.bits) ((i64.wrap ((BitVec.ofInt (i64.bits) (r17.1) ^^^ BitVec.ofInt (i64.bits) (r18.1)).toNat:Nat))) ^^^ BitVec.ofInt (i64.bits) (r19.1)).toNat:Nat))+(i64.wrap ((BitVec.ofInt (i64.bits) ((i64.wrap ((BitVec.ofInt (i64.bits) ((i64.wrap ((BitVec.ofInt (i64.bits) (u1.1) &&& BitVec.ofInt (i64.bits) (u1.2.1)).toNat:Nat))) ^^^ BitVec.ofInt (i64.bits) ((i64.wrap ((BitVec.ofInt (i64.bits) (u1.1) &&& BitVec.ofInt (i64.bits) (u2.1)).toNat:Nat)))).toNat:Nat))) ^^^ BitVec.ofInt (i64.bits) ((i64.wrap ((BitVec.ofInt (i64.bits) (u1.2.1) &&& BitVec.ofInt (i64.bits) (u2.1)).toNat:Nat)))).toNat:Nat)))),())) fun r21=>
 .leaf (.inl (x11.1,x11.2.1,x11.2.2.1,r21.1,u1.1,u1.2.1,u2.1,r20.1,u3.1,u3.2.1,u4.1,(i64.wrap (u4.2.2.1+(1:Int))),()))) (
 .leaf (.inr (x11.1,x11.2.1,u1.1,u1.2.1,u2.1,u2.2.1,u3.1,u3.2.1,u4.1,u4.2.1,())))
def Fa (x23:(List YI)×(List YI)×(List YI)×Int×Int×Unit):Option (((List YI)×(List YI)×(List YI)×Int×Int×Unit)⊕(((List YI)×Unit))):=
 letI u1:=x23.2.2;letI u2:=u1.2.2;Tree.val (α:=((List YI)×(List YI)×(List YI)×Int×Int×Unit)⊕(((List YI)×Unit))) <|
 .br (decide (u2.1<u1.2.1)) (
 .ob (idx u1.1 u2.1) fun e24=>
 .ob (idx x23.1 u2.1) fun e25=>
 .ob (Xp e25 e24) fun r26=>
 .ob (idx x23.2.1 u2.1) fun e27=>
 let q28:=(x23.2.1.set (u2.1).toNat r26)
 .leaf (.inl (x23.1,q28,u1.1,u1.2.1,(i64.wrap (u2.1+(1:Int))),()))) (
 .leaf (.inr (x23.2.1,())))
def Ps (a0:(List YI)×Unit) (a1:YBs):Tree (((List YI)×Unit)):=
 .chk (decide (([]:List YI).length+a0.1.length≤4294967296)) <|
 .ob (K9 a0 ((8:Int),())) fun r1=>
 .br (!r1.1) (
 .leaf ((([]:List YI)++a0.1),())) (
 .br ((a1.1.length:Int) != (64:Int)) (
 .leaf ((([]:List YI)++a0.1),())) (
 .ob (V3 a1) fun r2=>
 .ob (idx a0.1 (0:Int)) fun e3=>
 .ob (idx a0.1 (1:Int)) fun e4=>
 .ob (idx a0.1 (2:Int)) fun e5=>
 .ob (idx a0.1 (3:Int)) fun e6=>
 .ob (idx a0.1 (4:Int)) fun e7=>
 .ob (idx a0.1 (5:Int)) fun e8=>
 .ob (idx a0.1 (6:Int)) fun e9=>
 .ob (idx a0.1 (7:Int)) fun e10=>
 .ob (Ay Fs (a0.1,(([]:List YI)++a0.1),r2.1,e3.1,e4.1,e5.1,e6.1,e7.1,e8.1,e9.1,e10.1,(0:Int),())) fun o22=>letI u1:=o22.2.2;letI u2:=u1.2.2;letI u3:=u2.2.2.2;
 .ob (Ay Fa (o22.1,o22.2.1,[(u1.1,()),(u1.2.1,()),(u2.1,()),(u2.2.1,()),(u2.2.2.1,()),(u3.1,()),(u3.2.1,()),(u3.2.2.1,())],([(u1.1,()),(u1.2.1,()),(u2.1,()),(u2.2.1,()),(u2.2.2.1,()),(u3.1,()),(u3.2.1,()),(u3.2.2.1,())].length:Int),(0:Int),())) fun o29=>
 .leaf o29))
def Lb (a0:(List YI)×Unit) (a1:YBs):Option (((List YI)×Unit)):=(Ps a0 a1).val
def Ej (x3:(List YI)×(List YB)×Unit):Option (((List YI)×(List YB)×Unit)⊕(((List YI)×(List YB)×Unit))):=
 Tree.val (α:=((List YI)×(List YB)×Unit)⊕(((List YI)×(List YB)×Unit))) <|
 .br (decide ((x3.2.1.length:Int)≥(64:Int))) (
 .chk (decide ((64:Int)≤(x3.2.1.length:Int))) <|
 .ob (Lb (x3.1,()) (((x3.2.1.take ((64:Int)).toNat).drop ((0:Int)).toNat),())) fun r4=>
 .chk (decide ((64:Int)≤(x3.2.1.length:Int))) <|
 .chk (decide ((x3.2.1.length:Int)≤(x3.2.1.length:Int))) <|
 .leaf (.inl (r4.1,((x3.2.1.take ((x3.2.1.length:Int)).toNat).drop ((64:Int)).toNat),()))) (
 .leaf (.inr x3))
def Pt (a0:(List YI)×Unit) (a1:YBs):Tree (((List YI)×Unit)×YBs):=
 .ob (Ay Ej (a0.1,a1.1,())) fun o5=>
 .leaf ((o5.1,()),(o5.2.1,()))
def Kw (a0:(List YI)×Unit) (a1:YBs):Option (((List YI)×Unit)×YBs):=(Pt a0 a1).val
def Aaa (a0:Jy) (a1:YBs):Tree (Jy):=
 .ob (Um a0) fun r1=>
 .br (!r1.1) (
 .chk (decide (([]:List YI).length+a0.1.length≤4294967296)) <|
 .ob (Bg (a0.2.1,())) fun r2=>
 .leaf ((([]:List YI)++a0.1),r2.1,a0.2.2.1,())) (
 .br (decide ((a1.1.length:Int)>(i64.wrap ((1048576:Int)-a0.2.2.1)))) (
 .chk (decide (([]:List YI).length+a0.1.length≤4294967296)) <|
 .ob (Bg (a0.2.1,())) fun r3=>
 .leaf ((([]:List YI)++a0.1),r3.1,a0.2.2.1,())) (
 .ob (F0 ([(a0.2.1,()),a1],())) fun r4=>
 .ob (Kw (a0.1,()) r4) fun r5=>
 .chk (decide (([]:List YI).length+r5.1.1.length≤4294967296)) <|
 .ob (Bg r5.2) fun r6=>
 .leaf ((([]:List YI)++r5.1.1),r6.1,(i64.wrap (a0.2.2.1+(a1.1.length:Int))),())))
def Aab (a0:Jy) (a1:YBs):Option (Jy):=(Aaa a0 a1).val
def Lc (x2:Int×(List YB)×Unit):Option ((Int×(List YB)×Unit)⊕((Int×(List YB)×Unit))):=
 Tree.val (α:=(Int×(List YB)×Unit)⊕((Int×(List YB)×Unit))) <|
 .chk (decide ((0:Int)≤(i64.wrap ((i64.wrap (x2.1+(x2.2.1.length:Int)))+(8:Int))))) <|
 .br (((i64.wrap ((i64.wrap (x2.1+(x2.2.1.length:Int)))+(8:Int)))%(64:Int)) != (0:Int)) (
 .chk (decide (x2.2.1.length+[((0:Int),())].length≤4294967296)) <|
 .leaf (.inl (x2.1,(x2.2.1++[((0:Int),())]),()))) (
 .leaf (.inr x2))
def Arp (a0:YI):Tree (YBs):=
 .ob (Bn a0 ((0:Int),()) ((1048576:Int),())) fun r1=>
 .br (!r1.1) (
 .leaf (([]:List YB),())) (
 .ob (Ay Lc (a0.1,[((128:Int),())],())) fun o3=>
 .chk (decide (o3.2.1.length+[((0:Int),()),((0:Int),())].length≤4294967296)) <|
 .ob (Ir ((o3.2.1++[((0:Int),()),((0:Int),())]),()) ((i64.wrap ((8:Int)*o3.1)),()) ((6:Int),())) fun r4=>
 .leaf r4)
def Arq (a0:YI):Option (YBs):=(Arp a0).val
def Ge (x1:(List YB)×(List YI)×Int×Int×Unit):Option (((List YB)×(List YI)×Int×Int×Unit)⊕(YBs)):=
 letI u1:=x1.2.2;Tree.val (α:=((List YB)×(List YI)×Int×Int×Unit)⊕(YBs)) <|
 .br (decide (u1.2.1<u1.1)) (
 .ob (idx x1.2.1 u1.2.1) fun e2=>
 .ob (Ir (x1.1,()) e2 ((4:Int),())) fun r3=>
 .leaf (.inl (r3.1,x1.2.1,u1.1,(i64.wrap (u1.2.1+(1:Int))),()))) (
 .leaf (.inr (x1.1,())))
def T1 (a0:(List YI)×Unit):Tree (YBs):=
 .ob (Ay Ge (([]:List YB),a0.1,(a0.1.length:Int),(0:Int),())) fun o4=>
 .leaf o4
def T2 (a0:(List YI)×Unit):Option (YBs):=(T1 a0).val
def Aac (a0:Jy):Tree (YBs):=
 .ob (Um a0) fun r1=>
 .br (!r1.1) (
 .leaf (([]:List YB),())) (
 .ob (Arq (a0.2.2.1,())) fun r2=>
 .ob (F0 ([(a0.2.1,()),r2],())) fun r3=>
 .ob (Kw (a0.1,()) r3) fun r4=>
 .ob (T2 r4.1) fun r5=>
 .leaf r5)
def Aad (a0:Jy):Option (YBs):=(Aac a0).val
def Arr (a0:YBs):Tree (YBs):=
 .br (decide ((a0.1.length:Int)>(1048576:Int))) (
 .leaf (([]:List YB),())) (
 .ob Alp fun r1=>
 .ob (Aab r1 a0) fun r2=>
 .ob (Aad r2) fun r3=>
 .leaf r3)
def Abr (a0:YBs):Option (YBs):=(Arr a0).val
def Eu (x3:YBs):Option (YBs⊕(YBs)):=
 Tree.val (α:=YBs⊕(YBs)) <|
 .br (decide ((x3.1.length:Int)<(64:Int))) (
 .chk (decide (x3.1.length+[((0:Int),())].length≤4294967296)) <|
 .leaf (.inl ((x3.1++[((0:Int),())]),()))) (
 .leaf (.inr x3))
def V4 (a0:YBs):Tree (YBs):=
 .br (decide ((a0.1.length:Int)>(1048576:Int))) (
 .leaf (([]:List YB),())) (
 .ob (Bg a0) fun r1=>
 .br (decide ((a0.1.length:Int)>(64:Int))) (
 .ob (Abr a0) fun r2=>
 .ob (Ay Eu r2) fun o4=>
 .leaf o4) (
 .ob (Ay Eu r1) fun o5=>
 .leaf o5))
def V5 (a0:YBs):Option (YBs):=(V4 a0).val
def Jb (x1:Int×(List YB)×(List YB)×Int×Int×Unit):Option ((Int×(List YB)×(List YB)×Int×Int×Unit)⊕(YBs)):=
 letI u1:=x1.2.2;Tree.val (α:=(Int×(List YB)×(List YB)×Int×Int×Unit)⊕(YBs)) <|
 .br (decide (u1.2.2.1<u1.2.1)) (
 .ob (idx u1.1 u1.2.2.1) fun e2=>
 .chk (decide (x1.2.1.length+[((u8.wrap ((BitVec.ofInt (u8.bits) (e2.1) ^^^ BitVec.ofInt (u8.bits) (x1.1)).toNat:Nat)),())].length≤4294967296)) <|
 .leaf (.inl (x1.1,(x1.2.1++[((u8.wrap ((BitVec.ofInt (u8.bits) (e2.1) ^^^ BitVec.ofInt (u8.bits) (x1.1)).toNat:Nat)),())]),u1.1,u1.2.1,(i64.wrap (u1.2.2.1+(1:Int))),()))) (
 .leaf (.inr (x1.2.1,())))
def Aei (a0:YBs) (a1:YB):Tree (YBs):=
 .ob (Ay Jb (a1.1,([]:List YB),a0.1,(a0.1.length:Int),(0:Int),())) fun o3=>
 .leaf o3
def Un (a0:YBs) (a1:YB):Option (YBs):=(Aei a0 a1).val
def Am8 (a0:YBs) (a1:YBs):Tree (YBs):=
 .br (decide ((a0.1.length:Int)>(1048576:Int))) (
 .leaf (([]:List YB),())) (
 .br (decide ((a1.1.length:Int)>(1048512:Int))) (
 .leaf (([]:List YB),())) (
 .ob (V5 a0) fun r1=>
 .ob (Un r1 ((92:Int),())) fun r2=>
 .ob (Un r1 ((54:Int),())) fun r3=>
 .ob (F0 ([r3,a1],())) fun r4=>
 .ob (Abr r4) fun r5=>
 .ob (F0 ([r2,r5],())) fun r6=>
 .ob (Abr r6) fun r7=>
 .leaf r7))
def V6 (a0:YBs) (a1:YBs):Option (YBs):=(Am8 a0 a1).val
def Ars (a0:YBs) (a1:YBs):Tree (YBs):=
 .ob (V6 a0 a1) fun r1=>
 .br ((r1.1.length:Int)==(0:Int)) (
 .leaf (([]:List YB),())) (
 .chk (decide ((16:Int)≤(r1.1.length:Int))) <|
 .ob (Bg (((r1.1.take ((16:Int)).toNat).drop ((0:Int)).toNat),())) fun r2=>
 .leaf r2)
def Akv (a0:YBs) (a1:YBs):Option (YBs):=(Ars a0 a1).val
def Aae (a0:YBs) (a1:YBs):Tree ((Bool×Unit)):=
 .br ((a0.1.length:Int)==(16:Int)) (
 .ob (Oa a0 a1) fun r1=>
 .leaf ((r1.1==(0:Int)),())) (
 .leaf (false,()))
def Aaf (a0:YBs) (a1:YBs):Option ((Bool×Unit)):=(Aae a0 a1).val
def Aag (a0:YBs) (a1:YBs) (a2:YI):Tree (YBs):=
 .ob (Bn a2 ((0:Int),()) ((6:Int),())) fun r1=>
 .br (!r1.1) (
 .leaf (([]:List YB),())) (
 .br (decide ((a1.1.length:Int)>(100:Int))) (
 .leaf (([]:List YB),())) (
 .ob (F0 ([([((115:Int),())],()),a1],())) fun r2=>
 .ob (Ir r2 a2 ((4:Int),())) fun r3=>
 .ob (V6 a0 r3) fun r4=>
 .leaf r4))
def Aah (a0:YBs) (a1:YBs) (a2:YI):Option (YBs):=(Aag a0 a1 a2).val
def Jc (x2:(List YB)×(List YB)×Int×(List YB)×Int×Unit):Option (((List YB)×(List YB)×Int×(List YB)×Int×Unit)⊕((Int×(List YB)×Unit))):=
 letI u1:=x2.2.2;Tree.val (α:=((List YB)×(List YB)×Int×(List YB)×Int×Unit)⊕((Int×(List YB)×Unit))) <|
 .br (decide ((x2.2.2.2.1.length:Int)<u1.1)) (
 .ob (Aah (x2.1,()) (x2.2.1,()) (u1.2.2.1,())) fun r3=>
 .chk (decide (x2.2.2.2.1.length+r3.1.length≤4294967296)) <|
 .leaf (.inl (x2.1,x2.2.1,u1.1,(u1.2.1++r3.1),(i64.wrap (u1.2.2.1+(1:Int))),()))) (
 .leaf (.inr (u1.1,u1.2.1,())))
def Aej (a0:YBs) (a1:YBs) (a2:YI):Tree (YBs):=
 .ob (Bn a2 ((0:Int),()) ((200:Int),())) fun r1=>
 .br (!r1.1) (
 .leaf (([]:List YB),())) (
 .br (decide ((a1.1.length:Int)>(100:Int))) (
 .leaf (([]:List YB),())) (
 .br (decide ((a0.1.length:Int)>(1048576:Int))) (
 .leaf (([]:List YB),())) (
 .ob (Ay Jc (a0.1,a1.1,a2.1,([]:List YB),(0:Int),())) fun o4=>
 .chk (decide ((0:Int)≤o4.1)) <|
 .chk (decide (o4.1≤(o4.2.1.length:Int))) <|
 .ob (Bg (((o4.2.1.take (o4.1).toNat).drop ((0:Int)).toNat),())) fun r5=>
 .leaf r5)))
def Aek (a0:YBs) (a1:YBs) (a2:YI):Option (YBs):=(Aej a0 a1 a2).val
def Oo (x2:(List YB)×(List YB)×(List YB)×Int×Int×Unit):Option (((List YB)×(List YB)×(List YB)×Int×Int×Unit)⊕(YBs)):=
 letI u1:=x2.2.2.2;Tree.val (α:=((List YB)×(List YB)×(List YB)×Int×Int×Unit)⊕(YBs)) <|
 .br (decide (u1.2.1<u1.1)) (
 .ob (idx x2.2.2.1 u1.2.1) fun e3=>
 .ob (idx x2.1 u1.2.1) fun e4=>
 .chk (decide (x2.2.1.length+[((u8.wrap ((BitVec.ofInt (u8.bits) (e3.1) ^^^ BitVec.ofInt (u8.bits) (e4.1)).toNat:Nat)),())].length≤4294967296)) <|
 .leaf (.inl (x2.1,(x2.2.1++[((u8.wrap ((BitVec.ofInt (u8.bits) (e3.1) ^^^ BitVec.ofInt (u8.bits) (e4.1)).toNat:Nat)),())]),x2.2.2.1,u1.1,(i64.wrap (u1.2.1+(1:Int))),()))) (
 .leaf (.inr (x2.2.1,())))
def Art (a0:YBs) (a1:YBs) (a2:YBs):Tree (YBs):=
 .br (decide ((a2.1.length:Int)>(200:Int))) (
 .leaf (([]:List YB),())) (
 .br (decide ((a1.1.length:Int)>(100:Int))) (
 .leaf (([]:List YB),())) (
 .br (decide ((a0.1.length:Int)>(1048576:Int))) (
 .leaf (([]:List YB),())) (
 .ob (Aek a0 a1 ((a2.1.length:Int),())) fun r1=>
 .ob (Ay Oo (a2.1,([]:List YB),r1.1,(r1.1.length:Int),(0:Int),())) fun o5=>
 .leaf o5)))
def Akw (a0:YBs) (a1:YBs) (a2:YBs):Option (YBs):=(Art a0 a1 a2).val
def Ael (a0:YBs) (a1:YI) (a2:Au):Tree (YBs×(Bool×Unit)):=
 letI u1:=a2.2.2.2.2.2.2.2;.ob (Hm a1 a2) fun r1=>
 .br ((a0.1.length:Int) != (32:Int)) (
 .leaf ((([]:List YB),()),(false,()))) (
 .br ((r1.1.length:Int)==(0:Int)) (
 .leaf ((([]:List YB),()),(false,()))) (
 .ob (Akv a0 r1) fun r2=>
 .ob (Aaf (u1.2.2.2.1,()) r2) fun r3=>
 .br (!r3.1) (
 .leaf ((([]:List YB),()),(false,()))) (
 .ob (Pq a1 (a2.2.2.2.1,()) (u1.1,()) (u1.2.1,())) fun r4=>
 .ob (Akw a0 r4 (u1.2.2.1,())) fun r5=>
 .leaf (r5,(true,())))))
def Aem (a0:YBs) (a1:YI) (a2:Au):Option (YBs×(Bool×Unit)):=(Ael a0 a1 a2).val
def Aen (a0:YEp) (a1:YI) (a2:Au):Tree (YEp×YBs×YI):=
 letI u1:=a2.2.2.2.2.2.2.2;.ob (Mg a0) fun r1=>
 .ob (Rc a0) fun r2=>
 .br (!r2.1) (
 .leaf (r1,(([]:List YB),()),((1:Int),()))) (
 .ob (Hm a1 a2) fun r3=>
 .br ((r3.1.length:Int)==(0:Int)) (
 .leaf (r1,(([]:List YB),()),((1:Int),()))) (
 .br (u1.1 != a0.1) (
 .leaf (r1,(([]:List YB),()),((1:Int),()))) (
 .ob (Aeg (a0.2.2.2.1,a0.2.2.2.2.1,()) (u1.2.1,())) fun r4=>
 .br (!r4.2.1) (
 .leaf (r1,(([]:List YB),()),((3:Int),()))) (
 .ob (Aem (a0.2.1,()) a1 a2) fun r5=>
 .br (!r5.2.1) (
 .leaf (r1,(([]:List YB),()),((2:Int),()))) (
 .leaf ((r1.1,r1.2.1,r1.2.2.1,r4.1.1,r4.1.2.1,()),r5.1,((0:Int),())))))))
def F2 (a0:YEp) (a1:YI) (a2:Au):Option (YEp×YBs×YI):=(Aen a0 a1 a2).val
def Rd (a0:Aj) (r1:Aj) (r8:YEp×YBs×YI) (a1:YI):Tree (Aj×YBs×YI):=
 letI u1:=r1.2.2.2.2.2.2.2;letI u2:=u1.2.2;letI u3:=u2.2.2;letI u4:=r8.1.2.2;.br (a0.2.2.2.2.2.2.2.2.2.2.2.2.2.1==(-1:Int)) (
 .leaf ((r1.1,r1.2.1,r8.1.1,r8.1.2.1,u4.1,u4.2.1,u4.2.2.1,u1.1,u1.2.1,u2.1,u2.2.1,u3.1,u3.2.1,(i64.wrap (a1.1+(5:Int))),u3.2.2.2.1,()),r8.2.1,((0:Int),()))) (
 .leaf ((r1.1,r1.2.1,r8.1.1,r8.1.2.1,u4.1,u4.2.1,u4.2.2.1,u1.1,u1.2.1,u2.1,u2.2.1,u3.1,u3.2.1,u3.2.2.1,u3.2.2.2.1,()),r8.2.1,((0:Int),())))
def Jd (a0:Aj) (r1:Aj) (r8:YEp×YBs×YI) (a1:YI):Tree (Aj×YBs×YI):=
 letI u1:=r1.2.2.2.2.2.2.2;letI u2:=u1.2.2.2;.br a0.2.2.2.2.2.2.2.2.2.2.2.2.1 (
 Rd a0 r1 r8 a1) (
 .leaf ((r1.1,r1.2.1,r8.1.1,r8.1.2.1,r8.1.2.2.1,r8.1.2.2.2.1,r8.1.2.2.2.2.1,u1.1,u1.2.1,u1.2.2.1,u2.1,u2.2.1,u2.2.2.1,u2.2.2.2.1,u2.2.2.2.2.1,()),r8.2.1,((0:Int),())))
def Re (a2:Au) (a0:Aj) (r1:Aj) (r8:YEp×YBs×YI) (a1:YI):Tree (Aj×YBs×YI):=
 letI u1:=r1.2.2;letI u2:=u1.2.2;letI u3:=u2.2.2.2.2.2.2.2.2;letI u4:=r8.1.2.2;.br (a2.2.2.2.2.2.2.2.1==a0.2.2.2.2.2.2.2.1) (
 .leaf ((r1.1,r1.2.1,u1.1,u1.2.1,u2.1,u2.2.1,u2.2.2.1,r8.1.1,r8.1.2.1,u4.1,u4.2.1,u4.2.2.1,u3.1,u3.2.1,u3.2.2.1,()),r8.2.1,((0:Int),()))) (
 .leaf ((r1.1,r1.2.1,r8.1.1,r8.1.2.1,u4.1,u4.2.1,u4.2.2.1,u1.1,u1.2.1,u2.1,u2.2.1,u2.2.2.1,true,(i64.wrap (a1.1+(5:Int))),([]:List YB),()),r8.2.1,((0:Int),())))
def Hg (a2:Au) (a0:Aj) (r1:Aj) (r8:YEp×YBs×YI) (a1:YI):Tree (Aj×YBs×YI):=
 .br (a2.2.2.2.2.2.2.2.1==a0.2.2.1) (
 Jd a0 r1 r8 a1) (
 Re a2 a0 r1 r8 a1)
def Ml (r8:YEp×YBs×YI) (r1:Aj) (a2:Au) (a0:Aj) (a1:YI):Tree (Aj×YBs×YI):=
 .br (r8.2.2.1 != (0:Int)) (
 .leaf (r1,(([]:List YB),()),r8.2.2)) (
 Hg a2 a0 r1 r8 a1)
def Abs (r7:YEp) (a0:Aj) (a2:Au) (r1:Aj) (a1:YI):Tree (Aj×YBs×YI):=
 .ob (F2 r7 ((i64.wrap ((1:Int)-a0.1)),()) a2) fun r8=>
 Ml r8 r1 a2 a0 a1
def Rf (a0:Aj) (a2:Au) (r1:Aj) (a1:YI):Tree (Aj×YBs×YI):=
 .ob (La ((i64.wrap (a0.2.2.1+(1:Int))),()) (a0.2.2.2.2.2.2.2.2.2.2.2.2.2.2.1,())) fun r7=>
 Abs r7 a0 a2 r1 a1
def Mm (a0:Aj) (a2:Au) (r1:Aj) (a1:YI):Tree (Aj×YBs×YI):=
 letI u1:=a0.2.2.2.2.2.2.2;.ob (F2 (u1.1,u1.2.1,u1.2.2.1,u1.2.2.2.1,u1.2.2.2.2.1,()) ((i64.wrap ((1:Int)-a0.1)),()) a2) fun r9=>
 Ml r9 r1 a2 a0 a1
def Abt (a2:Au) (a0:Aj) (r1:Aj) (a1:YI):Tree (Aj×YBs×YI):=
 .br (a2.2.2.2.2.2.2.2.1==(i64.wrap (a0.2.2.1+(1:Int)))) (
 Rf a0 a2 r1 a1) (
 Mm a0 a2 r1 a1)
def Kx (a0:Aj) (a2:Au) (r1:Aj) (a1:YI):Tree (Aj×YBs×YI):=
 letI u1:=a0.2.2.2;.ob (F2 (a0.2.2.1,u1.1,u1.2.1,u1.2.2.1,u1.2.2.2.1,()) ((i64.wrap ((1:Int)-a0.1)),()) a2) fun r12=>
 Ml r12 r1 a2 a0 a1
def Pu (a2:Au) (a0:Aj) (r1:Aj) (a1:YI):Tree (Aj×YBs×YI):=
 .br (a2.2.2.2.2.2.2.2.1==(i64.wrap (a0.2.2.1+(1:Int)))) (
 Rf a0 a2 r1 a1) (
 Kx a0 a2 r1 a1)
def Gf (a2:Au) (a0:Aj) (r1:Aj) (a1:YI):Tree (Aj×YBs×YI):=
 .br (a2.2.2.2.2.2.2.2.1==a0.2.2.2.2.2.2.2.1) (
 Abt a2 a0 r1 a1) (
 Pu a2 a0 r1 a1)
def Xq (a1:YI) (a0:Aj) (r1:Aj) (a2:Au):Tree (Aj×YBs×YI):=
 .br (decide (a1.1>a0.2.2.2.2.2.2.2.2.2.2.2.2.2.1)) (
 .leaf (r1,(([]:List YB),()),((9:Int),()))) (
 Gf a2 a0 r1 a1)
def Xr (a0:Aj) (a1:YI) (r1:Aj) (a2:Au):Tree (Aj×YBs×YI):=
 .br (a0.2.2.2.2.2.2.2.2.2.2.2.2.2.1 != (-1:Int)) (
 Xq a1 a0 r1 a2) (
 Gf a2 a0 r1 a1)
def Gg (a2:Au) (a0:Aj) (a1:YI) (r1:Aj):Tree (Aj×YBs×YI):=
 .br (a2.2.2.2.2.2.2.2.1==a0.2.2.2.2.2.2.2.1) (
 Xr a0 a1 r1 a2) (
 Gf a2 a0 r1 a1)
def H6 (a2:Au) (a0:Aj) (r1:Aj) (a1:YI):Tree (Aj×YBs×YI):=
 .br (a2.2.2.2.2.2.2.2.1==a0.2.2.2.2.2.2.2.1) (
 Mm a0 a2 r1 a1) (
 Kx a0 a2 r1 a1)
def Xs (a1:YI) (a0:Aj) (r1:Aj) (a2:Au):Tree (Aj×YBs×YI):=
 .br (decide (a1.1>a0.2.2.2.2.2.2.2.2.2.2.2.2.2.1)) (
 .leaf (r1,(([]:List YB),()),((9:Int),()))) (
 H6 a2 a0 r1 a1)
def Xt (a0:Aj) (a1:YI) (r1:Aj) (a2:Au):Tree (Aj×YBs×YI):=
 .br (a0.2.2.2.2.2.2.2.2.2.2.2.2.2.1 != (-1:Int)) (
 Xs a1 a0 r1 a2) (
 H6 a2 a0 r1 a1)
def Ky (a2:Au) (a0:Aj) (a1:YI) (r1:Aj):Tree (Aj×YBs×YI):=
 .br (a2.2.2.2.2.2.2.2.1==a0.2.2.2.2.2.2.2.1) (
 Xt a0 a1 r1 a2) (
 H6 a2 a0 r1 a1)
def Kz (a2:Au) (a0:Aj) (r1:Aj) (r76:YEp×YBs×YI) (a1:YI):Tree (Aj×YBs×YI):=
 letI u1:=r1.2.2.2;.br (a2.2.2.2.2.2.2.2.1==a0.2.2.1) (
 Jd a0 r1 r76 a1) (
 .leaf ((r1.1,r1.2.1,r76.1.1,r76.1.2.1,r76.1.2.2.1,r76.1.2.2.2.1,r76.1.2.2.2.2.1,r1.2.2.1,u1.1,u1.2.1,u1.2.2.1,u1.2.2.2.1,true,(i64.wrap (a1.1+(5:Int))),([]:List YB),()),r76.2.1,((0:Int),())))
def Pv (r76:YEp×YBs×YI) (r1:Aj) (a2:Au) (a0:Aj) (a1:YI):Tree (Aj×YBs×YI):=
 .br (r76.2.2.1 != (0:Int)) (
 .leaf (r1,(([]:List YB),()),r76.2.2)) (
 Kz a2 a0 r1 r76 a1)
def Xu (r75:YEp) (a0:Aj) (a2:Au) (r1:Aj) (a1:YI):Tree (Aj×YBs×YI):=
 .ob (F2 r75 ((i64.wrap ((1:Int)-a0.1)),()) a2) fun r76=>
 Pv r76 r1 a2 a0 a1
def Xv (a0:Aj) (a2:Au) (r1:Aj) (a1:YI):Tree (Aj×YBs×YI):=
 .ob (La ((i64.wrap (a0.2.2.1+(1:Int))),()) (a0.2.2.2.2.2.2.2.2.2.2.2.2.2.2.1,())) fun r75=>
 Xu r75 a0 a2 r1 a1
def K0 (a0:Aj) (a2:Au) (r1:Aj) (a1:YI):Tree (Aj×YBs×YI):=
 letI u1:=a0.2.2.2;.ob (F2 (a0.2.2.1,u1.1,u1.2.1,u1.2.2.1,u1.2.2.2.1,()) ((i64.wrap ((1:Int)-a0.1)),()) a2) fun r77=>
 Pv r77 r1 a2 a0 a1
def K3 (a2:Au) (a0:Aj) (r1:Aj) (a1:YI):Tree (Aj×YBs×YI):=
 .br (a2.2.2.2.2.2.2.2.1==(i64.wrap (a0.2.2.1+(1:Int)))) (
 Xv a0 a2 r1 a1) (
 K0 a0 a2 r1 a1)
def V7 (a0:Aj) (a1:YI) (a2:Au):Tree (Aj×YBs×YI):=
 letI u1:=a0.2.2;letI u2:=u1.2.2.2.2.2;letI u3:=a2.2.2.2;letI u4:=u3.2.2.2.2;.ob (E9 a0) fun r1=>
 .ob (Fz a0) fun r2=>
 .br (!r2.1) (
 .leaf (r1,(([]:List YB),()),((1:Int),()))) (
 .ob (Bn a1 ((0:Int),()) ((1000000:Int),())) fun r3=>
 .br (!r3.1) (
 .leaf (r1,(([]:List YB),()),((1:Int),()))) (
 .ob (Mj (a2.1,())) fun r4=>
 .br (!r4.1) (
 .leaf (r1,(([]:List YB),()),((1:Int),()))) (
 .ob (M9 a2) fun r5=>
 .br (!r5.1) (
 .leaf (r1,(([]:List YB),()),((1:Int),()))) (
 .br u2.2.2.2.2.2.1 (
 .br (decide ((a0.2.2.2.2.2.2.2.2.2.2.2.2.2.2.1.length:Int)>(0:Int))) (
 .ob (Oa (u3.1,()) (a0.2.1,())) fun r6=>
 .br (r6.1 != (0:Int)) (
 .leaf (r1,(([]:List YB),()),((8:Int),()))) (
 .br (!(u4.1==u1.1)) (
 .br (!(u4.1==u2.1)) (
 .br (!(u4.1==(i64.wrap (u1.1+(1:Int))))) (
 .leaf (r1,(([]:List YB),()),((8:Int),()))) (
 Gg a2 a0 a1 r1)) (
 Gg a2 a0 a1 r1)) (
 Gg a2 a0 a1 r1))) (
 .ob (Oa (u3.1,()) (a0.2.1,())) fun r61=>
 .br (r61.1 != (0:Int)) (
 .leaf (r1,(([]:List YB),()),((8:Int),()))) (
 .br (!(u4.1==u1.1)) (
 .br (!(u4.1==u2.1)) (
 .leaf (r1,(([]:List YB),()),((8:Int),()))) (
 Ky a2 a0 a1 r1)) (
 Ky a2 a0 a1 r1)))) (
 .br (decide ((a0.2.2.2.2.2.2.2.2.2.2.2.2.2.2.1.length:Int)>(0:Int))) (
 .ob (Oa (u3.1,()) (a0.2.1,())) fun r74=>
 .br (r74.1 != (0:Int)) (
 .leaf (r1,(([]:List YB),()),((8:Int),()))) (
 .br (!(u4.1==u1.1)) (
 .br (!(u4.1==(i64.wrap (u1.1+(1:Int))))) (
 .leaf (r1,(([]:List YB),()),((8:Int),()))) (
 K3 a2 a0 r1 a1)) (
 K3 a2 a0 r1 a1))) (
 .ob (Oa (u3.1,()) (a0.2.1,())) fun r81=>
 .br (r81.1 != (0:Int)) (
 .leaf (r1,(([]:List YB),()),((8:Int),()))) (
 .br (!(u4.1==u1.1)) (
 .leaf (r1,(([]:List YB),()),((8:Int),()))) (
 K0 a0 a2 r1 a1))))))))
def Ld (a0:Aj) (a1:YI) (a2:Au):Option (Aj×YBs×YI):=(V7 a0 a1 a2).val
def Aeo (a0:Aj) (a1:YI):Tree (YBs×(Bool×Unit)):=
 letI u1:=a0.2.2;letI u2:=u1.2.2.2.2.2;letI u3:=u2.2.2.2.2.2;.ob (Fz a0) fun r1=>
 .br (!r1.1) (
 .leaf ((([]:List YB),()),(false,()))) (
 .br u3.1 (
 .br (a1.1==u2.1) (
 .ob (Bg (u2.2.1,())) fun r2=>
 .leaf (r2,(true,()))) (
 .br (a1.1==u1.1) (
 .ob (Bg (u1.2.1,())) fun r3=>
 .leaf (r3,(true,()))) (
 .br (decide ((a0.2.2.2.2.2.2.2.2.2.2.2.2.2.2.1.length:Int)>(0:Int))) (
 .br (a1.1==(i64.wrap (u1.1+(1:Int)))) (
 .ob (Bg (u3.2.2.1,())) fun r4=>
 .leaf (r4,(true,()))) (
 .leaf ((([]:List YB),()),(false,())))) (
 .leaf ((([]:List YB),()),(false,())))))) (
 .br (a1.1==u1.1) (
 .ob (Bg (u1.2.1,())) fun r5=>
 .leaf (r5,(true,()))) (
 .br (decide ((a0.2.2.2.2.2.2.2.2.2.2.2.2.2.2.1.length:Int)>(0:Int))) (
 .br (a1.1==(i64.wrap (u1.1+(1:Int)))) (
 .ob (Bg (u3.2.2.1,())) fun r6=>
 .leaf (r6,(true,()))) (
 .leaf ((([]:List YB),()),(false,())))) (
 .leaf ((([]:List YB),()),(false,()))))))
def Uo (a0:Aj) (a1:YI):Option (YBs×(Bool×Unit)):=(Aeo a0 a1).val
def Am9 (a0:YBs) (a1:YBs) (a2:YBs):Tree (A2):=
 .ob (Bg a0) fun r1=>
 .ob (Bg a1) fun r2=>
 .ob (Bg a2) fun r3=>
 .leaf ((16:Int),(0:Int),(0:Int),([]:List YB),r2.1,(0:Int),(0:Int),r3.1,r1.1,(0:Int),(0:Int),(0:Int),())
def Ana (a0:YBs) (a1:YBs) (a2:YBs):Option (A2):=(Am9 a0 a1 a2).val
def Le (x1:(List Am)×Int×Int×Int×Int×Unit):Option (((List Am)×Int×Int×Int×Int×Unit)⊕(YI⊕(Unit))):=
 letI u1:=x1.2.2;Tree.val (α:=((List Am)×Int×Int×Int×Int×Unit)⊕(YI⊕(Unit))) <|
 .br (decide (u1.1<x1.2.1)) (
 .ob (idx x1.1 u1.1) fun e2=>
 .br (and (e2.1==u1.2.1) (and (e2.2.1==u1.2.2.1) true)) (
 .leaf (.inr (.inl (u1.1,())))) (
 .leaf (.inl (x1.1,x1.2.1,(i64.wrap (u1.1+(1:Int))),u1.2.1,u1.2.2.1,())))) (
 .leaf (.inr (.inr ())))
def Aep (a0:A7) (a1:Bw):Tree (YI):=
 .ob (Ay Le (a0.2.2.1,(a0.2.2.1.length:Int),(0:Int),a1.1,a1.2.1,())) fun o3=>
 .sm o3 (fun o4=>
 .leaf o4) (fun o5=>
 .leaf ((-1:Int),()))
def Up (a0:A7) (a1:Bw):Option (YI):=(Aep a0 a1).val
def Aeq (a0:A7) (a1:YI) (a2:Bw) (a3:YBs):Tree (A7×(Bool×Unit)):=
 .ob (Dk a0) fun r1=>
 .ob (Up a0 a2) fun r2=>
 .ob (M8 a0) fun r3=>
 .br (!r3.1) (
 .leaf (r1,(false,()))) (
 .ob (Bn a1 ((0:Int),()) ((1000000:Int),())) fun r4=>
 .br (!r4.1) (
 .leaf (r1,(false,()))) (
 .br (decide (r2.1<(0:Int))) (
 .leaf (r1,(false,()))) (
 .ob (idx a0.2.2.1 r2.1) fun e5=>
 .ob (Cv a3 (e5.2.2.1,())) fun r6=>
 .br (!r6.1) (
 .leaf (r1,(false,()))) (
 .ob (idx a0.2.2.1 r2.1) fun e7=>
 .br (decide (a1.1>e7.2.2.2.1)) (
 .leaf (r1,(false,()))) (
 .chk (decide ((0:Int)≤r2.1)) <|
 .chk (decide (r2.1≤(r1.2.2.1.length:Int))) <|
 .chk (decide ((0:Int)≤(i64.wrap (r2.1+(1:Int))))) <|
 .chk (decide ((i64.wrap (r2.1+(1:Int)))≤(r1.2.2.1.length:Int))) <|
 .chk (decide ((r1.2.2.1.length:Int)≤(r1.2.2.1.length:Int))) <|
 .chk (decide (((r1.2.2.1.take (r2.1).toNat).drop ((0:Int)).toNat).length+((r1.2.2.1.take ((r1.2.2.1.length:Int)).toNat).drop ((i64.wrap (r2.1+(1:Int)))).toNat).length≤4294967296)) <|
 .chk (Nat.ble ((r1.2.2.1.take (r2.1).toNat).drop ((0:Int)).toNat).length (((i64.wrap (r2.1+(1:Int)))).toNat)) <|
 .chk (Nat.blt 0 r1.2.2.1.length) <|
 .leaf ((a2.1,a2.2.1,(((r1.2.2.1.take (r2.1).toNat).drop ((0:Int)).toNat)++((r1.2.2.1.take ((r1.2.2.1.length:Int)).toNat).drop ((i64.wrap (r2.1+(1:Int)))).toNat)),()),(true,())))))))
def Uq (a0:A7) (a1:YI) (a2:Bw) (a3:YBs):Option (A7×(Bool×Unit)):=(Aeq a0 a1 a2 a3).val
def T3 (a0:YI):Tree (YBs):=
 .ob (Bn a0 ((0:Int),()) ((4294967295:Int),())) fun r1=>
 .br (!r1.1) (
 .leaf (([]:List YB),())) (
 .ob (Ir (([]:List YB),()) a0 ((4:Int),())) fun r2=>
 .leaf r2)
def Nu (a0:YI):Option (YBs):=(T3 a0).val
def Je (x2:(List YB)×(List YB)×Int×(List YB)×(List YB)×Int×Unit):Option (((List YB)×(List YB)×Int×(List YB)×(List YB)×Int×Unit)⊕((Int×(List YB)×Unit))):=
 letI u1:=x2.2.2;Tree.val (α:=((List YB)×(List YB)×Int×(List YB)×(List YB)×Int×Unit)⊕((Int×(List YB)×Unit))) <|
 .br (decide ((x2.2.2.2.1.length:Int)<u1.1)) (
 .ob (F0 ([(u1.2.2.1,()),(x2.2.1,()),([((u8.wrap (u1.2.2.2.1)),())],())],())) fun r3=>
 .ob (V6 (x2.1,()) r3) fun r4=>
 .chk (decide (x2.2.2.2.1.length+r4.1.length≤4294967296)) <|
 .leaf (.inl (x2.1,x2.2.1,u1.1,(u1.2.1++r4.1),r4.1,(i64.wrap (u1.2.2.2.1+(1:Int))),()))) (
 .leaf (.inr (u1.1,u1.2.1,())))
def Aer (a0:YBs) (a1:YBs) (a2:YI):Tree (YBs×(Bool×Unit)):=
 .ob (Bn a2 ((0:Int),()) ((8160:Int),())) fun r1=>
 .br (!r1.1) (
 .leaf ((([]:List YB),()),(false,()))) (
 .br (decide ((a1.1.length:Int)>(100:Int))) (
 .leaf ((([]:List YB),()),(false,()))) (
 .br (decide ((a0.1.length:Int)>(1048576:Int))) (
 .leaf ((([]:List YB),()),(false,()))) (
 .ob (Ay Je (a0.1,a1.1,a2.1,([]:List YB),([]:List YB),(1:Int),())) fun o5=>
 .chk (decide ((0:Int)≤o5.1)) <|
 .chk (decide (o5.1≤(o5.2.1.length:Int))) <|
 .ob (Bg (((o5.2.1.take (o5.1).toNat).drop ((0:Int)).toNat),())) fun r6=>
 .leaf (r6,(true,())))))
def Aes (a0:YBs) (a1:YBs) (a2:YI):Option (YBs×(Bool×Unit)):=(Aer a0 a1 a2).val
def Aet (a0:YBs) (a1:ByteArray×Unit):Tree (YBs):=
 .chk (decide (a1.1.size≤4294967296)) <|
 .ob (Aes a0 ((Pf a1.1),()) ((32:Int),())) fun r1=>
 .leaf r1.1
def Ur (a0:YBs) (a1:ByteArray×Unit):Option (YBs):=(Aet a0 a1).val
def Anb (a0:Aj):Tree (Aj×(Bool×Unit)):=
 .ob (E9 a0) fun r1=>letI u1:=r1.2.2.2;
 .ob (Fz a0) fun r2=>
 .br (!r2.1) (
 .leaf (r1,(false,()))) (
 .br (a0.1 != (1:Int)) (
 .leaf (r1,(false,()))) (
 .br (a0.2.2.1==(4294967295:Int)) (
 .leaf (r1,(false,()))) (
 .ob (Ur (a0.2.2.2.1,()) ((C8 [114,101,107,101,121]),())) fun r3=>
 .ob (La ((i64.wrap (a0.2.2.1+(1:Int))),()) r3) fun r4=>
 .leaf ((r1.1,r1.2.1,r4.1,r4.2.1,r4.2.2.1,r4.2.2.2.1,r4.2.2.2.2.1,r1.2.2.1,u1.1,u1.2.1,u1.2.2.1,u1.2.2.2.1,true,(-1:Int),u1.2.2.2.2.2.2.2.2.2.2.2.1,()),(true,())))))
def Anc (a0:Aj):Option (Aj×(Bool×Unit)):=(Anb a0).val
def T4 (a0:Aj) (a1:YI) (a2:YBs):Tree (Aj×YI):=
 .ob (E9 a0) fun r1=>
 .ob (Fz a0) fun r2=>
 .br (!r2.1) (
 .leaf (r1,((6:Int),()))) (
 .br (a0.1 != (1:Int)) (
 .leaf (r1,((6:Int),()))) (
 .ob (Bn a1 ((0:Int),()) ((4294967294:Int),())) fun r3=>
 .br (!r3.1) (
 .leaf (r1,((6:Int),()))) (
 .ob (Nu ((i64.wrap (a1.1+(1:Int))),())) fun r4=>
 .ob (Cv a2 r4) fun r5=>
 .br (!r5.1) (
 .leaf (r1,((6:Int),()))) (
 .br (a1.1==(i64.wrap (a0.2.2.1-(1:Int)))) (
 .leaf (r1,((0:Int),()))) (
 .ob (Anc a0) fun r6=>
 .br (a1.1 != a0.2.2.1) (
 .leaf (r1,((6:Int),()))) (
 .br (!r6.2.1) (
 .leaf (r1,((6:Int),()))) (
 .leaf (r6.1,((0:Int),())))))))))
def Nv (a0:Aj) (a1:YI) (a2:YBs):Option (Aj×YI):=(T4 a0 a1 a2).val
def Ane (a0:YBs) (a1:YI) (a2:YBs) (a3:YI) (a4:YI) (a5:YI) (a6:YBs):Tree (Au×(Bool×Unit)):=
 .ob (Bg a2) fun r1=>
 .ob (Bg a6) fun r2=>
 .br ((a0.1.length:Int) != (32:Int)) (
 .leaf (((0:Int),(0:Int),([]:List YB),([]:List YB),(0:Int),([]:List YB),([]:List YB),(0:Int),(0:Int),([]:List YB),([]:List YB),()),(false,()))) (
 .ob (Mh a1) fun r3=>
 .br (!r3.1) (
 .leaf (((0:Int),(0:Int),([]:List YB),([]:List YB),(0:Int),([]:List YB),([]:List YB),(0:Int),(0:Int),([]:List YB),([]:List YB),()),(false,()))) (
 .ob (Mj a5) fun r4=>
 .br (!r4.1) (
 .leaf (((0:Int),(0:Int),([]:List YB),([]:List YB),(0:Int),([]:List YB),([]:List YB),(0:Int),(0:Int),([]:List YB),([]:List YB),()),(false,()))) (
 .ob (M9 (a5.1,(0:Int),([]:List YB),r1.1,(0:Int),([]:List YB),([]:List YB),a3.1,a4.1,r2.1,(List.replicate ((16:Int)).toNat ((0:Int),())),())) fun r5=>
 .br (!r5.1) (
 .leaf (((0:Int),(0:Int),([]:List YB),([]:List YB),(0:Int),([]:List YB),([]:List YB),(0:Int),(0:Int),([]:List YB),([]:List YB),()),(false,()))) (
 .ob (Pq a1 a2 a3 a4) fun r6=>
 .ob (Akw a0 r6 a6) fun r7=>
 .ob (Hm a1 (a5.1,(0:Int),([]:List YB),r1.1,(0:Int),([]:List YB),([]:List YB),a3.1,a4.1,r7.1,(List.replicate ((16:Int)).toNat ((0:Int),())),())) fun r8=>
 .ob (Akv a0 r8) fun r9=>
 .leaf ((a5.1,(0:Int),([]:List YB),r1.1,(0:Int),([]:List YB),([]:List YB),a3.1,a4.1,r7.1,r9.1,()),(true,()))))))
def V8 (a0:YBs) (a1:YI) (a2:YBs) (a3:YI) (a4:YI) (a5:YI) (a6:YBs):Option (Au×(Bool×Unit)):=(Ane a0 a1 a2 a3 a4 a5 a6).val
def Aeu (a0:YEp) (a1:YI) (a2:YBs) (a3:YI) (a4:YBs):Tree (YEp×Au×YI):=
 letI u1:=a0.2.2;.ob (Mg a0) fun r1=>letI u2:=r1.2.2;
 .ob (Rc a0) fun r2=>
 .br (!r2.1) (
 .leaf (r1,((0:Int),(0:Int),([]:List YB),([]:List YB),(0:Int),([]:List YB),([]:List YB),(0:Int),(0:Int),([]:List YB),([]:List YB),()),((1:Int),()))) (
 .ob (V8 (a0.2.1,()) a1 a2 (a0.1,()) ((0:Int),()) a3 a4) fun r3=>
 .br (!r3.2.1) (
 .leaf (r1,((0:Int),(0:Int),([]:List YB),([]:List YB),(0:Int),([]:List YB),([]:List YB),(0:Int),(0:Int),([]:List YB),([]:List YB),()),((1:Int),()))) (
 .br (a3.1==(4:Int)) (
 .br (decide (u1.1≥(281474976709656:Int))) (
 .leaf (r1,((0:Int),(0:Int),([]:List YB),([]:List YB),(0:Int),([]:List YB),([]:List YB),(0:Int),(0:Int),([]:List YB),([]:List YB),()),((4:Int),()))) (
 .br (u1.1==(281474976710656:Int)) (
 .leaf (r1,((0:Int),(0:Int),([]:List YB),([]:List YB),(0:Int),([]:List YB),([]:List YB),(0:Int),(0:Int),([]:List YB),([]:List YB),()),((5:Int),()))) (
 .ob (V8 (a0.2.1,()) a1 a2 (a0.1,()) (u1.1,()) a3 a4) fun r4=>
 .leaf ((r1.1,r1.2.1,(i64.wrap (u2.1+(1:Int))),u2.2.1,u2.2.2.1,()),r4.1,((0:Int),()))))) (
 .br (u1.1==(281474976710656:Int)) (
 .leaf (r1,((0:Int),(0:Int),([]:List YB),([]:List YB),(0:Int),([]:List YB),([]:List YB),(0:Int),(0:Int),([]:List YB),([]:List YB),()),((5:Int),()))) (
 .ob (V8 (a0.2.1,()) a1 a2 (a0.1,()) (u1.1,()) a3 a4) fun r5=>
 .leaf ((r1.1,r1.2.1,(i64.wrap (u2.1+(1:Int))),u2.2.1,u2.2.2.1,()),r5.1,((0:Int),()))))))
def Aev (a0:YEp) (a1:YI) (a2:YBs) (a3:YI) (a4:YBs):Option (YEp×Au×YI):=(Aeu a0 a1 a2 a3 a4).val
def V9 (a0:Aj) (a1:YI) (a2:YBs):Tree (Aj×Au×YI):=
 letI u1:=a0.2.2.2;.ob (E9 a0) fun r1=>letI u2:=r1.2.2.2.2.2.2.2;letI u3:=u2.2.2.2;
 .ob (Fz a0) fun r2=>
 .br (!r2.1) (
 .leaf (r1,((0:Int),(0:Int),([]:List YB),([]:List YB),(0:Int),([]:List YB),([]:List YB),(0:Int),(0:Int),([]:List YB),([]:List YB),()),((1:Int),()))) (
 .ob (Aev (a0.2.2.1,u1.1,u1.2.1,u1.2.2.1,u1.2.2.2.1,()) (a0.1,()) (a0.2.1,()) a1 a2) fun r3=>
 .leaf ((r1.1,r1.2.1,r3.1.1,r3.1.2.1,r3.1.2.2.1,r3.1.2.2.2.1,r3.1.2.2.2.2.1,u2.1,u2.2.1,u2.2.2.1,u3.1,u3.2.1,u3.2.2.1,u3.2.2.2.1,u3.2.2.2.2.1,()),r3.2.1,r3.2.2))
def Ch (a0:Aj) (a1:YI) (a2:YBs):Option (Aj×Au×YI):=(V9 a0 a1 a2).val
def Aru (a0:Aj):Tree (Aj×Au×YI):=
 .ob (Fz a0) fun r1=>
 .br (!r1.1) (
 .ob (E9 a0) fun r2=>
 .leaf (r2,((0:Int),(0:Int),([]:List YB),([]:List YB),(0:Int),([]:List YB),([]:List YB),(0:Int),(0:Int),([]:List YB),([]:List YB),()),((6:Int),()))) (
 .br (a0.1 != (1:Int)) (
 .ob (E9 a0) fun r3=>
 .leaf (r3,((0:Int),(0:Int),([]:List YB),([]:List YB),(0:Int),([]:List YB),([]:List YB),(0:Int),(0:Int),([]:List YB),([]:List YB),()),((6:Int),()))) (
 .ob (Nu (a0.2.2.1,())) fun r4=>
 .ob (Ch a0 ((8:Int),()) r4) fun r5=>
 .leaf (r5.1,r5.2.1,r5.2.2)))
def Abu (a0:Aj):Option (Aj×Au×YI):=(Aru a0).val
def Anf (a0:YBs) (a1:YBs):Tree (A2):=
 .ob (Bg a0) fun r1=>
 .ob (Bg a1) fun r2=>
 .leaf ((15:Int),(0:Int),(0:Int),([]:List YB),([]:List YB),(0:Int),(0:Int),r2.1,r1.1,(0:Int),(0:Int),(0:Int),())
def Ang (a0:YBs) (a1:YBs):Option (A2):=(Anf a0 a1).val
def Aew (a0:Aj) (a1:Au):Tree (A2):=
 .ob (Hm (a0.1,()) a1) fun r1=>
 .ob (Ang (a0.2.2.2.1,()) r1) fun r2=>
 .leaf r2
def Fb (a0:Aj) (a1:Au):Option (A2):=(Aew a0 a1).val
def T5 (a0:A4) (a1:YI) (a2:YBs):Tree (A4×((List Bj)×Unit)×((List A2)×Unit)):=
 letI u1:=a0.2.2;letI u2:=u1.2.2.2;letI u3:=u2.2.2.2;letI u4:=u3.2.2.2;letI u5:=u4.2.2.2;letI u6:=u5.2.2.2.2;letI u7:=u6.2.2;letI u8:=u7.2.2;.ob (Nv (u1.2.1,u1.2.2.1,u2.1,u2.2.1,u2.2.2.1,u3.1,u3.2.1,u3.2.2.1,u4.1,u4.2.1,u4.2.2.1,u5.1,u5.2.1,u5.2.2.1,u5.2.2.2.1,()) a1 a2) fun r1=>letI u9:=r1.1.2.2;letI u10:=u9.2.2;letI u11:=u10.2.2;letI u12:=u11.2.2;letI u13:=u12.2.2;letI u14:=u13.2.2;
 .br (r1.2.1 != (0:Int)) (
 .leaf (a0,(([]:List Bj),()),(([]:List A2),()))) (
 .br (u9.1 != u2.1) (
 .ob (Bg (u1.1,())) fun r2=>
 .ob (Bg (u9.2.1,())) fun r3=>
 .chk (decide (([]:List A2).length+[((10:Int),(0:Int),(1:Int),([]:List YB),r2.1,u9.1,(0:Int),([]:List YB),r3.1,(0:Int),(0:Int),(0:Int),())].length≤4294967296)) <|
 .ob (Abu r1.1) fun r4=>letI u15:=r4.1.2.2.2;letI u16:=u15.2.2.2;letI u17:=u16.2.2.2.2;
 .br (r4.2.2.1 != (0:Int)) (
 .leaf ((a0.1,a0.2.1,u1.1,r1.1.1,r1.1.2.1,u9.1,u9.2.1,u10.1,u10.2.1,u11.1,u11.2.1,u12.1,u12.2.1,u13.1,u13.2.1,u14.1,u14.2.1,u14.2.2.1,u6.1,u6.2.1,u7.1,u7.2.1,u8.1,u8.2.1,()),(([]:List Bj),()),((([]:List A2)++[((10:Int),(0:Int),(1:Int),([]:List YB),r2.1,u9.1,(0:Int),([]:List YB),r3.1,(0:Int),(0:Int),(0:Int),())]),()))) (
 .ob (Fb r4.1 r4.2.1) fun r5=>
 .chk (decide ((([]:List A2)++[((10:Int),(0:Int),(1:Int),([]:List YB),r2.1,u9.1,(0:Int),([]:List YB),r3.1,(0:Int),(0:Int),(0:Int),())]).length+[r5].length≤4294967296)) <|
 .leaf ((a0.1,a0.2.1,u1.1,r4.1.1,r4.1.2.1,r4.1.2.2.1,u15.1,u15.2.1,u15.2.2.1,u16.1,u16.2.1,u16.2.2.1,u16.2.2.2.1,u17.1,u17.2.1,u17.2.2.1,u17.2.2.2.1,u17.2.2.2.2.1,u6.1,u6.2.1,u7.1,u7.2.1,u8.1,u8.2.1,()),([(u6.1,u6.2.1,r4.2.1.1,r4.2.1.2.1,r4.2.1.2.2.1,r4.2.1.2.2.2.1,r4.2.1.2.2.2.2.1,r4.2.1.2.2.2.2.2.1,r4.2.1.2.2.2.2.2.2.1,r4.2.1.2.2.2.2.2.2.2.1,r4.2.1.2.2.2.2.2.2.2.2.1,r4.2.1.2.2.2.2.2.2.2.2.2.1,r4.2.1.2.2.2.2.2.2.2.2.2.2.1,())],()),(((([]:List A2)++[((10:Int),(0:Int),(1:Int),([]:List YB),r2.1,u9.1,(0:Int),([]:List YB),r3.1,(0:Int),(0:Int),(0:Int),())])++[r5]),())))) (
 .ob (Abu r1.1) fun r6=>letI u18:=r6.1.2.2.2;letI u19:=u18.2.2.2;letI u20:=u19.2.2.2.2;
 .br (r6.2.2.1 != (0:Int)) (
 .leaf ((a0.1,a0.2.1,u1.1,r1.1.1,r1.1.2.1,u9.1,u9.2.1,u10.1,u10.2.1,u11.1,u11.2.1,u12.1,u12.2.1,u13.1,u13.2.1,u14.1,u14.2.1,u14.2.2.1,u6.1,u6.2.1,u7.1,u7.2.1,u8.1,u8.2.1,()),(([]:List Bj),()),(([]:List A2),()))) (
 .ob (Fb r6.1 r6.2.1) fun r7=>
 .chk (decide (([]:List A2).length+[r7].length≤4294967296)) <|
 .leaf ((a0.1,a0.2.1,u1.1,r6.1.1,r6.1.2.1,r6.1.2.2.1,u18.1,u18.2.1,u18.2.2.1,u19.1,u19.2.1,u19.2.2.1,u19.2.2.2.1,u20.1,u20.2.1,u20.2.2.1,u20.2.2.2.1,u20.2.2.2.2.1,u6.1,u6.2.1,u7.1,u7.2.1,u8.1,u8.2.1,()),([(u6.1,u6.2.1,r6.2.1.1,r6.2.1.2.1,r6.2.1.2.2.1,r6.2.1.2.2.2.1,r6.2.1.2.2.2.2.1,r6.2.1.2.2.2.2.2.1,r6.2.1.2.2.2.2.2.2.1,r6.2.1.2.2.2.2.2.2.2.1,r6.2.1.2.2.2.2.2.2.2.2.1,r6.2.1.2.2.2.2.2.2.2.2.2.1,r6.2.1.2.2.2.2.2.2.2.2.2.2.1,())],()),((([]:List A2)++[r7]),())))))
def Agw (a0:A4) (a1:YI) (a2:YBs):Option (A4×((List Bj)×Unit)×((List A2)×Unit)):=(T5 a0 a1 a2).val
def Dq (x2:Int×(List Am)×Int×Int×Int×Int×(List Am)×Int×Int×(List Am)×Unit):Option ((Int×(List Am)×Int×Int×Int×Int×(List Am)×Int×Int×(List Am)×Unit)⊕((Int×Int×(List Am)×Int×Int×(List Am)×Unit))):=
 letI u1:=x2.2.2.2;letI u2:=u1.2.2;letI u3:=u2.2.2;Tree.val (α:=(Int×(List Am)×Int×Int×Int×Int×(List Am)×Int×Int×(List Am)×Unit)⊕((Int×Int×(List Am)×Int×Int×(List Am)×Unit))) <|
 .br (decide (u1.1<x2.2.2.1)) (
 .chk (Nat.beq (Int.toNat u1.1) (Int.toNat u1.1)) <|
 .ob (idx x2.2.1 u1.1) fun e3=>
 .br (decide (e3.2.2.2.1≥x2.1)) (
 .chk (decide (x2.2.2.2.2.2.2.2.2.2.1.length+[e3].length≤4294967296)) <|
 .chk (Nat.ble (Int.toNat u1.1+1) (Int.toNat (i64.wrap (u1.1+(1:Int))))) <|
 .leaf (.inl (x2.1,x2.2.1,x2.2.2.1,(i64.wrap (u1.1+(1:Int))),u1.2.1,u2.1,u2.2.1,u3.1,u3.2.1,(u3.2.2.1++[e3]),()))) (
 .chk (Nat.ble (Int.toNat u1.1+1) (Int.toNat (i64.wrap (u1.1+(1:Int))))) <|
 .leaf (.inl (x2.1,x2.2.1,x2.2.2.1,(i64.wrap (u1.1+(1:Int))),u1.2.1,u2.1,u2.2.1,u3.1,u3.2.1,u3.2.2.1,())))) (
 .leaf (.inr (u1.2.1,u2.1,u2.2.1,u3.1,u3.2.1,u3.2.2.1,())))
def H7 (a0:A7) (a1:YI):Tree (A7):=
 .ob (Dk a0) fun r1=>
 .ob (Ay Dq (a1.1,r1.2.2.1,(r1.2.2.1.length:Int),(0:Int),(0:Int),(0:Int),([]:List Am),a0.1,a0.2.1,([]:List Am),())) fun o4=>
 .leaf (o4.2.2.2.1,o4.2.2.2.2.1,o4.2.2.2.2.2.1,())
def Lf (a0:A7) (a1:YI):Option (A7):=(H7 a0 a1).val
def Aig (a0:A7) (a1:YI) (a2:Bw) (a3:YBs):Tree (A7×(Bool×Unit)):=
 .ob (M8 a0) fun r1=>
 .br (!r1.1) (
 .ob (Dk a0) fun r2=>
 .leaf (r2,(false,()))) (
 .ob (Bn a1 ((0:Int),()) ((1000000:Int),())) fun r3=>
 .br (!r3.1) (
 .ob (Dk a0) fun r4=>
 .leaf (r4,(false,()))) (
 .ob (Mi a2) fun r5=>
 .br (!r5.1) (
 .ob (Dk a0) fun r6=>
 .leaf (r6,(false,()))) (
 .ob (Dw a3) fun r7=>
 .br (!r7.1) (
 .ob (Dk a0) fun r8=>
 .leaf (r8,(false,()))) (
 .br (and (a2.1==a0.1) (and (a2.2.1==a0.2.1) true)) (
 .ob (Dk a0) fun r9=>
 .leaf (r9,(false,()))) (
 .ob (Lf a0 a1) fun r10=>
 .ob (Up r10 a2) fun r11=>
 .br (decide (r11.1≥(0:Int))) (
 .ob (Dk a0) fun r12=>
 .leaf (r12,(false,()))) (
 .br ((r10.2.2.1.length:Int)==(3:Int)) (
 .ob (Dk a0) fun r13=>
 .leaf (r13,(false,()))) (
 .ob (Bg a3) fun r14=>
 .chk (decide (r10.2.2.1.length+[(a2.1,a2.2.1,r14.1,(i64.wrap (a1.1+(6:Int))),())].length≤4294967296)) <|
 .leaf ((r10.1,r10.2.1,(r10.2.2.1++[(a2.1,a2.2.1,r14.1,(i64.wrap (a1.1+(6:Int))),())]),()),(true,())))))))))
def Dy (a0:A7) (a1:YI) (a2:Bw) (a3:YBs):Option (A7×(Bool×Unit)):=(Aig a0 a1 a2 a3).val
end
end Go.Proofs.YtmhhajdeafijmaaGreat

/-
  What the functions of the seat answer, as plain terms (printed by a program, proved in the texts P); nothing is assumed.
-/
import Derived.Test.YtfljmgnghlpapaaGreatEv2
namespace Go.Proofs.YtfljmgnghlpapaaGreat
open Go.RowKit IntKind
set_option linter.unusedVariables false
set_option maxRecDepth 100000
set_option maxHeartbeats 4000000
noncomputable section
abbrev YB:Type:=Int×Unit
abbrev YI:Type:=Int×Unit
abbrev YBs:Type:=List YB×Unit
abbrev Aug:Type:=ByteArray×Int×Unit
abbrev Da:Type:=Int×Int×Unit
abbrev Ax4:Type:=(List YB)×Int×Unit
abbrev Bs:Type:=Int×(List YI)×Unit
abbrev Azi:Type:=Int×Int×Bool×Int×Unit
abbrev Ap:Type:=(List YB)×Int×Int×Unit
abbrev Ax8:Type:=Int×Int×Int×Int×Unit
abbrev Je:Type:=(List YI)×(List YB)×Int×Unit
abbrev Aj:Type:=Int×Int×(List YB)×Int×Unit
abbrev YEp:Type:=Int×(List YB)×Int×Int×(List YI)×Unit
abbrev A4:Type:=Int×Int×(List Aj)×Unit
abbrev A0w:Type:=Int×Int×Int×(List YB)×(List YB)×Int×Int×(List YB)×(List YB)×Int×Int×Int×Unit
abbrev D4:Type:=Int×Int×(List YB)×(List YB)×Int×(List YB)×(List YB)×Int×Int×(List YB)×(List YB)×Unit
abbrev A0y:Type:=Int×Int×Int×Int×(List YB)×(List YB)×Int×(List YB)×(List YB)×Int×Int×(List YB)×(List YB)×Unit
abbrev Bl:Type:=Int×(List YB)×Int×(List YB)×Int×Int×(List YI)×Int×(List YB)×Int×Int×(List YI)×Bool×Int×(List YB)×Unit
abbrev Af:Type:=Int×(List YB)×(List YB)×Int×(List YB)×Int×(List YB)×Int×Int×(List YI)×Int×(List YB)×Int×Int×(List YI)×Bool×Int×(List YB)×Int×Int×(List Aj)×Int×Int×Bool×Unit
abbrev A7:Type:=Int×(List Af)×Unit
abbrev A0v:Type:=(List YBs)×(List YB)×(List YB)×Int×Int×(List Af)×(List Ax8)×Unit
def Aq7 (a0:YBs):Tree ((Bool×Unit)):=
 .leaf ((decide ((a0.1.length:Int)>(1048576:Int))),())
def Arc (a0:YBs):Option ((Bool×Unit)):=(Aq7 a0).val
def Nq (x1:Ap):Option (Ap⊕(Ax4)):=
 Tree.val (α:=Ap⊕(Ax4)) <|
 .br (decide (x1.2.2.1<(x1.1.length:Int))) (
 .br (decide (x1.2.2.1<(4000:Int))) (
 .ob (idx x1.1 x1.2.2.1) fun e2=>
 .leaf (.inl (x1.1,(i64.wrap ((BitVec.ofInt (i64.bits) ((i64.wrap ((i64.wrap ((i64.wrap (x1.2.1*(137:Int)))+(i64.wrap (e2.1))))+(11:Int)))) &&& BitVec.ofInt (i64.bits) ((1073741823:Int))).toNat:Nat)),(i64.wrap (x1.2.2.1+(1:Int))),()))) (
 .leaf (.inr (x1.1,x1.2.1,())))) (
 .leaf (.inr (x1.1,x1.2.1,())))
def Aaq (a0:YBs):Tree (Ap):=
 .ob (As Nq (a0.1,(i64.wrap ((127812:Int)+(a0.1.length:Int))),(0:Int),())) fun o3=>
 .leaf (o3.1,(0:Int),o3.2.1,())
def Om (a0:YBs):Option (Ap):=(Aaq a0).val
def V9 (a0:Ap):Tree (YI×Ap):=
 letI u1:=a0.2.2;.br (decide (a0.2.1<(a0.1.length:Int))) (
 .ob (idx a0.1 a0.2.1) fun e1=>
 .leaf (((i64.wrap ((BitVec.ofInt (i64.bits) ((i64.wrap ((i64.wrap ((BitVec.ofInt (i64.bits) ((i64.wrap ((BitVec.ofInt (i64.bits) ((Int.fdiv (i64.wrap ((i64.wrap (u1.1*(6364136223846793005:Int)))+(1442695040888963407:Int))) (2^(min ((33:Int)).toNat i64.bits)))) ^^^ BitVec.ofInt (i64.bits) ((Int.fdiv (i64.wrap ((i64.wrap (u1.1*(6364136223846793005:Int)))+(1442695040888963407:Int))) (2^(min ((47:Int)).toNat i64.bits))))).toNat:Nat))) &&& BitVec.ofInt (i64.bits) ((255:Int))).toNat:Nat))+(i64.wrap (e1.1))))) &&& BitVec.ofInt (i64.bits) ((255:Int))).toNat:Nat)),()),(a0.1,(i64.wrap (a0.2.1+(1:Int))),(i64.wrap ((i64.wrap (u1.1*(6364136223846793005:Int)))+(1442695040888963407:Int))),()))) (
 .leaf (((i64.wrap ((BitVec.ofInt (i64.bits) ((i64.wrap ((BitVec.ofInt (i64.bits) ((Int.fdiv (i64.wrap ((i64.wrap (u1.1*(6364136223846793005:Int)))+(1442695040888963407:Int))) (2^(min ((33:Int)).toNat i64.bits)))) ^^^ BitVec.ofInt (i64.bits) ((Int.fdiv (i64.wrap ((i64.wrap (u1.1*(6364136223846793005:Int)))+(1442695040888963407:Int))) (2^(min ((47:Int)).toNat i64.bits))))).toNat:Nat))) &&& BitVec.ofInt (i64.bits) ((255:Int))).toNat:Nat)),()),(a0.1,a0.2.1,(i64.wrap ((i64.wrap (u1.1*(6364136223846793005:Int)))+(1442695040888963407:Int))),())))
def Gf (a0:Ap):Option (YI×Ap):=(V9 a0).val
def Tq (a0:Ap) (a1:YI):Tree (YI×Ap):=
 .br (decide (a1.1≤(0:Int))) (
 .leaf (((0:Int),()),a0)) (
 .br (decide (a1.1≤(256:Int))) (
 .ob (Gf a0) fun r1=>
 .chk (decide ((0:Int)<a1.1)) <|
 .chk (decide ((0:Int)≤r1.1.1)) <|
 .leaf (((r1.1.1%a1.1),()),(a0.1,r1.2.2.1,r1.2.2.2.1,()))) (
 .ob (Gf a0) fun r2=>
 .ob (Gf (a0.1,r2.2.2.1,r2.2.2.2.1,())) fun r3=>
 .ob (Gf (a0.1,r3.2.2.1,r3.2.2.2.1,())) fun r4=>
 .chk (decide ((0:Int)<a1.1)) <|
 .chk (decide ((0:Int)≤(i64.wrap ((i64.wrap ((i64.wrap (r2.1.1*(65536:Int)))+(i64.wrap (r3.1.1*(256:Int)))))+r4.1.1)))) <|
 .leaf ((((i64.wrap ((i64.wrap ((i64.wrap (r2.1.1*(65536:Int)))+(i64.wrap (r3.1.1*(256:Int)))))+r4.1.1))%a1.1),()),(a0.1,r4.2.2.1,r4.2.2.2.1,()))))
def A6 (a0:Ap) (a1:YI):Option (YI×Ap):=(Tq a0 a1).val
def Afb (a0:YI) (a1:YI) (a2:YI):Tree ((Bool×Unit)):=
 .br (decide (a0.1≥a1.1)) (
 .leaf ((decide (a0.1≤a2.1)),())) (
 .leaf (false,()))
def Bc (a0:YI) (a1:YI) (a2:YI):Option ((Bool×Unit)):=(Afb a0 a1 a2).val
def Wa (a0:YI):Tree (A7):=
 .ob (Bc a0 ((1:Int),()) ((6:Int),())) fun r1=>
 .br (!r1.1) (
 .leaf ((0:Int),([]:List Af),())) (
 .leaf (a0.1,([]:List Af),()))
def Py (a0:YI):Option (A7):=(Wa a0).val
def Hx (x1:Int×(List YB)×Int×(List YB)×Int×Int×Unit):Option ((Int×(List YB)×Int×(List YB)×Int×Int×Unit)⊕(((List YB)×(List YB)×Int×Int×Unit))):=
 letI u1:=x1.2.2.2;Tree.val (α:=(Int×(List YB)×Int×(List YB)×Int×Int×Unit)⊕(((List YB)×(List YB)×Int×Int×Unit))) <|
 .br (decide (x1.2.2.1<x1.1)) (
 .ob (Gf (u1.1,u1.2.1,u1.2.2.1,())) fun r2=>
 .chk (decide (x1.2.1.length+[((u8.wrap (r2.1.1)),())].length≤4294967296)) <|
 .leaf (.inl (x1.1,(x1.2.1++[((u8.wrap (r2.1.1)),())]),(i64.wrap (x1.2.2.1+(1:Int))),u1.1,r2.2.2.1,r2.2.2.2.1,()))) (
 .leaf (.inr (x1.2.1,u1.1,u1.2.1,u1.2.2.1,())))
def Tr (a0:Ap) (a1:YI):Tree (YBs×Ap):=
 .ob (As Hx (a1.1,([]:List YB),(0:Int),a0.1,a0.2.1,a0.2.2.1,())) fun o3=>
 .leaf ((o3.1,()),(o3.2.1,o3.2.2.1,o3.2.2.2.1,()))
def Ca (a0:Ap) (a1:YI):Option (YBs×Ap):=(Tr a0 a1).val
def O7 (a0:Ap):Tree (D4×Ap):=
 .ob (Ca a0 ((12:Int),())) fun r1=>
 .ob (Ca (a0.1,r1.2.2.1,r1.2.2.2.1,()) ((12:Int),())) fun r2=>
 .ob (A6 (a0.1,r2.2.2.1,r2.2.2.2.1,()) ((300:Int),())) fun r3=>
 .ob (Ca (a0.1,r3.2.2.1,r3.2.2.2.1,()) ((16:Int),())) fun r4=>
 .leaf (((2:Int),(0:Int),r1.1.1,r2.1.1,r3.1.1,r4.1.1,([]:List YB),(0:Int),(0:Int),([]:List YB),([]:List YB),()),(a0.1,r4.2.2.1,r4.2.2.2.1,()))
def Pe (a0:Ap):Option (D4×Ap):=(O7 a0).val
def Wb (a0:YI):Tree ((Bool×Unit)):=
 .ob (Bc a0 ((4:Int),()) ((8:Int),())) fun r1=>
 .leaf r1
def Xm (a0:YI):Option ((Bool×Unit)):=(Wb a0).val
def Wc (a0:YI) (a1:YI):Tree ((Bool×Unit)):=
 .br (a0.1==(4:Int)) (
 .leaf ((decide (a1.1≤(40:Int))),())) (
 .br (a0.1==(5:Int)) (
 .leaf ((a1.1==(12:Int)),())) (
 .br (a0.1==(6:Int)) (
 .leaf ((a1.1==(12:Int)),())) (
 .leaf ((a1.1==(4:Int)),()))))
def Xn (a0:YI) (a1:YI):Option ((Bool×Unit)):=(Wc a0 a1).val
def Tt (a0:D4):Tree ((Bool×Unit)):=
 letI u1:=a0.2.2.2.2;letI u2:=u1.2.2.2;.ob (Xm (a0.1,())) fun r1=>
 .br r1.1 (
 .br (a0.2.1==(0:Int)) (
 .br ((a0.2.2.1.length:Int)==(0:Int)) (
 .br ((a0.2.2.2.1.length:Int)==(12:Int)) (
 .br (u1.1==(0:Int)) (
 .br ((a0.2.2.2.2.2.1.length:Int)==(0:Int)) (
 .br ((a0.2.2.2.2.2.2.1.length:Int)==(0:Int)) (
 .ob (Bc (u2.1,()) ((0:Int),()) ((4294967295:Int),())) fun r2=>
 .br r2.1 (
 .ob (Bc (u2.2.1,()) ((0:Int),()) ((281474976710655:Int),())) fun r3=>
 .br r3.1 (
 .ob (Xn (a0.1,()) ((a0.2.2.2.2.2.2.2.2.2.1.length:Int),())) fun r4=>
 .br r4.1 (
 .leaf (((a0.2.2.2.2.2.2.2.2.2.2.1.length:Int)==(16:Int)),())) (
 .leaf (false,()))) (
 .leaf (false,()))) (
 .leaf (false,()))) (
 .leaf (false,()))) (
 .leaf (false,()))) (
 .leaf (false,()))) (
 .leaf (false,()))) (
 .leaf (false,()))) (
 .leaf (false,()))) (
 .br (u2.1 != (0:Int)) (
 .leaf (false,())) (
 .br (u2.2.1 != (0:Int)) (
 .leaf (false,())) (
 .br ((a0.2.2.2.2.2.2.2.2.2.1.length:Int) != (0:Int)) (
 .leaf (false,())) (
 .br ((a0.2.2.2.2.2.2.2.2.2.2.1.length:Int) != (0:Int)) (
 .leaf (false,())) (
 .br ((a0.2.2.1.length:Int) != (12:Int)) (
 .leaf (false,())) (
 .br (a0.1==(1:Int)) (
 .ob (Bc (a0.2.1,()) ((1:Int),()) ((9:Int),())) fun r5=>
 .br r5.1 (
 .br ((a0.2.2.2.1.length:Int)==(0:Int)) (
 .br (u1.1==(0:Int)) (
 .br ((a0.2.2.2.2.2.1.length:Int)==(0:Int)) (
 .leaf (((a0.2.2.2.2.2.2.1.length:Int)==(0:Int)),())) (
 .leaf (false,()))) (
 .leaf (false,()))) (
 .leaf (false,()))) (
 .leaf (false,()))) (
 .br (a0.1==(2:Int)) (
 .br (a0.2.1==(0:Int)) (
 .br ((a0.2.2.2.1.length:Int)==(12:Int)) (
 .ob (Bc (u1.1,()) ((0:Int),()) ((1000000:Int),())) fun r6=>
 .br r6.1 (
 .br ((a0.2.2.2.2.2.1.length:Int)==(16:Int)) (
 .leaf (((a0.2.2.2.2.2.2.1.length:Int)==(0:Int)),())) (
 .leaf (false,()))) (
 .leaf (false,()))) (
 .leaf (false,()))) (
 .leaf (false,()))) (
 .br (a0.1==(3:Int)) (
 .ob (Bc (a0.2.1,()) ((1:Int),()) ((9:Int),())) fun r7=>
 .br r7.1 (
 .br ((a0.2.2.2.1.length:Int)==(12:Int)) (
 .ob (Bc (u1.1,()) ((0:Int),()) ((1000000:Int),())) fun r8=>
 .br r8.1 (
 .br ((a0.2.2.2.2.2.1.length:Int)==(16:Int)) (
 .leaf (((a0.2.2.2.2.2.2.1.length:Int)==(16:Int)),())) (
 .leaf (false,()))) (
 .leaf (false,()))) (
 .leaf (false,()))) (
 .leaf (false,()))) (
 .leaf (false,()))))))))))
def N6 (a0:D4):Option ((Bool×Unit)):=(Tt a0).val
def Aas (a0:YBs):Tree ((Bool×Unit)):=
 .ob (Bc ((a0.1.length:Int),()) ((1:Int),()) ((32:Int),())) fun r1=>
 .leaf r1
def K9 (a0:YBs):Option ((Bool×Unit)):=(Aas a0).val
def Lm (x1:Int×(List YB)×Int×Unit):Option ((Int×(List YB)×Int×Unit)⊕(YBs)):=
 letI u1:=x1.2.2;Tree.val (α:=(Int×(List YB)×Int×Unit)⊕(YBs)) <|
 .br (decide (u1.1≥(0:Int))) (
 .chk (decide ((0:Int)≤(i64.wrap ((8:Int)*u1.1)))) <|
 .chk (decide (x1.2.1.length+[((u8.wrap ((i64.wrap ((BitVec.ofInt (i64.bits) ((Int.fdiv x1.1 (2^(min ((i64.wrap ((8:Int)*u1.1))).toNat i64.bits)))) &&& BitVec.ofInt (i64.bits) ((255:Int))).toNat:Nat)))),())].length≤4294967296)) <|
 .leaf (.inl (x1.1,(x1.2.1++[((u8.wrap ((i64.wrap ((BitVec.ofInt (i64.bits) ((Int.fdiv x1.1 (2^(min ((i64.wrap ((8:Int)*u1.1))).toNat i64.bits)))) &&& BitVec.ofInt (i64.bits) ((255:Int))).toNat:Nat)))),())]),(i64.wrap (u1.1-(1:Int))),()))) (
 .leaf (.inr (x1.2.1,())))
def Afc (a0:YBs) (a1:YI) (a2:YI):Tree (YBs):=
 .chk (decide (([]:List YB).length+a0.1.length≤4294967296)) <|
 .br (decide (a2.1<(1:Int))) (
 .leaf ((([]:List YB)++a0.1),())) (
 .br (decide (a2.1>(6:Int))) (
 .leaf ((([]:List YB)++a0.1),())) (
 .ob (As Lm (a1.1,(([]:List YB)++a0.1),(i64.wrap (a2.1-(1:Int))),())) fun o2=>
 .leaf o2))
def Ky (a0:YBs) (a1:YI) (a2:YI):Option (YBs):=(Afc a0 a1 a2).val
def Aau (x1:Int×(List YB)×Unit):Option ((Int×(List YB)×Unit)⊕((Int×(List YB)×Unit))):=
 Tree.val (α:=(Int×(List YB)×Unit)⊕((Int×(List YB)×Unit))) <|
 .chk (decide ((0:Int)≤(i64.wrap ((i64.wrap (x1.1+(x1.2.1.length:Int)))+(8:Int))))) <|
 .br (((i64.wrap ((i64.wrap (x1.1+(x1.2.1.length:Int)))+(8:Int)))%(64:Int)) != (0:Int)) (
 .chk (decide (x1.2.1.length+[((0:Int),())].length≤4294967296)) <|
 .leaf (.inl (x1.1,(x1.2.1++[((0:Int),())]),()))) (
 .leaf (.inr x1))
def Ai2 (a0:YI):Tree (YBs):=
 .br (decide (a0.1<(0:Int))) (
 .leaf (([]:List YB),())) (
 .br (decide (a0.1>(1048576:Int))) (
 .leaf (([]:List YB),())) (
 .ob (As Aau (a0.1,[((128:Int),())],())) fun o2=>
 .ob (Ky (o2.2.1,()) ((0:Int),()) ((4:Int),())) fun r3=>
 .ob (Ky r3 ((i64.wrap ((8:Int)*o2.1)),()) ((4:Int),())) fun r4=>
 .leaf r4))
def Ajg (a0:YI):Option (YBs):=(Ai2 a0).val
def Akl:Tree (((List YI)×Unit)):=
 .leaf ([((1779033703:Int),()),((3144134277:Int),()),((1013904242:Int),()),((2773480762:Int),()),((1359893119:Int),()),((2600822924:Int),()),((528734635:Int),()),((1541459225:Int),())],())
def Ak0:Option (((List YI)×Unit)):=(Akl).val
def Hy (x1:(List YI)×Int×Unit):Option (((List YI)×Int×Unit)⊕((Bool×Unit)⊕((List YI)×Unit))):=
 Tree.val (α:=((List YI)×Int×Unit)⊕((Bool×Unit)⊕((List YI)×Unit))) <|
 .br (decide (x1.2.1<(x1.1.length:Int))) (
 .ob (idx x1.1 x1.2.1) fun e2=>
 .ob (Bc e2 ((0:Int),()) ((4294967295:Int),())) fun r3=>
 .br (!r3.1) (
 .leaf (.inr (.inl (false,())))) (
 .leaf (.inl (x1.1,(i64.wrap (x1.2.1+(1:Int))),())))) (
 .leaf (.inr (.inr (x1.1,()))))
def Tu (a0:(List YI)×Unit):Tree ((Bool×Unit)):=
 .ob (As Hy (a0.1,(0:Int),())) fun o4=>
 .sm o4 (fun o5=>
 .leaf o5) (fun o6=>
 .leaf (((o6.1.length:Int)==(8:Int)),()))
def Uy (a0:(List YI)×Unit):Option ((Bool×Unit)):=(Tu a0).val
def Ara:Tree (((List YI)×Unit)):=
 .leaf ([((1116352408:Int),()),((1899447441:Int),()),((3049323471:Int),()),((3921009573:Int),()),((961987163:Int),()),((1508970993:Int),()),((2453635748:Int),()),((2870763221:Int),()),((3624381080:Int),()),((310598401:Int),()),((607225278:Int),()),((1426881987:Int),()),((1925078388:Int),()),((2162078206:Int),()),((2614888103:Int),()),((3248222580:Int),()),((3835390401:Int),()),((4022224774:Int),()),((264347078:Int),()),((604807628:Int),()),((770255983:Int),()),((1249150122:Int),()),((1555081692:Int),()),((1996064986:Int),()),((2554220882:Int),()),((2821834349:Int),()),((2952996808:Int),()),((3210313671:Int),()),((3336571891:Int),()),((3584528711:Int),()),((113926993:Int),()),((338241895:Int),()),((666307205:Int),()),((773529912:Int),()),((1294757372:Int),()),((1396182291:Int),()),((1695183700:Int),()),((1986661051:Int),()),((2177026350:Int),()),((2456956037:Int),()),((2730485921:Int),()),((2820302411:Int),()),((3259730800:Int),()),((3345764771:Int),()),((3516065817:Int),()),((3600352804:Int),()),((4094571909:Int),()),((275423344:Int),()),((430227734:Int),()),((506948616:Int),()),((659060556:Int),()),((883997877:Int),()),((958139571:Int),()),((1322822218:Int),()),((1537002063:Int),()),((1747873779:Int),()),((1955562222:Int),()),((2024104815:Int),()),((2227730452:Int),()),((2361852424:Int),()),((2428436474:Int),()),((2756734187:Int),()),((3204031479:Int),()),((3329325298:Int),())],())
def Ard:Option (((List YI)×Unit)):=(Ara).val
def Jb (x1:(List YB)×Int×Int×Int×Int×Unit):Option (((List YB)×Int×Int×Int×Int×Unit)⊕((Int×Int×Int×Unit))):=
 letI u1:=x1.2.2;Tree.val (α:=((List YB)×Int×Int×Int×Int×Unit)⊕((Int×Int×Int×Unit))) <|
 .br (decide (u1.2.2.1<u1.1)) (
 .ob (idx x1.1 (i64.wrap (x1.2.1+u1.2.2.1))) fun e2=>
 .leaf (.inl (x1.1,x1.2.1,u1.1,(i64.wrap ((i64.wrap (u1.2.1*(256:Int)))+(i64.wrap (e2.1)))),(i64.wrap (u1.2.2.1+(1:Int))),()))) (
 .leaf (.inr (x1.2.1,u1.1,u1.2.1,())))
def Afd (a0:YBs) (a1:YI) (a2:YI):Tree (YI×YI×(Bool×Unit)):=
 .br (decide (a2.1<(1:Int))) (
 .leaf (((0:Int),()),((0:Int),()),(false,()))) (
 .br (decide (a2.1>(6:Int))) (
 .leaf (((0:Int),()),((0:Int),()),(false,()))) (
 .br (decide (a1.1<(0:Int))) (
 .leaf (((0:Int),()),((0:Int),()),(false,()))) (
 .br (decide (a1.1>(i64.wrap ((a0.1.length:Int)-a2.1)))) (
 .leaf (((0:Int),()),((0:Int),()),(false,()))) (
 .ob (As Jb (a0.1,a1.1,a2.1,(0:Int),(0:Int),())) fun o3=>
 .leaf ((o3.2.2.1,()),((i64.wrap (o3.1+o3.2.1)),()),(true,()))))))
def Aft (a0:YBs) (a1:YI) (a2:YI):Option (YI×YI×(Bool×Unit)):=(Afd a0 a1 a2).val
def Ai4 (a0:YI) (a1:YI):Tree (YI):=
 .br (decide (a1.1<(1:Int))) (
 .leaf ((i64.wrap ((BitVec.ofInt (i64.bits) (a0.1) &&& BitVec.ofInt (i64.bits) ((4294967295:Int))).toNat:Nat)),())) (
 .br (decide (a1.1>(31:Int))) (
 .leaf ((i64.wrap ((BitVec.ofInt (i64.bits) (a0.1) &&& BitVec.ofInt (i64.bits) ((4294967295:Int))).toNat:Nat)),())) (
 .chk (decide ((0:Int)≤a1.1)) <|
 .chk (decide ((0:Int)≤(i64.wrap ((32:Int)-a1.1)))) <|
 .leaf ((i64.wrap ((BitVec.ofInt (i64.bits) ((i64.wrap ((BitVec.ofInt (i64.bits) ((Int.fdiv (i64.wrap ((BitVec.ofInt (i64.bits) (a0.1) &&& BitVec.ofInt (i64.bits) ((4294967295:Int))).toNat:Nat)) (2^(min (a1.1).toNat i64.bits)))) ||| BitVec.ofInt (i64.bits) ((i64.wrap ((i64.wrap ((BitVec.ofInt (i64.bits) (a0.1) &&& BitVec.ofInt (i64.bits) ((4294967295:Int))).toNat:Nat))*2^(min ((i64.wrap ((32:Int)-a1.1))).toNat i64.bits))))).toNat:Nat))) &&& BitVec.ofInt (i64.bits) ((4294967295:Int))).toNat:Nat)),())))
def F9 (a0:YI) (a1:YI):Option (YI):=(Ai4 a0 a1).val
def Fl (x1:(List YB)×(List YI)×Int×Unit):Option (((List YB)×(List YI)×Int×Unit)⊕(((List YI)×Unit))):=
 Tree.val (α:=((List YB)×(List YI)×Int×Unit)⊕(((List YI)×Unit))) <|
 .br (decide (x1.2.2.1<(16:Int))) (
 .ob (Aft (x1.1,()) ((i64.wrap ((4:Int)*x1.2.2.1)),()) ((4:Int),())) fun r2=>
 .chk (decide (x1.2.1.length+[r2.1].length≤4294967296)) <|
 .leaf (.inl (x1.1,(x1.2.1++[r2.1]),(i64.wrap (x1.2.2.1+(1:Int))),()))) (
 .leaf (.inr (x1.2.1,())))
def E5 (x4:(List YI)×Int×Unit):Option (((List YI)×Int×Unit)⊕(((List YI)×Unit))):=
 Tree.val (α:=((List YI)×Int×Unit)⊕(((List YI)×Unit))) <|
 .br (decide (x4.2.1<(64:Int))) (
 .ob (idx x4.1 (i64.wrap (x4.2.1-(15:Int)))) fun e5=>
 .ob (idx x4.1 (i64.wrap (x4.2.1-(2:Int)))) fun e6=>
 .ob (F9 e5 ((7:Int),())) fun r7=>
 .ob (F9 e5 ((18:Int),())) fun r8=>
 .ob (F9 e6 ((17:Int),())) fun r9=>
 .ob (F9 e6 ((19:Int),())) fun r10=>
 .ob (idx x4.1 (i64.wrap (x4.2.1-(7:Int)))) fun e11=>
 .ob (idx x4.1 (i64.wrap (x4.2.1-(16:Int)))) fun e12=>
 .chk (decide (x4.1.length+[((i64.wrap ((BitVec.ofInt (i64.bits) ((i64.wrap ((i64.wrap ((i64.wrap (e11.1+e12.1))+(i64.wrap ((BitVec.ofInt (i64.bits) ((i64.wrap ((BitVec.ofInt (i64.bits) (r7.1) ^^^ BitVec.ofInt (i64.bits) (r8.1)).toNat:Nat))) ^^^ BitVec.ofInt (i64.bits) ((Int.fdiv e5.1 (2^(min ((3:Int)).toNat i64.bits))))).toNat:Nat))))+(i64.wrap ((BitVec.ofInt (i64.bits) ((i64.wrap ((BitVec.ofInt (i64.bits) (r9.1) ^^^ BitVec.ofInt (i64.bits) (r10.1)).toNat:Nat))) ^^^ BitVec.ofInt (i64.bits) ((Int.fdiv e6.1 (2^(min ((10:Int)).toNat i64.bits))))).toNat:Nat))))) &&& BitVec.ofInt (i64.bits) ((4294967295:Int))).toNat:Nat)),())].length≤4294967296)) <|
 .leaf (.inl ((x4.1++[((i64.wrap ((BitVec.ofInt (i64.bits) ((i64.wrap ((i64.wrap ((i64.wrap (e11.1+e12.1))+(i64.wrap ((BitVec.ofInt (i64.bits) ((i64.wrap ((BitVec.ofInt (i64.bits) (r7.1) ^^^ BitVec.ofInt (i64.bits) (r8.1)).toNat:Nat))) ^^^ BitVec.ofInt (i64.bits) ((Int.fdiv e5.1 (2^(min ((3:Int)).toNat i64.bits))))).toNat:Nat))))+(i64.wrap ((BitVec.ofInt (i64.bits) ((i64.wrap ((BitVec.ofInt (i64.bits) (r9.1) ^^^ BitVec.ofInt (i64.bits) (r10.1)).toNat:Nat))) ^^^ BitVec.ofInt (i64.bits) ((Int.fdiv e6.1 (2^(min ((10:Int)).toNat i64.bits))))).toNat:Nat))))) &&& BitVec.ofInt (i64.bits) ((4294967295:Int))).toNat:Nat)),())]),(i64.wrap (x4.2.1+(1:Int))),()))) (
 .leaf (.inr (x4.1,())))
def Ln (a0:YBs):Tree (((List YI)×Unit)):=
 .br ((a0.1.length:Int) != (64:Int)) (
 .leaf (([]:List YI),())) (
 .ob (As Fl (a0.1,([]:List YI),(0:Int),())) fun o3=>
 .ob (As E5 (o3.1,(16:Int),())) fun o13=>
 .leaf o13)
def Rc (a0:YBs):Option (((List YI)×Unit)):=(Ln a0).val
def El (x12:(List YI)×(List YI)×(List YI)×(List YI)×Int×Int×Int×Int×Int×Int×Int×Int×Int×Unit):Option (((List YI)×(List YI)×(List YI)×(List YI)×Int×Int×Int×Int×Int×Int×Int×Int×Int×Unit)⊕(((List YI)×(List YI)×Int×Int×Int×Int×Int×Int×Int×Int×Unit))):=
 letI u1:=x12.2.2;letI u2:=u1.2.2;letI u3:=u2.2.2;letI u4:=u3.2.2;letI u5:=u4.2.2;Tree.val (α:=((List YI)×(List YI)×(List YI)×(List YI)×Int×Int×Int×Int×Int×Int×Int×Int×Int×Unit)⊕(((List YI)×(List YI)×Int×Int×Int×Int×Int×Int×Int×Int×Unit))) <|
 .br (decide (u5.2.2.1<(64:Int))) (
 .ob (F9 (u4.1,()) ((6:Int),())) fun r13=>
 .ob (F9 (u4.1,()) ((11:Int),())) fun r14=>
 .ob (F9 (u4.1,()) ((25:Int),())) fun r15=>
 .ob (idx u1.1 u5.2.2.1) fun e16=>
 .ob (idx u1.2.1 u5.2.2.1) fun e17=>
 .ob (F9 (u2.1,()) ((2:Int),())) fun r18=>
 .ob (F9 (u2.1,()) ((13:Int),())) fun r19=>
 .ob (F9 (u2.1,()) ((22:Int),())) fun r20=>
 .leaf (.inl (x12.1,x12.2.1,u1.1,u1.2.1,(i64.wrap ((BitVec.ofInt (i64.bits) ((i64.wrap ((i64.wrap ((BitVec.ofInt (i64.bits) ((i64.wrap ((i64.wrap ((i64.wrap ((i64.wrap (u5.2.1+(i64.wrap ((BitVec.ofInt (i64.bits) ((i64.wrap ((BitVec.ofInt (i64.bits) (r13.1) ^^^ BitVec.ofInt (i64.bits) (r14.1)).toNat:Nat))) ^^^ BitVec.ofInt (i64.bits) (r15.1)).toNat:Nat))))+(i64.wrap ((BitVec.ofInt (i64.bits) ((i64.wrap ((BitVec.ofInt (i64.bits) (u4.1) &&& BitVec.ofInt (i64.bits) (u4.2.1)).toNat:Nat))) ^^^ BitVec.ofInt (i64.bits) ((i64.wrap ((BitVec.ofInt (i64.bits) ((i64.wrap ((BitVec.ofInt (i64.bits) (u4.1) ^^^ BitVec.ofInt (i64.bits) ((4294967295:Int))).toNat:Nat))) &&& BitVec.ofInt (i64.bits) (u5.1)).toNat:Nat)))).toNat:Nat))))+e16.1))+e17.1))) &&& BitVec.ofInt (i64.bits) ((4294967295:Int))).toNat:Nat))+(i64.wrap ((BitVec.ofInt (i64.bits) ((i64.wrap ((i64.wrap ((BitVec.ofInt (i64.bits) ((i64.wrap ((BitVec.ofInt (i64.bits) (r18.1) ^^^ BitVec.ofInt (i64.bits) (r19.1)).toNat:Nat))) ^^^ BitVec.ofInt (i64.bits) (r20.1)).toNat:Nat))+(i64.wrap ((BitVec.ofInt (i64.bits) ((i64.wrap ((BitVec.ofInt (i64.bits) ((i64.wrap ((BitVec.ofInt (i64.bits) (u2.1) &&& BitVec.ofInt (i64.bits) (u2.2.1)).toNat:Nat))) ^^^ BitVec.ofInt (i64.bits) ((i64.wrap ((BitVec.ofInt (i64.bits) (u2.1) &&& BitVec.ofInt (i64.bits) (u3.1)).toNat:Nat)))).toNat:Nat))) ^^^ BitVec.ofInt (i64.bits) ((i64.wrap ((BitVec.ofInt (i64.bits) (u2.2.1) &&& BitVec.ofInt (i64.bits) (u3.1)).toNat:Nat)))).toNat:Nat))))) &&& BitVec.ofInt (i64.bits) ((4294967295:Int))).toNat:Nat))))) &&& BitVec.ofInt (i64.bits) ((4294967295:Int))).toNat:Nat)),u2.1,u2.2.1,u3.1,(i64.wrap ((BitVec.ofInt (i64.bits) ((i64.wrap (u3.2.1+(i64.wrap ((BitVec.ofInt (i64.bits) ((i64.wrap ((i64.wrap ((i64.wrap ((i64.wrap (u5.2.1+(i64.wrap ((BitVec.ofInt (i64.bits) ((i64.wrap ((BitVec.ofInt (i64.bits) (r13.1) ^^^ BitVec.ofInt (i64.bits) (r14.1)).toNat:Nat))) ^^^ BitVec.ofInt (i64.bits) (r15.1)).toNat:Nat))))+(i64.wrap ((BitVec.ofInt (i64.bits) ((i64.wrap ((BitVec.ofInt (i64.bits) (u4.1) &&& BitVec.ofInt (i64.bits) (u4.2.1)).toNat:Nat))) ^^^ BitVec.ofInt (i64.bits) ((i64.wrap ((BitVec.ofInt (i64.bits) ((i64.wrap ((BitVec.ofInt (i64.bits) (u4.1) ^^^ BitVec.ofInt (i64.bits) ((4294967295:Int))).toNat:Nat))) &&& BitVec.ofInt (i64.bits) (u5.1)).toNat:Nat)))).toNat:Nat))))+e16.1))+e17.1))) &&& BitVec.ofInt (i64.bits) ((4294967295:Int))).toNat:Nat))))) &&& BitVec.ofInt (i64.bits) ((4294967295:Int))).toNat:Nat)),u4.1,u4.2.1,u5.1,(i64.wrap (u5.2.2.1+(1:Int))),()))) (
 .leaf (.inr (x12.1,x12.2.1,u2.1,u2.2.1,u3.1,u3.2.1,u4.1,u4.2.1,u5.1,u5.2.1,())))
def Ea (x22:(List YI)×(List YI)×(List YI)×Int×Unit):Option (((List YI)×(List YI)×(List YI)×Int×Unit)⊕(((List YI)×Unit))):=
 letI u1:=x22.2.2.2;Tree.val (α:=((List YI)×(List YI)×(List YI)×Int×Unit)⊕(((List YI)×Unit))) <|
 .br (decide (u1.1<(8:Int))) (
 .ob (idx x22.1 u1.1) fun e23=>
 .ob (idx x22.2.2.1 u1.1) fun e24=>
 .ob (idx x22.2.1 u1.1) fun e25=>
 let q26:=(x22.2.1.set (u1.1).toNat ((i64.wrap ((BitVec.ofInt (i64.bits) ((i64.wrap (e23.1+e24.1))) &&& BitVec.ofInt (i64.bits) ((4294967295:Int))).toNat:Nat)),()))
 .leaf (.inl (x22.1,q26,x22.2.2.1,(i64.wrap (u1.1+(1:Int))),()))) (
 .leaf (.inr (x22.2.1,())))
def Lo (a0:(List YI)×Unit) (a1:YBs):Tree (((List YI)×Unit)):=
 .chk (decide (([]:List YI).length+a0.1.length≤4294967296)) <|
 .ob (Uy a0) fun r1=>
 .br (!r1.1) (
 .leaf ((([]:List YI)++a0.1),())) (
 .br ((a1.1.length:Int) != (64:Int)) (
 .leaf ((([]:List YI)++a0.1),())) (
 .ob Ard fun r2=>
 .ob (Rc a1) fun r3=>
 .ob (idx a0.1 (0:Int)) fun e4=>
 .ob (idx a0.1 (1:Int)) fun e5=>
 .ob (idx a0.1 (2:Int)) fun e6=>
 .ob (idx a0.1 (3:Int)) fun e7=>
 .ob (idx a0.1 (4:Int)) fun e8=>
 .ob (idx a0.1 (5:Int)) fun e9=>
 .ob (idx a0.1 (6:Int)) fun e10=>
 .ob (idx a0.1 (7:Int)) fun e11=>
 .ob (As El (a0.1,(([]:List YI)++a0.1),r2.1,r3.1,e4.1,e5.1,e6.1,e7.1,e8.1,e9.1,e10.1,e11.1,(0:Int),())) fun o21=>letI u1:=o21.2.2.2;letI u2:=u1.2.2.2;
 .ob (As Ea (o21.1,o21.2.1,[(o21.2.2.1,()),(u1.1,()),(u1.2.1,()),(u1.2.2.1,()),(u2.1,()),(u2.2.1,()),(u2.2.2.1,()),(u2.2.2.2.1,())],(0:Int),())) fun o27=>
 .leaf o27))
def L4 (a0:(List YI)×Unit) (a1:YBs):Option (((List YI)×Unit)):=(Lo a0 a1).val
def H3 (x1:Je):Option (Je⊕(YBs)):=
 Tree.val (α:=Je⊕(YBs)) <|
 .br (decide (x1.2.2.1<(8:Int))) (
 .ob (idx x1.1 x1.2.2.1) fun e2=>
 .ob (Ky (x1.2.1,()) e2 ((4:Int),())) fun r3=>
 .leaf (.inl (x1.1,r3.1,(i64.wrap (x1.2.2.1+(1:Int))),()))) (
 .leaf (.inr (x1.2.1,())))
def Aax (a0:(List YI)×Unit):Tree (YBs):=
 .ob (As H3 (a0.1,([]:List YB),(0:Int),())) fun o4=>
 .leaf o4
def Aca (a0:(List YI)×Unit):Option (YBs):=(Aax a0).val
def K7 (x3:(List YB)×(List YI)×Int×Unit):Option (((List YB)×(List YI)×Int×Unit)⊕(((List YI)×Unit))):=
 letI u1:=x3.2.2;Tree.val (α:=((List YB)×(List YI)×Int×Unit)⊕(((List YI)×Unit))) <|
 .br (decide (u1.1<(x3.1.length:Int))) (
 .chk (decide ((0:Int)≤u1.1)) <|
 .chk (decide (u1.1≤(i64.wrap (u1.1+(64:Int))))) <|
 .chk (decide ((i64.wrap (u1.1+(64:Int)))≤(x3.1.length:Int))) <|
 .ob (L4 (x3.2.1,()) (((x3.1.take ((i64.wrap (u1.1+(64:Int)))).toNat).drop (u1.1).toNat),())) fun r4=>
 .leaf (.inl (x3.1,r4.1,(i64.wrap (u1.1+(64:Int))),()))) (
 .leaf (.inr (x3.2.1,())))
def Ai6 (a0:YBs):Tree (YBs):=
 .br (decide ((a0.1.length:Int)>(1048576:Int))) (
 .leaf (([]:List YB),())) (
 .chk (decide (([]:List YB).length+a0.1.length≤4294967296)) <|
 .ob (Ajg ((a0.1.length:Int),())) fun r1=>
 .chk (decide ((([]:List YB)++a0.1).length+r1.1.length≤4294967296)) <|
 .ob Ak0 fun r2=>
 .ob (As K7 (((([]:List YB)++a0.1)++r1.1),r2.1,(0:Int),())) fun o5=>
 .ob (Aca o5) fun r6=>
 .leaf r6)
def Vr (a0:YBs):Option (YBs):=(Ai6 a0).val
def Jc (x2:YBs):Option (YBs⊕(YBs)):=
 Tree.val (α:=YBs⊕(YBs)) <|
 .br (decide ((x2.1.length:Int)<(64:Int))) (
 .chk (decide (x2.1.length+[((0:Int),())].length≤4294967296)) <|
 .leaf (.inl ((x2.1++[((0:Int),())]),()))) (
 .leaf (.inr x2))
def Qn (a0:YBs):Tree (YBs):=
 .br (decide ((a0.1.length:Int)>(1048576:Int))) (
 .leaf (([]:List YB),())) (
 .chk (decide (([]:List YB).length+a0.1.length≤4294967296)) <|
 .br (decide ((a0.1.length:Int)>(64:Int))) (
 .ob (Vr a0) fun r1=>
 .ob (As Jc r1) fun o3=>
 .leaf o3) (
 .ob (As Jc ((([]:List YB)++a0.1),())) fun o4=>
 .leaf o4))
def Rd (a0:YBs):Option (YBs):=(Qn a0).val
def Jd (x2:(List YB)×(List YB)×(List YB)×(List YB)×Int×Unit):Option (((List YB)×(List YB)×(List YB)×(List YB)×Int×Unit)⊕(((List YB)×(List YB)×(List YB)×Unit))):=
 letI u1:=x2.2.2.2;Tree.val (α:=((List YB)×(List YB)×(List YB)×(List YB)×Int×Unit)⊕(((List YB)×(List YB)×(List YB)×Unit))) <|
 .br (decide (u1.2.1<(64:Int))) (
 .ob (idx x2.2.1 u1.2.1) fun e3=>
 .chk (decide (x2.2.2.1.length+[((u8.wrap ((BitVec.ofInt (u8.bits) (e3.1) ^^^ BitVec.ofInt (u8.bits) ((54:Int))).toNat:Nat)),())].length≤4294967296)) <|
 .ob (idx x2.2.1 u1.2.1) fun e4=>
 .chk (decide (x2.2.2.2.1.length+[((u8.wrap ((BitVec.ofInt (u8.bits) (e4.1) ^^^ BitVec.ofInt (u8.bits) ((92:Int))).toNat:Nat)),())].length≤4294967296)) <|
 .leaf (.inl (x2.1,x2.2.1,(x2.2.2.1++[((u8.wrap ((BitVec.ofInt (u8.bits) (e3.1) ^^^ BitVec.ofInt (u8.bits) ((54:Int))).toNat:Nat)),())]),(u1.1++[((u8.wrap ((BitVec.ofInt (u8.bits) (e4.1) ^^^ BitVec.ofInt (u8.bits) ((92:Int))).toNat:Nat)),())]),(i64.wrap (u1.2.1+(1:Int))),()))) (
 .leaf (.inr (x2.1,x2.2.2.1,u1.1,())))
def Afg (a0:YBs) (a1:YBs):Tree (YBs):=
 .br (decide ((a0.1.length:Int)>(1048576:Int))) (
 .leaf (([]:List YB),())) (
 .br (decide ((a1.1.length:Int)>(1048512:Int))) (
 .leaf (([]:List YB),())) (
 .ob (Rd a0) fun r1=>
 .ob (As Jd (a1.1,r1.1,([]:List YB),([]:List YB),(0:Int),())) fun o5=>
 .chk (decide (o5.2.1.length+o5.1.length≤4294967296)) <|
 .ob (Vr ((o5.2.1++o5.1),())) fun r6=>
 .chk (decide (o5.2.2.1.length+r6.1.length≤4294967296)) <|
 .ob (Vr ((o5.2.2.1++r6.1),())) fun r7=>
 .leaf r7))
def Re (a0:YBs) (a1:YBs):Option (YBs):=(Afg a0 a1).val
def Nr (a0:YBs) (a1:YBs):Tree (YBs):=
 .ob (Re a0 a1) fun r1=>
 .leaf r1
def N7 (a0:YBs) (a1:YBs):Option (YBs):=(Nr a0 a1).val
def Gy (x2:(List YB)×(List YB)×Int×(List YB)×(List YB)×Int×Unit):Option (((List YB)×(List YB)×Int×(List YB)×(List YB)×Int×Unit)⊕((Int×(List YB)×Unit))):=
 letI u1:=x2.2.2;letI u2:=u1.2.2;Tree.val (α:=((List YB)×(List YB)×Int×(List YB)×(List YB)×Int×Unit)⊕((Int×(List YB)×Unit))) <|
 .br (decide ((x2.2.2.2.1.length:Int)<u1.1)) (
 .chk (decide (([]:List YB).length+x2.2.2.2.2.1.length≤4294967296)) <|
 .chk (decide ((([]:List YB)++u2.1).length+x2.2.1.length≤4294967296)) <|
 .chk (decide (((([]:List YB)++u2.1)++x2.2.1).length+[((u8.wrap (u2.2.1)),())].length≤4294967296)) <|
 .ob (Re (x2.1,()) ((((([]:List YB)++u2.1)++x2.2.1)++[((u8.wrap (u2.2.1)),())]),())) fun r3=>
 .chk (decide (x2.2.2.2.1.length+r3.1.length≤4294967296)) <|
 .leaf (.inl (x2.1,x2.2.1,u1.1,(u1.2.1++r3.1),r3.1,(i64.wrap (u2.2.1+(1:Int))),()))) (
 .leaf (.inr (u1.1,u1.2.1,())))
def Wh (a0:YBs) (a1:YBs) (a2:YI):Tree (YBs×(Bool×Unit)):=
 .ob (Bc a2 ((0:Int),()) ((8160:Int),())) fun r1=>
 .br (!r1.1) (
 .leaf ((([]:List YB),()),(false,()))) (
 .br (decide ((a1.1.length:Int)>(100:Int))) (
 .leaf ((([]:List YB),()),(false,()))) (
 .br (decide ((a0.1.length:Int)>(1048576:Int))) (
 .leaf ((([]:List YB),()),(false,()))) (
 .ob (As Gy (a0.1,a1.1,a2.1,([]:List YB),([]:List YB),(1:Int),())) fun o4=>
 .chk (decide ((0:Int)≤o4.1)) <|
 .chk (decide (o4.1≤(o4.2.1.length:Int))) <|
 .chk (decide (([]:List YB).length+((o4.2.1.take (o4.1).toNat).drop ((0:Int)).toNat).length≤4294967296)) <|
 .leaf (((([]:List YB)++((o4.2.1.take (o4.1).toNat).drop ((0:Int)).toNat)),()),(true,())))))
def Xo (a0:YBs) (a1:YBs) (a2:YI):Option (YBs×(Bool×Unit)):=(Wh a0 a1 a2).val
def Wi (a0:YBs) (a1:ByteArray×Unit):Tree (YBs):=
 .chk (decide (a1.1.size≤4294967296)) <|
 .ob (Xo a0 ((G6 a1.1),()) ((32:Int),())) fun r1=>
 .leaf r1.1
def Cd (a0:YBs) (a1:ByteArray×Unit):Option (YBs):=(Wi a0 a1).val
def O8 (a0:YBs):Tree (YBs):=
 .ob (K9 a0) fun r1=>
 .br (!r1.1) (
 .leaf (([]:List YB),())) (
 .ob (N7 ([((114:Int),()),((111:Int),()),((97:Int),()),((109:Int),())],()) a0) fun r2=>
 .ob (Cd r2 ((Cq [102,105,110,105,115,104]),())) fun r3=>
 .leaf r3)
def Pf (a0:YBs):Option (YBs):=(O8 a0).val
def O9 (a0:YI) (a1:YBs) (a2:YBs) (a3:YI) (a4:YBs):Tree (YBs):=
 .ob (Bc a0 ((1:Int),()) ((9:Int),())) fun r1=>
 .br (!r1.1) (
 .leaf (([]:List YB),())) (
 .br ((a1.1.length:Int) != (12:Int)) (
 .leaf (([]:List YB),())) (
 .br ((a2.1.length:Int) != (12:Int)) (
 .leaf (([]:List YB),())) (
 .ob (Bc a3 ((0:Int),()) ((1000000:Int),())) fun r2=>
 .br (!r2.1) (
 .leaf (([]:List YB),())) (
 .br ((a4.1.length:Int) != (16:Int)) (
 .leaf (([]:List YB),())) (
 .chk (decide ([((102:Int),()),((u8.wrap (a0.1)),())].length+a1.1.length≤4294967296)) <|
 .chk (decide (([((102:Int),()),((u8.wrap (a0.1)),())]++a1.1).length+a2.1.length≤4294967296)) <|
 .ob (Ky ((([((102:Int),()),((u8.wrap (a0.1)),())]++a1.1)++a2.1),()) a3 ((4:Int),())) fun r3=>
 .chk (decide (r3.1.length+a4.1.length≤4294967296)) <|
 .leaf ((r3.1++a4.1),()))))))
def Pg (a0:YI) (a1:YBs) (a2:YBs) (a3:YI) (a4:YBs):Option (YBs):=(O9 a0 a1 a2 a3 a4).val
def Ai9 (a0:YBs) (a1:YBs):Tree (YBs):=
 .ob (Re a0 a1) fun r1=>
 .br (decide ((r1.1.length:Int)<(16:Int))) (
 .leaf (([]:List YB),())) (
 .chk (decide ((16:Int)≤(r1.1.length:Int))) <|
 .chk (decide (([]:List YB).length+((r1.1.take ((16:Int)).toNat).drop ((0:Int)).toNat).length≤4294967296)) <|
 .leaf ((([]:List YB)++((r1.1.take ((16:Int)).toNat).drop ((0:Int)).toNat)),()))
def Ajh (a0:YBs) (a1:YBs):Option (YBs):=(Ai9 a0 a1).val
def Aa1 (a0:YBs) (a1:YI) (a2:YBs) (a3:YBs) (a4:YI) (a5:YBs):Tree (YBs):=
 .ob (Pf a0) fun r1=>
 .ob (Pg a1 a2 a3 a4 a5) fun r2=>
 .br ((r1.1.length:Int)==(0:Int)) (
 .leaf (([]:List YB),())) (
 .br ((r2.1.length:Int)==(0:Int)) (
 .leaf (([]:List YB),())) (
 .ob (Ajh r1 r2) fun r3=>
 .leaf r3))
def S1 (a0:YBs) (a1:YI) (a2:YBs) (a3:YBs) (a4:YI) (a5:YBs):Option (YBs):=(Aa1 a0 a1 a2 a3 a4 a5).val
def Wj (a0:D4):Tree (D4):=
 letI u1:=a0.2.2.2;letI u2:=u1.2.2.2;.chk (decide (([]:List YB).length+a0.2.2.1.length≤4294967296)) <|
 .chk (decide (([]:List YB).length+a0.2.2.2.1.length≤4294967296)) <|
 .chk (decide (([]:List YB).length+a0.2.2.2.2.2.1.length≤4294967296)) <|
 .chk (decide (([]:List YB).length+a0.2.2.2.2.2.2.1.length≤4294967296)) <|
 .chk (decide (([]:List YB).length+a0.2.2.2.2.2.2.2.2.2.1.length≤4294967296)) <|
 .chk (decide (([]:List YB).length+a0.2.2.2.2.2.2.2.2.2.2.1.length≤4294967296)) <|
 .leaf (a0.1,a0.2.1,(([]:List YB)++a0.2.2.1),(([]:List YB)++u1.1),u1.2.1,(([]:List YB)++u1.2.2.1),(([]:List YB)++u2.1),u2.2.1,u2.2.2.1,(([]:List YB)++u2.2.2.2.1),(([]:List YB)++u2.2.2.2.2.1),())
def Xp (a0:D4):Option (D4):=(Wj a0).val
def Qo (a0:YBs) (a1:YI) (a2:D4):Tree (D4×(Bool×Unit)):=
 .ob (N6 a2) fun r1=>
 .br (!r1.1) (
 .leaf (((0:Int),(0:Int),([]:List YB),([]:List YB),(0:Int),([]:List YB),([]:List YB),(0:Int),(0:Int),([]:List YB),([]:List YB),()),(false,()))) (
 .br (a2.1 != (2:Int)) (
 .leaf (((0:Int),(0:Int),([]:List YB),([]:List YB),(0:Int),([]:List YB),([]:List YB),(0:Int),(0:Int),([]:List YB),([]:List YB),()),(false,()))) (
 .ob (S1 a0 a1 (a2.2.2.1,()) (a2.2.2.2.1,()) (a2.2.2.2.2.1,()) (a2.2.2.2.2.2.1,())) fun r2=>
 .br ((r2.1.length:Int)==(0:Int)) (
 .leaf (((0:Int),(0:Int),([]:List YB),([]:List YB),(0:Int),([]:List YB),([]:List YB),(0:Int),(0:Int),([]:List YB),([]:List YB),()),(false,()))) (
 .ob (Xp a2) fun r3=>letI u1:=r3.2.2.2;letI u2:=u1.2.2.2.2;
 .leaf (((3:Int),a1.1,r3.2.2.1,u1.1,u1.2.1,u1.2.2.1,r2.1,u2.1,u2.2.1,u2.2.2.1,u2.2.2.2.1,()),(true,())))))
def Rf (a0:YBs) (a1:YI) (a2:D4):Option (D4×(Bool×Unit)):=(Qo a0 a1 a2).val
def Aa3 (a0:Ap) (a1:(List YI)×Unit):Tree (YI×Ap):=
 .ob (A6 a0 ((a1.1.length:Int),())) fun r1=>
 .ob (idx a1.1 r1.1.1) fun e2=>
 .leaf (e2,(a0.1,r1.2.2.1,r1.2.2.2.1,()))
def Be (a0:Ap) (a1:(List YI)×Unit):Option (YI×Ap):=(Aa3 a0 a1).val
def Wk (a0:YI):Tree (Da):=
 .ob (Bc a0 ((0:Int),()) ((255:Int),())) fun r1=>
 .br (!r1.1) (
 .leaf ((0:Int),(0:Int),())) (
 .leaf ((i64.wrap ((167772160:Int)+a0.1)),(i64.wrap ((7000:Int)+a0.1)),()))
def Hn (a0:YI):Option (Da):=(Wk a0).val
def Wl (a0:Da):Tree ((Bool×Unit)):=
 .ob (Bc (a0.1,()) ((0:Int),()) ((4294967295:Int),())) fun r1=>
 .br r1.1 (
 .ob (Bc (a0.2.1,()) ((0:Int),()) ((65535:Int),())) fun r2=>
 .leaf r2) (
 .leaf (false,()))
def Ho (a0:Da):Option ((Bool×Unit)):=(Wl a0).val
def Tx (a0:YBs) (a1:YBs) (a2:YBs):Tree (YBs):=
 .ob (K9 a0) fun r1=>
 .br (!r1.1) (
 .leaf (([]:List YB),())) (
 .br ((a1.1.length:Int) != (12:Int)) (
 .leaf (([]:List YB),())) (
 .br ((a2.1.length:Int) != (12:Int)) (
 .leaf (([]:List YB),())) (
 .chk (decide (([]:List YB).length+a1.1.length≤4294967296)) <|
 .chk (decide ((([]:List YB)++a1.1).length+a2.1.length≤4294967296)) <|
 .ob (N7 (((([]:List YB)++a1.1)++a2.1),()) a0) fun r2=>
 .leaf r2)))
def Uz (a0:YBs) (a1:YBs) (a2:YBs):Option (YBs):=(Tx a0 a1 a2).val
def Qq (a0:YBs):Tree (YBs):=
 .br ((a0.1.length:Int) != (32:Int)) (
 .leaf (([]:List YB),())) (
 .ob (Cd a0 ((Cq [101,112,111,99,104]),())) fun r1=>
 .leaf r1)
def Rg (a0:YBs):Option (YBs):=(Qq a0).val
def H4 (x2:Int×(List YB)×Int×Unit):Option ((Int×(List YB)×Int×Unit)⊕(YBs)):=
 Tree.val (α:=(Int×(List YB)×Int×Unit)⊕(YBs)) <|
 .br (decide (x2.2.2.1<x2.1)) (
 .ob (Cd (x2.2.1,()) ((Cq [114,101,107,101,121]),())) fun r3=>
 .leaf (.inl (x2.1,r3.1,(i64.wrap (x2.2.2.1+(1:Int))),()))) (
 .leaf (.inr (x2.2.1,())))
def Aa5 (a0:YBs) (a1:YI):Tree (YBs):=
 .ob (Bc a1 ((0:Int),()) ((64:Int),())) fun r1=>
 .br (!r1.1) (
 .leaf (([]:List YB),())) (
 .chk (decide (([]:List YB).length+a0.1.length≤4294967296)) <|
 .ob (As H4 (a1.1,(([]:List YB)++a0.1),(0:Int),())) fun o4=>
 .leaf o4)
def Acb (a0:YBs) (a1:YI):Option (YBs):=(Aa5 a0 a1).val
def Qr (a0:YBs) (a1:YBs) (a2:YBs) (a3:YI):Tree (YBs):=
 .ob (Uz a0 a1 a2) fun r1=>
 .ob (Rg r1) fun r2=>
 .br ((r2.1.length:Int)==(0:Int)) (
 .leaf r2) (
 .ob (Acb r2 a3) fun r3=>
 .leaf r3)
def Rh (a0:YBs) (a1:YBs) (a2:YBs) (a3:YI):Option (YBs):=(Qr a0 a1 a2 a3).val
def Gz (x1:Int×Int×(List YI)×Int×(List YI)×Unit):Option ((Int×Int×(List YI)×Int×(List YI)×Unit)⊕((Int×(List YI)×Int×(List YI)×Unit))):=
 letI u1:=x1.2.2;Tree.val (α:=(Int×Int×(List YI)×Int×(List YI)×Unit)⊕((Int×(List YI)×Int×(List YI)×Unit))) <|
 .br (decide (x1.1<(32:Int))) (
 .chk (decide (x1.2.2.2.2.1.length+[((0:Int),())].length≤4294967296)) <|
 .leaf (.inl ((i64.wrap (x1.1+(1:Int))),x1.2.1,u1.1,u1.2.1,(u1.2.2.1++[((0:Int),())]),()))) (
 .leaf (.inr (x1.2.1,u1.1,u1.2.1,u1.2.2.1,())))
def Wn:Tree (Bs):=
 .ob (As Gz ((0:Int),(0:Int),([]:List YI),(-1:Int),([]:List YI),())) fun o2=>
 .leaf (o2.2.2.1,o2.2.2.2.1,())
def Pz:Option (Bs):=(Wn).val
def Aa7 (a0:YI) (a1:YBs):Tree (YEp):=
 .ob (Bc a0 ((0:Int),()) ((4294967295:Int),())) fun r1=>
 .br (!r1.1) (
 .leaf ((0:Int),([]:List YB),(0:Int),(0:Int),([]:List YI),())) (
 .br ((a1.1.length:Int) != (32:Int)) (
 .leaf ((0:Int),([]:List YB),(0:Int),(0:Int),([]:List YI),())) (
 .chk (decide (([]:List YB).length+a1.1.length≤4294967296)) <|
 .ob Pz fun r2=>
 .leaf (a0.1,(([]:List YB)++a1.1),(0:Int),r2.1,r2.2.1,())))
def Is (a0:YI) (a1:YBs):Option (YEp):=(Aa7 a0 a1).val
def T0 (a0:YI) (a1:YBs) (a2:YBs):Tree (Bl):=
 .ob (Bc a0 ((0:Int),()) ((1:Int),())) fun r1=>
 .br (!r1.1) (
 .leaf ((0:Int),([]:List YB),(0:Int),([]:List YB),(0:Int),(0:Int),([]:List YI),(0:Int),([]:List YB),(0:Int),(0:Int),([]:List YI),false,(0:Int),([]:List YB),())) (
 .br ((a1.1.length:Int) != (12:Int)) (
 .leaf ((0:Int),([]:List YB),(0:Int),([]:List YB),(0:Int),(0:Int),([]:List YI),(0:Int),([]:List YB),(0:Int),(0:Int),([]:List YI),false,(0:Int),([]:List YB),())) (
 .br ((a2.1.length:Int) != (32:Int)) (
 .leaf ((0:Int),([]:List YB),(0:Int),([]:List YB),(0:Int),(0:Int),([]:List YI),(0:Int),([]:List YB),(0:Int),(0:Int),([]:List YI),false,(0:Int),([]:List YB),())) (
 .chk (decide (([]:List YB).length+a1.1.length≤4294967296)) <|
 .ob (Is ((0:Int),()) a2) fun r2=>
 .leaf (a0.1,(([]:List YB)++a1.1),r2.1,r2.2.1,r2.2.2.1,r2.2.2.2.1,r2.2.2.2.2.1,(0:Int),([]:List YB),(0:Int),(0:Int),([]:List YI),false,(0:Int),([]:List YB),()))))
def N8 (a0:YI) (a1:YBs) (a2:YBs):Option (Bl):=(T0 a0 a1 a2).val
def Aa9 (a0:Da):Tree (A4):=
 .leaf (a0.1,a0.2.1,([]:List Aj),())
def Ri (a0:Da):Option (A4):=(Aa9 a0).val
def T1 (a0:YBs) (a1:YI) (a2:Da) (a3:D4):Tree (Af):=
 letI u1:=a3.2.2;.ob (K9 a0) fun r1=>
 .br (!r1.1) (
 .leaf ((0:Int),([]:List YB),([]:List YB),(0:Int),([]:List YB),(0:Int),([]:List YB),(0:Int),(0:Int),([]:List YI),(0:Int),([]:List YB),(0:Int),(0:Int),([]:List YI),false,(0:Int),([]:List YB),(0:Int),(0:Int),([]:List Aj),(0:Int),(0:Int),false,())) (
 .ob (Bc a1 ((0:Int),()) ((1000000:Int),())) fun r2=>
 .br (!r2.1) (
 .leaf ((0:Int),([]:List YB),([]:List YB),(0:Int),([]:List YB),(0:Int),([]:List YB),(0:Int),(0:Int),([]:List YI),(0:Int),([]:List YB),(0:Int),(0:Int),([]:List YI),false,(0:Int),([]:List YB),(0:Int),(0:Int),([]:List Aj),(0:Int),(0:Int),false,())) (
 .ob (Ho a2) fun r3=>
 .br (!r3.1) (
 .leaf ((0:Int),([]:List YB),([]:List YB),(0:Int),([]:List YB),(0:Int),([]:List YB),(0:Int),(0:Int),([]:List YI),(0:Int),([]:List YB),(0:Int),(0:Int),([]:List YI),false,(0:Int),([]:List YB),(0:Int),(0:Int),([]:List Aj),(0:Int),(0:Int),false,())) (
 .ob (N6 a3) fun r4=>
 .br (!r4.1) (
 .leaf ((0:Int),([]:List YB),([]:List YB),(0:Int),([]:List YB),(0:Int),([]:List YB),(0:Int),(0:Int),([]:List YI),(0:Int),([]:List YB),(0:Int),(0:Int),([]:List YI),false,(0:Int),([]:List YB),(0:Int),(0:Int),([]:List Aj),(0:Int),(0:Int),false,())) (
 .br (a3.1 != (3:Int)) (
 .leaf ((0:Int),([]:List YB),([]:List YB),(0:Int),([]:List YB),(0:Int),([]:List YB),(0:Int),(0:Int),([]:List YI),(0:Int),([]:List YB),(0:Int),(0:Int),([]:List YI),false,(0:Int),([]:List YB),(0:Int),(0:Int),([]:List Aj),(0:Int),(0:Int),false,())) (
 .chk (decide (([]:List YB).length+a3.2.2.1.length≤4294967296)) <|
 .chk (decide (([]:List YB).length+a3.2.2.2.1.length≤4294967296)) <|
 .ob (Rh a0 (u1.1,()) (u1.2.1,()) ((0:Int),())) fun r5=>
 .ob (N8 ((1:Int),()) (u1.2.1,()) r5) fun r6=>letI u2:=r6.2.2.2;letI u3:=u2.2.2.2;letI u4:=u3.2.2.2.2;
 .ob (Ri a2) fun r7=>
 .leaf (a3.2.1,(([]:List YB)++u1.1),(([]:List YB)++u1.2.1),r6.1,r6.2.1,r6.2.2.1,u2.1,u2.2.1,u2.2.2.1,u3.1,u3.2.1,u3.2.2.1,u3.2.2.2.1,u4.1,u4.2.1,u4.2.2.1,u4.2.2.2.1,u4.2.2.2.2.1,r7.1,r7.2.1,r7.2.2.1,u1.2.2.1,a1.1,false,()))))))
def U0 (a0:YBs) (a1:YI) (a2:Da) (a3:D4):Option (Af):=(T1 a0 a1 a2 a3).val
def Wp (a0:Ap) (a1:YI):Tree ((Bool×Unit)×Ap):=
 .ob (A6 a0 a1) fun r1=>
 .leaf (((r1.1.1==(0:Int)),()),(a0.1,r1.2.2.1,r1.2.2.2.1,()))
def Bp (a0:Ap) (a1:YI):Option ((Bool×Unit)×Ap):=(Wp a0 a1).val
def Lq (x3:(List YI)×Int×Int×(List YB)×Int×Int×Unit):Option (((List YI)×Int×Int×(List YB)×Int×Int×Unit)⊕(((List YI)×(List YB)×Int×Int×Unit))):=
 letI u1:=x3.2.2.2;Tree.val (α:=((List YI)×Int×Int×(List YB)×Int×Int×Unit)⊕(((List YI)×(List YB)×Int×Int×Unit))) <|
 .br (decide (x3.2.2.1>(0:Int))) (
 .ob (Bp (u1.1,u1.2.1,u1.2.2.1,()) ((6:Int),())) fun r4=>
 .br r4.1.1 (
 .ob (Be (u1.1,r4.2.2.1,r4.2.2.2.1,()) ([((1:Int),()),((32:Int),()),((900:Int),()),((1023:Int),()),((1024:Int),()),((1025:Int),()),((3000:Int),())],())) fun r5=>
 .ob (A6 (u1.1,r5.2.2.1,r5.2.2.2.1,()) ((40:Int),())) fun r6=>
 .ob (Be (u1.1,r6.2.2.1,r6.2.2.2.1,()) ([((0:Int),()),((0:Int),()),((20:Int),()),((1000:Int),())],())) fun r7=>
 .chk (decide (x3.1.length+[((i64.wrap ((i64.wrap ((i64.wrap (x3.2.1+r5.1.1))+r6.1.1))-r7.1.1)),())].length≤4294967296)) <|
 .leaf (.inl ((x3.1++[((i64.wrap ((i64.wrap ((i64.wrap (x3.2.1+r5.1.1))+r6.1.1))-r7.1.1)),())]),(i64.wrap (x3.2.1+r5.1.1)),(i64.wrap (x3.2.2.1-(1:Int))),u1.1,r7.2.2.1,r7.2.2.2.1,()))) (
 .ob (A6 (u1.1,r4.2.2.1,r4.2.2.2.1,()) ((40:Int),())) fun r8=>
 .ob (Be (u1.1,r8.2.2.1,r8.2.2.2.1,()) ([((0:Int),()),((0:Int),()),((20:Int),()),((1000:Int),())],())) fun r9=>
 .chk (decide (x3.1.length+[((i64.wrap ((i64.wrap (x3.2.1+r8.1.1))-r9.1.1)),())].length≤4294967296)) <|
 .leaf (.inl ((x3.1++[((i64.wrap ((i64.wrap (x3.2.1+r8.1.1))-r9.1.1)),())]),x3.2.1,(i64.wrap (x3.2.2.1-(1:Int))),u1.1,r9.2.2.1,r9.2.2.2.1,())))) (
 .leaf (.inr (x3.1,u1.1,u1.2.1,u1.2.2.1,())))
def Wq (a0:Ap) (a1:YI):Tree (((List YI)×Unit)×Ap):=
 .ob (Be a0 ([((0:Int),()),((0:Int),()),((0:Int),()),((1000:Int),()),((5000:Int),()),((281474976710000:Int),())],())) fun r1=>
 .ob (A6 (a0.1,r1.2.2.1,r1.2.2.2.1,()) ((i64.wrap (a1.1+(1:Int))),())) fun r2=>
 .ob (As Lq (([]:List YI),r1.1.1,r2.1.1,a0.1,r2.2.2.1,r2.2.2.2.1,())) fun o10=>
 .ob (Bp (o10.2.1,o10.2.2.1,o10.2.2.2.1,()) ((5:Int),())) fun r11=>
 .br r11.1.1 (
 .ob (Be (o10.2.1,r11.2.2.1,r11.2.2.2.1,()) ([((-1:Int),()),((281474976710655:Int),()),((281474976710656:Int),())],())) fun r12=>
 .chk (decide (o10.1.length+[r12.1].length≤4294967296)) <|
 .leaf (((o10.1++[r12.1]),()),(o10.2.1,r12.2.2.1,r12.2.2.2.1,()))) (
 .leaf ((o10.1,()),(o10.2.1,r11.2.2.1,r11.2.2.2.1,())))
def Xq (a0:Ap) (a1:YI):Option (((List YI)×Unit)×Ap):=(Wq a0 a1).val
def Ag3 (a0:Bs):Tree (Bs):=
 .chk (decide (([]:List YI).length+a0.2.1.length≤4294967296)) <|
 .leaf (a0.1,(([]:List YI)++a0.2.1),())
def Xr (a0:Bs):Option (Bs):=(Ag3 a0).val
def Abb (a0:Bs) (a1:YI):Tree ((Bool×Unit)):=
 .chk (decide ((0:Int)≤a1.1)) <|
 .chk (decide ((0:Int)≤(a1.1%(1024:Int)))) <|
 .ob (idx a0.2.1 ((a1.1%(1024:Int))/(32:Int))) fun e1=>
 .chk (decide ((0:Int)≤(a1.1%(1024:Int)))) <|
 .chk (decide ((0:Int)≤((a1.1%(1024:Int))%(32:Int)))) <|
 .leaf (((i64.wrap ((BitVec.ofInt (i64.bits) ((Int.fdiv e1.1 (2^(min (((a1.1%(1024:Int))%(32:Int))).toNat i64.bits)))) &&& BitVec.ofInt (i64.bits) ((1:Int))).toNat:Nat))==(1:Int)),())
def On (a0:Bs) (a1:YI):Option ((Bool×Unit)):=(Abb a0 a1).val
def Gt (x2:Int×Int×(List YI)×Unit):Option ((Int×Int×(List YI)×Unit)⊕((Bool×Unit)⊕Bs)):=
 Tree.val (α:=(Int×Int×(List YI)×Unit)⊕((Bool×Unit)⊕Bs)) <|
 .br (decide (x2.1<(32:Int))) (
 .ob (idx x2.2.2.1 x2.1) fun e3=>
 .ob (Bc e3 ((0:Int),()) ((4294967295:Int),())) fun r4=>
 .br (!r4.1) (
 .leaf (.inr (.inl (false,())))) (
 .leaf (.inl ((i64.wrap (x2.1+(1:Int))),x2.2.1,x2.2.2.1,())))) (
 .leaf (.inr (.inr (x2.2.1,x2.2.2.1,()))))
def Ev (x9:Int×Int×(List YI)×Unit):Option ((Int×Int×(List YI)×Unit)⊕((Bool×Unit)⊕(Unit))):=
 Tree.val (α:=(Int×Int×(List YI)×Unit)⊕((Bool×Unit)⊕(Unit))) <|
 .br (decide (x9.1<(1024:Int))) (
 .ob (On (x9.2.1,x9.2.2.1,()) (x9.1,())) fun r10=>
 .br r10.1 (
 .leaf (.inr (.inl (false,())))) (
 .leaf (.inl ((i64.wrap (x9.1+(1:Int))),x9.2.1,x9.2.2.1,())))) (
 .leaf (.inr (.inr ())))
def Ss (a0:Bs):Tree ((Bool×Unit)):=
 .br ((a0.2.1.length:Int) != (32:Int)) (
 .leaf (false,())) (
 .ob (Bc (a0.1,()) ((-1:Int),()) ((281474976710655:Int),())) fun r1=>
 .br (!r1.1) (
 .leaf (false,())) (
 .ob (As Gt ((0:Int),a0.1,a0.2.1,())) fun o5=>
 .sm o5 (fun o6=>
 .leaf o6) (fun o7=>
 .br (decide (o7.1≥(0:Int))) (
 .ob (On o7 (o7.1,())) fun r8=>
 .br (!r8.1) (
 .leaf (false,())) (
 .ob (As Ev ((i64.wrap (o7.1+(1:Int))),o7.1,o7.2.1,())) fun o11=>
 .sm o11 (fun o12=>
 .leaf o12) (fun o13=>
 .leaf (true,())))) (
 .ob (As Ev ((i64.wrap (o7.1+(1:Int))),o7.1,o7.2.1,())) fun o14=>
 .sm o14 (fun o15=>
 .leaf o15) (fun o16=>
 .leaf (true,()))))))
def S2 (a0:Bs):Option ((Bool×Unit)):=(Ss a0).val
def T2 (a0:YI):Tree (YI):=
 .br (decide (a0.1<(1024:Int))) (
 .leaf ((0:Int),())) (
 .leaf ((i64.wrap ((i64.wrap (a0.1-(1024:Int)))+(1:Int))),()))
def Aeu (a0:YI):Option (YI):=(T2 a0).val
def Ws (a0:Bs) (a1:YI):Tree ((Bool×Unit)):=
 .ob (S2 a0) fun r1=>
 .br (!r1.1) (
 .leaf (false,())) (
 .ob (Bc a1 ((0:Int),()) ((281474976710655:Int),())) fun r2=>
 .br (!r2.1) (
 .leaf (false,())) (
 .br (decide (a1.1>a0.1)) (
 .leaf (true,())) (
 .ob (Aeu (a0.1,())) fun r3=>
 .br (decide (a1.1≥r3.1)) (
 .ob (On a0 a1) fun r4=>
 .leaf ((!r4.1),())) (
 .leaf (false,())))))
def Xs (a0:Bs) (a1:YI):Option ((Bool×Unit)):=(Ws a0 a1).val
def G3 (x3:Int×Int×Int×Int×(List YI)×Int×(List YI)×Int×(List YI)×Unit):Option ((Int×Int×Int×Int×(List YI)×Int×(List YI)×Int×(List YI)×Unit)⊕((Int×Int×(List YI)×Int×(List YI)×Int×(List YI)×Unit))):=
 letI u1:=x3.2.2;letI u2:=u1.2.2;letI u3:=u2.2.2;Tree.val (α:=(Int×Int×Int×Int×(List YI)×Int×(List YI)×Int×(List YI)×Unit)⊕((Int×Int×(List YI)×Int×(List YI)×Int×(List YI)×Unit))) <|
 .br (decide (u1.1≤x3.1)) (
 .br (decide (x3.2.1<(1024:Int))) (
 .chk (decide ((0:Int)≤u1.1)) <|
 .chk (decide ((0:Int)≤(u1.1%(1024:Int)))) <|
 .chk (decide ((0:Int)≤(u1.1%(1024:Int)))) <|
 .ob (idx u3.2.2.1 ((u1.1%(1024:Int))/(32:Int))) fun e4=>
 .chk (decide ((0:Int)≤(u1.1%(1024:Int)))) <|
 .chk (decide ((0:Int)≤((u1.1%(1024:Int))%(32:Int)))) <|
 .ob (idx u3.2.2.1 ((u1.1%(1024:Int))/(32:Int))) fun e5=>
 let q6:=(x3.2.2.2.2.2.2.2.2.1.set (((u1.1%(1024:Int))/(32:Int))).toNat ((i64.wrap ((BitVec.ofInt (i64.bits) (e4.1) &&& ~~~ BitVec.ofInt (i64.bits) ((i64.wrap ((1:Int)*2^(min (((u1.1%(1024:Int))%(32:Int))).toNat i64.bits))))).toNat:Nat)),()))
 .leaf (.inl (x3.1,(i64.wrap (x3.2.1+(1:Int))),(i64.wrap (u1.1+(1:Int))),u1.2.1,u2.1,u2.2.1,u3.1,u3.2.1,q6,()))) (
 .leaf (.inr (x3.1,u1.2.1,u2.1,u2.2.1,u3.1,u3.2.1,u3.2.2.1,())))) (
 .leaf (.inr (x3.1,u1.2.1,u2.1,u2.2.1,u3.1,u3.2.1,u3.2.2.1,())))
def Wt (a0:Bs) (a1:YI):Tree (Bs×(Bool×Unit)):=
 .ob (Xr a0) fun r1=>
 .ob (Xs a0 a1) fun r2=>
 .br (!r2.1) (
 .leaf (r1,(false,()))) (
 .ob (As G3 (a1.1,(0:Int),(i64.wrap (a0.1+(1:Int))),a0.1,a0.2.1,(0:Int),([]:List YI),r1.1,r1.2.1,())) fun o7=>letI u1:=o7.2.2.2.2.2;
 .chk (decide ((0:Int)≤o7.1)) <|
 .chk (decide ((0:Int)≤(o7.1%(1024:Int)))) <|
 .chk (decide ((0:Int)≤(o7.1%(1024:Int)))) <|
 .ob (idx u1.2.1 ((o7.1%(1024:Int))/(32:Int))) fun e8=>
 .chk (decide ((0:Int)≤(o7.1%(1024:Int)))) <|
 .chk (decide ((0:Int)≤((o7.1%(1024:Int))%(32:Int)))) <|
 .ob (idx u1.2.1 ((o7.1%(1024:Int))/(32:Int))) fun e9=>
 let q10:=(o7.2.2.2.2.2.2.1.set (((o7.1%(1024:Int))/(32:Int))).toNat ((i64.wrap ((BitVec.ofInt (i64.bits) (e8.1) ||| BitVec.ofInt (i64.bits) ((i64.wrap ((1:Int)*2^(min (((o7.1%(1024:Int))%(32:Int))).toNat i64.bits))))).toNat:Nat)),()))
 .br (decide (o7.1>o7.2.1)) (
 .leaf ((o7.1,q10,()),(true,()))) (
 .leaf ((u1.1,q10,()),(true,()))))
def P0 (a0:Bs) (a1:YI):Option (Bs×(Bool×Unit)):=(Wt a0 a1).val
def Nt (x2:(List YI)×Int×Int×(List YI)×Int×(List YI)×Unit):Option (((List YI)×Int×Int×(List YI)×Int×(List YI)×Unit)⊕((Int×(List YI)×Int×(List YI)×Unit))):=
 letI u1:=x2.2.2.2;Tree.val (α:=((List YI)×Int×Int×(List YI)×Int×(List YI)×Unit)⊕((Int×(List YI)×Int×(List YI)×Unit))) <|
 .br (decide (x2.2.1<(x2.1.length:Int))) (
 .ob (idx x2.1 x2.2.1) fun e3=>
 .ob (P0 (u1.2.1,u1.2.2.1,()) e3) fun r4=>
 .leaf (.inl (x2.1,(i64.wrap (x2.2.1+(1:Int))),x2.2.2.1,u1.1,r4.1.1,r4.1.2.1,()))) (
 .leaf (.inr (x2.2.2.1,u1.1,u1.2.1,u1.2.2.1,())))
def Abg (a0:(List YI)×Unit):Tree (Bs):=
 .ob Pz fun r1=>
 .ob (As Nt (a0.1,(0:Int),(0:Int),([]:List YI),r1.1,r1.2.1,())) fun o5=>
 .leaf (o5.2.2.1,o5.2.2.2.1,())
def Acc (a0:(List YI)×Unit):Option (Bs):=(Abg a0).val
def Wu (a0:Ap):Tree (Bs×Ap):=
 .ob (Xq a0 ((12:Int),())) fun r1=>
 .ob (Acc r1.1) fun r2=>
 .leaf (r2,(a0.1,r1.2.2.1,r1.2.2.2.1,()))
def L5 (a0:Ap):Option (Bs×Ap):=(Wu a0).val
def T5 (a0:Ap) (a1:YI):Tree (Bl×Ap):=
 .ob (Ca a0 ((12:Int),())) fun r1=>
 .ob (Ca (a0.1,r1.2.2.1,r1.2.2.2.1,()) ((32:Int),())) fun r2=>
 .ob (N8 a1 r1.1 r2.1) fun r3=>letI u1:=r3.2.2.2;letI u2:=u1.2.2;letI u3:=u2.2.2;letI u4:=u3.2.2;letI u5:=u4.2.2;letI u6:=u5.2.2.2;
 .ob (Be (a0.1,r2.2.2.1,r2.2.2.2.1,()) ([((0:Int),()),((0:Int),()),((3:Int),()),((281474976709656:Int),()),((281474976710656:Int),())],())) fun r4=>
 .ob (Bp (a0.1,r4.2.2.1,r4.2.2.2.1,()) ((3:Int),())) fun r5=>
 .br r5.1.1 (
 .ob (L5 (a0.1,r5.2.2.1,r5.2.2.2.1,())) fun r6=>
 .ob (Bp (a0.1,r6.2.2.1,r6.2.2.2.1,()) ((2:Int),())) fun r7=>letI u7:=r7.2.2;
 .br r7.1.1 (
 .ob (Be (a0.1,u7.1,u7.2.1,()) ([((1:Int),()),((1:Int),()),((2:Int),()),((4294967295:Int),())],())) fun r8=>
 .ob (Cd (u1.1,()) ((Cq [114,101,107,101,121]),())) fun r9=>
 .ob (Is r8.1 r9) fun r10=>letI u8:=r10.2.2;letI u9:=u8.2.2;
 .ob (Be (a0.1,r8.2.2.1,r8.2.2.2.1,()) ([((-1:Int),()),((0:Int),()),((5:Int),()),((7:Int),()),((1000005:Int),())],())) fun r11=>letI u10:=r11.2.2;
 .br (a1.1==(0:Int)) (
 .br (decide (r11.1.1<(0:Int))) (
 .br (a1.1==(0:Int)) (
 .br (decide (r10.1<(4294967295:Int))) (
 .ob (Bp (a0.1,u10.1,u10.2.1,()) ((2:Int),())) fun r12=>
 .br r12.1.1 (
 .ob (Cd (r10.2.1,()) ((Cq [114,101,107,101,121]),())) fun r13=>
 .leaf ((r3.1,r3.2.1,r10.1,r10.2.1,u8.1,u8.2.1,u9.1,(i64.wrap (r10.1-(1:Int))),u1.1,r4.1.1,r6.1.1,r6.1.2.1,true,(5:Int),r13.1,()),(a0.1,r12.2.2.1,r12.2.2.2.1,()))) (
 .leaf ((r3.1,r3.2.1,r10.1,r10.2.1,u8.1,u8.2.1,u9.1,(i64.wrap (r10.1-(1:Int))),u1.1,r4.1.1,r6.1.1,r6.1.2.1,true,(5:Int),u6.1,()),(a0.1,r12.2.2.1,r12.2.2.2.1,())))) (
 .leaf ((r3.1,r3.2.1,r10.1,r10.2.1,u8.1,u8.2.1,u9.1,(i64.wrap (r10.1-(1:Int))),u1.1,r4.1.1,r6.1.1,r6.1.2.1,true,(5:Int),u6.1,()),(a0.1,u10.1,u10.2.1,())))) (
 .leaf ((r3.1,r3.2.1,r10.1,r10.2.1,u8.1,u8.2.1,u9.1,(i64.wrap (r10.1-(1:Int))),u1.1,r4.1.1,r6.1.1,r6.1.2.1,true,(5:Int),u6.1,()),(a0.1,u10.1,u10.2.1,())))) (
 .br (a1.1==(0:Int)) (
 .br (decide (r10.1<(4294967295:Int))) (
 .ob (Bp (a0.1,u10.1,u10.2.1,()) ((2:Int),())) fun r14=>
 .br r14.1.1 (
 .ob (Cd (r10.2.1,()) ((Cq [114,101,107,101,121]),())) fun r15=>
 .leaf ((r3.1,r3.2.1,r10.1,r10.2.1,u8.1,u8.2.1,u9.1,(i64.wrap (r10.1-(1:Int))),u1.1,r4.1.1,r6.1.1,r6.1.2.1,true,r11.1.1,r15.1,()),(a0.1,r14.2.2.1,r14.2.2.2.1,()))) (
 .leaf ((r3.1,r3.2.1,r10.1,r10.2.1,u8.1,u8.2.1,u9.1,(i64.wrap (r10.1-(1:Int))),u1.1,r4.1.1,r6.1.1,r6.1.2.1,true,r11.1.1,u6.1,()),(a0.1,r14.2.2.1,r14.2.2.2.1,())))) (
 .leaf ((r3.1,r3.2.1,r10.1,r10.2.1,u8.1,u8.2.1,u9.1,(i64.wrap (r10.1-(1:Int))),u1.1,r4.1.1,r6.1.1,r6.1.2.1,true,r11.1.1,u6.1,()),(a0.1,u10.1,u10.2.1,())))) (
 .leaf ((r3.1,r3.2.1,r10.1,r10.2.1,u8.1,u8.2.1,u9.1,(i64.wrap (r10.1-(1:Int))),u1.1,r4.1.1,r6.1.1,r6.1.2.1,true,r11.1.1,u6.1,()),(a0.1,u10.1,u10.2.1,()))))) (
 .br (a1.1==(0:Int)) (
 .br (decide (r10.1<(4294967295:Int))) (
 .ob (Bp (a0.1,u10.1,u10.2.1,()) ((2:Int),())) fun r16=>
 .br r16.1.1 (
 .ob (Cd (r10.2.1,()) ((Cq [114,101,107,101,121]),())) fun r17=>
 .leaf ((r3.1,r3.2.1,r10.1,r10.2.1,u8.1,u8.2.1,u9.1,(i64.wrap (r10.1-(1:Int))),u1.1,r4.1.1,r6.1.1,r6.1.2.1,true,r11.1.1,r17.1,()),(a0.1,r16.2.2.1,r16.2.2.2.1,()))) (
 .leaf ((r3.1,r3.2.1,r10.1,r10.2.1,u8.1,u8.2.1,u9.1,(i64.wrap (r10.1-(1:Int))),u1.1,r4.1.1,r6.1.1,r6.1.2.1,true,r11.1.1,u6.1,()),(a0.1,r16.2.2.1,r16.2.2.2.1,())))) (
 .leaf ((r3.1,r3.2.1,r10.1,r10.2.1,u8.1,u8.2.1,u9.1,(i64.wrap (r10.1-(1:Int))),u1.1,r4.1.1,r6.1.1,r6.1.2.1,true,r11.1.1,u6.1,()),(a0.1,u10.1,u10.2.1,())))) (
 .leaf ((r3.1,r3.2.1,r10.1,r10.2.1,u8.1,u8.2.1,u9.1,(i64.wrap (r10.1-(1:Int))),u1.1,r4.1.1,r6.1.1,r6.1.2.1,true,r11.1.1,u6.1,()),(a0.1,u10.1,u10.2.1,()))))) (
 .br (a1.1==(0:Int)) (
 .br (decide (r3.2.2.1<(4294967295:Int))) (
 .ob (Bp (a0.1,u7.1,u7.2.1,()) ((2:Int),())) fun r18=>
 .br r18.1.1 (
 .ob (Cd (u1.1,()) ((Cq [114,101,107,101,121]),())) fun r19=>
 .leaf ((r3.1,r3.2.1,r3.2.2.1,u1.1,r4.1.1,r6.1.1,r6.1.2.1,u3.1,u3.2.1,u4.1,u4.2.1,u5.1,u5.2.1,u5.2.2.1,r19.1,()),(a0.1,r18.2.2.1,r18.2.2.2.1,()))) (
 .leaf ((r3.1,r3.2.1,r3.2.2.1,u1.1,r4.1.1,r6.1.1,r6.1.2.1,u3.1,u3.2.1,u4.1,u4.2.1,u5.1,u5.2.1,u5.2.2.1,u6.1,()),(a0.1,r18.2.2.1,r18.2.2.2.1,())))) (
 .leaf ((r3.1,r3.2.1,r3.2.2.1,u1.1,r4.1.1,r6.1.1,r6.1.2.1,u3.1,u3.2.1,u4.1,u4.2.1,u5.1,u5.2.1,u5.2.2.1,u6.1,()),(a0.1,u7.1,u7.2.1,())))) (
 .leaf ((r3.1,r3.2.1,r3.2.2.1,u1.1,r4.1.1,r6.1.1,r6.1.2.1,u3.1,u3.2.1,u4.1,u4.2.1,u5.1,u5.2.1,u5.2.2.1,u6.1,()),(a0.1,u7.1,u7.2.1,()))))) (
 .ob (Bp (a0.1,r5.2.2.1,r5.2.2.2.1,()) ((2:Int),())) fun r20=>letI u11:=r20.2.2;
 .br r20.1.1 (
 .ob (Be (a0.1,u11.1,u11.2.1,()) ([((1:Int),()),((1:Int),()),((2:Int),()),((4294967295:Int),())],())) fun r21=>
 .ob (Cd (u1.1,()) ((Cq [114,101,107,101,121]),())) fun r22=>
 .ob (Is r21.1 r22) fun r23=>letI u12:=r23.2.2;letI u13:=u12.2.2;
 .ob (Be (a0.1,r21.2.2.1,r21.2.2.2.1,()) ([((-1:Int),()),((0:Int),()),((5:Int),()),((7:Int),()),((1000005:Int),())],())) fun r24=>letI u14:=r24.2.2;
 .br (a1.1==(0:Int)) (
 .br (decide (r24.1.1<(0:Int))) (
 .br (a1.1==(0:Int)) (
 .br (decide (r23.1<(4294967295:Int))) (
 .ob (Bp (a0.1,u14.1,u14.2.1,()) ((2:Int),())) fun r25=>
 .br r25.1.1 (
 .ob (Cd (r23.2.1,()) ((Cq [114,101,107,101,121]),())) fun r26=>
 .leaf ((r3.1,r3.2.1,r23.1,r23.2.1,u12.1,u12.2.1,u13.1,(i64.wrap (r23.1-(1:Int))),u1.1,r4.1.1,u2.1,u2.2.1,true,(5:Int),r26.1,()),(a0.1,r25.2.2.1,r25.2.2.2.1,()))) (
 .leaf ((r3.1,r3.2.1,r23.1,r23.2.1,u12.1,u12.2.1,u13.1,(i64.wrap (r23.1-(1:Int))),u1.1,r4.1.1,u2.1,u2.2.1,true,(5:Int),u6.1,()),(a0.1,r25.2.2.1,r25.2.2.2.1,())))) (
 .leaf ((r3.1,r3.2.1,r23.1,r23.2.1,u12.1,u12.2.1,u13.1,(i64.wrap (r23.1-(1:Int))),u1.1,r4.1.1,u2.1,u2.2.1,true,(5:Int),u6.1,()),(a0.1,u14.1,u14.2.1,())))) (
 .leaf ((r3.1,r3.2.1,r23.1,r23.2.1,u12.1,u12.2.1,u13.1,(i64.wrap (r23.1-(1:Int))),u1.1,r4.1.1,u2.1,u2.2.1,true,(5:Int),u6.1,()),(a0.1,u14.1,u14.2.1,())))) (
 .br (a1.1==(0:Int)) (
 .br (decide (r23.1<(4294967295:Int))) (
 .ob (Bp (a0.1,u14.1,u14.2.1,()) ((2:Int),())) fun r27=>
 .br r27.1.1 (
 .ob (Cd (r23.2.1,()) ((Cq [114,101,107,101,121]),())) fun r28=>
 .leaf ((r3.1,r3.2.1,r23.1,r23.2.1,u12.1,u12.2.1,u13.1,(i64.wrap (r23.1-(1:Int))),u1.1,r4.1.1,u2.1,u2.2.1,true,r24.1.1,r28.1,()),(a0.1,r27.2.2.1,r27.2.2.2.1,()))) (
 .leaf ((r3.1,r3.2.1,r23.1,r23.2.1,u12.1,u12.2.1,u13.1,(i64.wrap (r23.1-(1:Int))),u1.1,r4.1.1,u2.1,u2.2.1,true,r24.1.1,u6.1,()),(a0.1,r27.2.2.1,r27.2.2.2.1,())))) (
 .leaf ((r3.1,r3.2.1,r23.1,r23.2.1,u12.1,u12.2.1,u13.1,(i64.wrap (r23.1-(1:Int))),u1.1,r4.1.1,u2.1,u2.2.1,true,r24.1.1,u6.1,()),(a0.1,u14.1,u14.2.1,())))) (
 .leaf ((r3.1,r3.2.1,r23.1,r23.2.1,u12.1,u12.2.1,u13.1,(i64.wrap (r23.1-(1:Int))),u1.1,r4.1.1,u2.1,u2.2.1,true,r24.1.1,u6.1,()),(a0.1,u14.1,u14.2.1,()))))) (
 .br (a1.1==(0:Int)) (
 .br (decide (r23.1<(4294967295:Int))) (
 .ob (Bp (a0.1,u14.1,u14.2.1,()) ((2:Int),())) fun r29=>
 .br r29.1.1 (
 .ob (Cd (r23.2.1,()) ((Cq [114,101,107,101,121]),())) fun r30=>
 .leaf ((r3.1,r3.2.1,r23.1,r23.2.1,u12.1,u12.2.1,u13.1,(i64.wrap (r23.1-(1:Int))),u1.1,r4.1.1,u2.1,u2.2.1,true,r24.1.1,r30.1,()),(a0.1,r29.2.2.1,r29.2.2.2.1,()))) (
 .leaf ((r3.1,r3.2.1,r23.1,r23.2.1,u12.1,u12.2.1,u13.1,(i64.wrap (r23.1-(1:Int))),u1.1,r4.1.1,u2.1,u2.2.1,true,r24.1.1,u6.1,()),(a0.1,r29.2.2.1,r29.2.2.2.1,())))) (
 .leaf ((r3.1,r3.2.1,r23.1,r23.2.1,u12.1,u12.2.1,u13.1,(i64.wrap (r23.1-(1:Int))),u1.1,r4.1.1,u2.1,u2.2.1,true,r24.1.1,u6.1,()),(a0.1,u14.1,u14.2.1,())))) (
 .leaf ((r3.1,r3.2.1,r23.1,r23.2.1,u12.1,u12.2.1,u13.1,(i64.wrap (r23.1-(1:Int))),u1.1,r4.1.1,u2.1,u2.2.1,true,r24.1.1,u6.1,()),(a0.1,u14.1,u14.2.1,()))))) (
 .br (a1.1==(0:Int)) (
 .br (decide (r3.2.2.1<(4294967295:Int))) (
 .ob (Bp (a0.1,u11.1,u11.2.1,()) ((2:Int),())) fun r31=>
 .br r31.1.1 (
 .ob (Cd (u1.1,()) ((Cq [114,101,107,101,121]),())) fun r32=>
 .leaf ((r3.1,r3.2.1,r3.2.2.1,u1.1,r4.1.1,u2.1,u2.2.1,u3.1,u3.2.1,u4.1,u4.2.1,u5.1,u5.2.1,u5.2.2.1,r32.1,()),(a0.1,r31.2.2.1,r31.2.2.2.1,()))) (
 .leaf ((r3.1,r3.2.1,r3.2.2.1,u1.1,r4.1.1,u2.1,u2.2.1,u3.1,u3.2.1,u4.1,u4.2.1,u5.1,u5.2.1,u5.2.2.1,u6.1,()),(a0.1,r31.2.2.1,r31.2.2.2.1,())))) (
 .leaf ((r3.1,r3.2.1,r3.2.2.1,u1.1,r4.1.1,u2.1,u2.2.1,u3.1,u3.2.1,u4.1,u4.2.1,u5.1,u5.2.1,u5.2.2.1,u6.1,()),(a0.1,u11.1,u11.2.1,())))) (
 .leaf ((r3.1,r3.2.1,r3.2.2.1,u1.1,r4.1.1,u2.1,u2.2.1,u3.1,u3.2.1,u4.1,u4.2.1,u5.1,u5.2.1,u5.2.2.1,u6.1,()),(a0.1,u11.1,u11.2.1,())))))
def N9 (a0:Ap) (a1:YI):Option (Bl×Ap):=(T5 a0 a1).val
def Em (x6:Int×Int×Int×Int×(List Aj)×Int×Int×(List YB)×Int×Unit):Option ((Int×Int×Int×Int×(List Aj)×Int×Int×(List YB)×Int×Unit)⊕((Bool×Unit)⊕(Int×Int×Int×(List Aj)×Unit))):=
 letI u1:=x6.2.2;letI u2:=u1.2.2;Tree.val (α:=(Int×Int×Int×Int×(List Aj)×Int×Int×(List YB)×Int×Unit)⊕((Bool×Unit)⊕(Int×Int×Int×(List Aj)×Unit))) <|
 .br (decide (x6.2.1<x6.1)) (
 .ob (idx u2.1 x6.2.1) fun e7=>
 .br (and (e7.1==u2.2.1) (and (e7.2.1==u2.2.2.1) true)) (
 .leaf (.inr (.inl (false,())))) (
 .leaf (.inl (x6.1,(i64.wrap (x6.2.1+(1:Int))),u1.1,u1.2.1,u2.1,u2.2.1,u2.2.2.1,u2.2.2.2.1,u2.2.2.2.2.1,())))) (
 .leaf (.inr (.inr (x6.1,u1.1,u1.2.1,u2.1,()))))
def F2 (x2:Int×Int×Int×(List Aj)×Unit):Option ((Int×Int×Int×(List Aj)×Unit)⊕((Bool×Unit)⊕(Unit))):=
 Tree.val (α:=(Int×Int×Int×(List Aj)×Unit)⊕((Bool×Unit)⊕(Unit))) <|
 .br (decide (x2.1<(x2.2.2.2.1.length:Int))) (
 .ob (idx x2.2.2.2.1 x2.1) fun e3=>
 .ob (Ho (e3.1,e3.2.1,())) fun r4=>
 .br (!r4.1) (
 .leaf (.inr (.inl (false,())))) (
 .br ((e3.2.2.1.length:Int) != (12:Int)) (
 .leaf (.inr (.inl (false,())))) (
 .ob (Bc (e3.2.2.2.1,()) ((0:Int),()) ((1000006:Int),())) fun r5=>
 .br (!r5.1) (
 .leaf (.inr (.inl (false,())))) (
 .br (and (e3.1==x2.2.1) (and (e3.2.1==x2.2.2.1) true)) (
 .leaf (.inr (.inl (false,())))) (
 .ob (As Em (x2.1,(0:Int),x2.2.1,x2.2.2.1,x2.2.2.2.1,e3.1,e3.2.1,e3.2.2.1,e3.2.2.2.1,())) fun o8=>
 .sm o8 (fun o9=>
 .leaf (.inr (.inl o9))) (fun o10=>
 .leaf (.inl ((i64.wrap (o10.1+(1:Int))),o10.2.1,o10.2.2.1,o10.2.2.2.1,())))))))) (
 .leaf (.inr (.inr ())))
def Nv (a0:A4):Tree ((Bool×Unit)):=
 .ob (Ho (a0.1,a0.2.1,())) fun r1=>
 .br (!r1.1) (
 .leaf (false,())) (
 .br (decide ((a0.2.2.1.length:Int)>(3:Int))) (
 .leaf (false,())) (
 .ob (As F2 ((0:Int),a0.1,a0.2.1,a0.2.2.1,())) fun o11=>
 .sm o11 (fun o12=>
 .leaf o12) (fun o13=>
 .leaf (true,()))))
def J5 (a0:A4):Option ((Bool×Unit)):=(Nv a0).val
def T8 (a0:Aj):Tree (Aj):=
 .chk (decide (([]:List YB).length+a0.2.2.1.length≤4294967296)) <|
 .leaf (a0.1,a0.2.1,(([]:List YB)++a0.2.2.1),a0.2.2.2.1,())
def Oa (a0:Aj):Option (Aj):=(T8 a0).val
def F3 (x1:Int×Int×Int×(List Aj)×Int×Int×(List Aj)×Int×Int×(List Aj)×Unit):Option ((Int×Int×Int×(List Aj)×Int×Int×(List Aj)×Int×Int×(List Aj)×Unit)⊕((Int×Int×(List Aj)×Int×Int×(List Aj)×Unit))):=
 letI u1:=x1.2.2.2;letI u2:=u1.2.2;letI u3:=u2.2.2;Tree.val (α:=(Int×Int×Int×(List Aj)×Int×Int×(List Aj)×Int×Int×(List Aj)×Unit)⊕((Int×Int×(List Aj)×Int×Int×(List Aj)×Unit))) <|
 .br (decide (x1.1<(x1.2.2.2.1.length:Int))) (
 .ob (idx u1.1 x1.1) fun e2=>
 .ob (Oa e2) fun r3=>
 .chk (decide (x1.2.2.2.2.2.2.2.2.2.1.length+[r3].length≤4294967296)) <|
 .leaf (.inl ((i64.wrap (x1.1+(1:Int))),x1.2.1,x1.2.2.1,u1.1,u1.2.1,u2.1,u2.2.1,u3.1,u3.2.1,(u3.2.2.1++[r3]),()))) (
 .leaf (.inr (u1.2.1,u2.1,u2.2.1,u3.1,u3.2.1,u3.2.2.1,())))
def T9 (a0:A4):Tree (A4):=
 .ob (As F3 ((0:Int),a0.1,a0.2.1,a0.2.2.1,(0:Int),(0:Int),([]:List Aj),a0.1,a0.2.1,([]:List Aj),())) fun o4=>
 .leaf (o4.2.2.2.1,o4.2.2.2.2.1,o4.2.2.2.2.2.1,())
def Ct (a0:A4):Option (A4):=(T9 a0).val
def Fm (x5:Int×Int×Int×Int×(List Aj)×Int×Int×(List Aj)×Int×Int×(List Aj)×Unit):Option ((Int×Int×Int×Int×(List Aj)×Int×Int×(List Aj)×Int×Int×(List Aj)×Unit)⊕((Int×Int×(List Aj)×Int×Int×(List Aj)×Unit))):=
 letI u1:=x5.2.2;letI u2:=u1.2.2;letI u3:=u2.2.2;letI u4:=u3.2.2;Tree.val (α:=(Int×Int×Int×Int×(List Aj)×Int×Int×(List Aj)×Int×Int×(List Aj)×Unit)⊕((Int×Int×(List Aj)×Int×Int×(List Aj)×Unit))) <|
 .br (decide (x5.2.1<(x5.2.2.2.2.1.length:Int))) (
 .ob (idx u2.1 x5.2.1) fun e6=>
 .br (decide (e6.2.2.2.1≥x5.1)) (
 .ob (idx u2.1 x5.2.1) fun e7=>
 .ob (Oa e7) fun r8=>
 .chk (decide (x5.2.2.2.2.2.2.2.2.2.2.1.length+[r8].length≤4294967296)) <|
 .leaf (.inl (x5.1,(i64.wrap (x5.2.1+(1:Int))),u1.1,u1.2.1,u2.1,u2.2.1,u3.1,u3.2.1,u4.1,u4.2.1,(u4.2.2.1++[r8]),()))) (
 .leaf (.inl (x5.1,(i64.wrap (x5.2.1+(1:Int))),u1.1,u1.2.1,u2.1,u2.2.1,u3.1,u3.2.1,u4.1,u4.2.1,u4.2.2.1,())))) (
 .leaf (.inr (u2.2.1,u3.1,u3.2.1,u4.1,u4.2.1,u4.2.2.1,())))
def Qv (a0:A4) (a1:YI):Tree (A4):=
 .ob (J5 a0) fun r1=>
 .br (!r1.1) (
 .ob (Ct a0) fun r2=>
 .leaf r2) (
 .ob (Bc a1 ((0:Int),()) ((1000000:Int),())) fun r3=>
 .br (!r3.1) (
 .ob (Ct a0) fun r4=>
 .leaf r4) (
 .ob (As Fm (a1.1,(0:Int),a0.1,a0.2.1,a0.2.2.1,(0:Int),(0:Int),([]:List Aj),a0.1,a0.2.1,([]:List Aj),())) fun o9=>
 .leaf (o9.2.2.2.1,o9.2.2.2.2.1,o9.2.2.2.2.2.1,())))
def Rj (a0:A4) (a1:YI):Option (A4):=(Qv a0 a1).val
def H5 (x10:Int×(List YB)×Int×Int×Int×(List Aj)×Int×Int×Int×Int×(List Aj)×Int×Int×(List Aj)×Unit):Option ((Int×(List YB)×Int×Int×Int×(List Aj)×Int×Int×Int×Int×(List Aj)×Int×Int×(List Aj)×Unit)⊕((Bool×Int×Int×(List Aj)×Unit)⊕(Int×(List YB)×Int×Int×(List Aj)×Int×Int×Int×Int×(List Aj)×Int×Int×(List Aj)×Unit))):=
 letI u1:=x10.2.2;letI u2:=u1.2.2;letI u3:=u2.2.2;letI u4:=u3.2.2;letI u5:=u4.2.2;letI u6:=u5.2.2;Tree.val (α:=(Int×(List YB)×Int×Int×Int×(List Aj)×Int×Int×Int×Int×(List Aj)×Int×Int×(List Aj)×Unit)⊕((Bool×Int×Int×(List Aj)×Unit)⊕(Int×(List YB)×Int×Int×(List Aj)×Int×Int×Int×Int×(List Aj)×Int×Int×(List Aj)×Unit))) <|
 .br (decide (u1.1<(x10.2.2.2.2.2.2.2.2.2.2.2.2.2.1.length:Int))) (
 .ob (idx u6.2.1 u1.1) fun e11=>
 .br (and (e11.1==u3.1) (and (e11.2.1==u3.2.1) true)) (
 .ob (Ct (u1.2.1,u2.1,u2.2.1,())) fun r12=>
 .leaf (.inr (.inl (false,r12.1,r12.2.1,r12.2.2.1,())))) (
 .leaf (.inl (x10.1,x10.2.1,(i64.wrap (u1.1+(1:Int))),u1.2.1,u2.1,u2.2.1,u3.1,u3.2.1,u4.1,u4.2.1,u5.1,u5.2.1,u6.1,u6.2.1,())))) (
 .leaf (.inr (.inr (x10.1,x10.2.1,u1.2.1,u2.1,u2.2.1,u3.1,u3.2.1,u4.1,u4.2.1,u5.1,u5.2.1,u6.1,u6.2.1,()))))
def Abk (a0:A4) (a1:YI) (a2:Da) (a3:YBs):Tree (A4×(Bool×Unit)):=
 .ob (J5 a0) fun r1=>
 .br (!r1.1) (
 .ob (Ct a0) fun r2=>
 .leaf (r2,(false,()))) (
 .ob (Bc a1 ((0:Int),()) ((1000000:Int),())) fun r3=>
 .br (!r3.1) (
 .ob (Ct a0) fun r4=>
 .leaf (r4,(false,()))) (
 .ob (Ho a2) fun r5=>
 .br (!r5.1) (
 .ob (Ct a0) fun r6=>
 .leaf (r6,(false,()))) (
 .br ((a3.1.length:Int) != (12:Int)) (
 .ob (Ct a0) fun r7=>
 .leaf (r7,(false,()))) (
 .br (and (a2.1==a0.1) (and (a2.2.1==a0.2.1) true)) (
 .ob (Ct a0) fun r8=>
 .leaf (r8,(false,()))) (
 .ob (Rj a0 a1) fun r9=>
 .ob (As H5 (a1.1,a3.1,(0:Int),a0.1,a0.2.1,a0.2.2.1,a2.1,a2.2.1,(0:Int),(0:Int),([]:List Aj),r9.1,r9.2.1,r9.2.2.1,())) fun o13=>
 .sm o13 (fun o14=>
 .leaf ((o14.2.1,o14.2.2.1,o14.2.2.2.1,()),(o14.1,()))) (fun o15=>letI u1:=o15.2.2;letI u2:=u1.2.2.2;letI u3:=u2.2.2.2.2.2;
 .br ((o15.2.2.2.2.2.2.2.2.2.2.2.2.1.length:Int)==(3:Int)) (
 .ob (Ct (u1.1,u1.2.1,u1.2.2.1,())) fun r16=>
 .leaf (r16,(false,()))) (
 .chk (decide (([]:List YB).length+o15.2.1.length≤4294967296)) <|
 .chk (decide (o15.2.2.2.2.2.2.2.2.2.2.2.2.1.length+[(u2.1,u2.2.1,(([]:List YB)++o15.2.1),(i64.wrap (o15.1+(6:Int))),())].length≤4294967296)) <|
 .leaf ((u3.1,u3.2.1,(u3.2.2.1++[(u2.1,u2.2.1,(([]:List YB)++o15.2.1),(i64.wrap (o15.1+(6:Int))),())]),()),(true,())))))))))
def S3 (a0:A4) (a1:YI) (a2:Da) (a3:YBs):Option (A4×(Bool×Unit)):=(Abk a0 a1 a2 a3).val
def Pa (x6:Int×Int×(List YB)×Int×Int×Int×Int×(List Aj)×Int×Int×(List Aj)×Unit):Option ((Int×Int×(List YB)×Int×Int×Int×Int×(List Aj)×Int×Int×(List Aj)×Unit)⊕(((List YB)×Int×Int×Int×Int×(List Aj)×Int×Int×(List Aj)×Unit))):=
 letI u1:=x6.2.2;letI u2:=u1.2.2;letI u3:=u2.2.2;letI u4:=u3.2.2;Tree.val (α:=(Int×Int×(List YB)×Int×Int×Int×Int×(List Aj)×Int×Int×(List Aj)×Unit)⊕(((List YB)×Int×Int×Int×Int×(List Aj)×Int×Int×(List Aj)×Unit))) <|
 .br (decide (x6.2.1>(0:Int))) (
 .ob (A6 (u1.1,u1.2.1,u2.1,()) ((7:Int),())) fun r7=>
 .ob (Hn r7.1) fun r8=>
 .ob (Ca (u1.1,r7.2.2.1,r7.2.2.2.1,()) ((12:Int),())) fun r9=>
 .ob (S3 (u4.1,u4.2.1,u4.2.2.1,()) (x6.1,()) r8 r9.1) fun r10=>
 .ob (A6 (u1.1,r9.2.2.1,r9.2.2.2.1,()) ((3:Int),())) fun r11=>
 .leaf (.inl ((i64.wrap (x6.1+r11.1.1)),(i64.wrap (x6.2.1-(1:Int))),u1.1,r11.2.2.1,r11.2.2.2.1,u2.2.1,u3.1,u3.2.1,r10.1.1,r10.1.2.1,r10.1.2.2.1,()))) (
 .leaf (.inr (u1.1,u1.2.1,u2.1,u2.2.1,u3.1,u3.2.1,u4.1,u4.2.1,u4.2.2.1,())))
def Ub (a0:Ap):Tree (A4×Ap):=
 .ob (A6 a0 ((5:Int),())) fun r1=>
 .ob (Hn r1.1) fun r2=>
 .ob (Ri r2) fun r3=>
 .ob (A6 (a0.1,r1.2.2.1,r1.2.2.2.1,()) ((6:Int),())) fun r4=>
 .ob (A6 (a0.1,r4.2.2.1,r4.2.2.2.1,()) ((5:Int),())) fun r5=>
 .ob (As Pa (r4.1.1,r5.1.1,a0.1,r5.2.2.1,r5.2.2.2.1,(0:Int),(0:Int),([]:List Aj),r3.1,r3.2.1,r3.2.2.1,())) fun o12=>letI u1:=o12.2.2.2.2.2.2;
 .leaf ((u1.1,u1.2.1,u1.2.2.1,()),(o12.1,o12.2.1,o12.2.2.1,()))
def J6 (a0:Ap):Option (A4×Ap):=(Ub a0).val
def Uc (a0:Ap):Tree (Af×Ap):=
 .ob (Ca a0 ((16:Int),())) fun r1=>
 .ob (A6 (a0.1,r1.2.2.1,r1.2.2.2.1,()) ((2:Int),())) fun r2=>
 .ob (Pe (a0.1,r2.2.2.1,r2.2.2.2.1,())) fun r3=>
 .ob (Rf r1.1 ((i64.wrap ((1:Int)+r2.1.1)),()) r3.1) fun r4=>
 .ob (Ca (a0.1,r3.2.2.1,r3.2.2.2.1,()) ((16:Int),())) fun r5=>
 .ob (Be (a0.1,r5.2.2.1,r5.2.2.2.1,()) ([((0:Int),()),((5:Int),()),((90:Int),())],())) fun r6=>
 .ob (A6 (a0.1,r6.2.2.1,r6.2.2.2.1,()) ((5:Int),())) fun r7=>
 .ob (Hn ((i64.wrap ((1:Int)+r7.1.1)),())) fun r8=>
 .ob (U0 r5.1 r6.1 r8 r4.1) fun r9=>letI u1:=r9.2.2.2;letI u2:=u1.2.2.2;letI u3:=u2.2.2.2;letI u4:=u3.2.2.2;letI u5:=u4.2.2.2;letI u6:=u5.2.2.2;letI u7:=u6.2.2.2;
 .ob (Bp (a0.1,r7.2.2.1,r7.2.2.2.1,()) ((2:Int),())) fun r10=>
 .br r10.1.1 (
 .ob (N9 (a0.1,r10.2.2.1,r10.2.2.2.1,()) ((1:Int),())) fun r11=>letI u8:=r11.1.2.2;letI u9:=u8.2.2;letI u10:=u9.2.2;letI u11:=u10.2.2;letI u12:=u11.2.2;letI u13:=u12.2.2;
 .ob (Bp (a0.1,r11.2.2.1,r11.2.2.2.1,()) ((2:Int),())) fun r12=>
 .br r12.1.1 (
 .ob (J6 (a0.1,r12.2.2.1,r12.2.2.2.1,())) fun r13=>
 .leaf ((r9.1,r9.2.1,r11.1.2.1,r11.1.1,r11.1.2.1,u8.1,u8.2.1,u9.1,u9.2.1,u10.1,u10.2.1,u11.1,u11.2.1,u12.1,u12.2.1,u13.1,u13.2.1,u13.2.2.1,r13.1.1,r13.1.2.1,r13.1.2.2.1,u7.1,u7.2.1,u7.2.2.1,()),(a0.1,r13.2.2.1,r13.2.2.2.1,()))) (
 .leaf ((r9.1,r9.2.1,r11.1.2.1,r11.1.1,r11.1.2.1,u8.1,u8.2.1,u9.1,u9.2.1,u10.1,u10.2.1,u11.1,u11.2.1,u12.1,u12.2.1,u13.1,u13.2.1,u13.2.2.1,u6.1,u6.2.1,u6.2.2.1,u7.1,u7.2.1,u7.2.2.1,()),(a0.1,r12.2.2.1,r12.2.2.2.1,())))) (
 .ob (Bp (a0.1,r10.2.2.1,r10.2.2.2.1,()) ((2:Int),())) fun r14=>
 .br r14.1.1 (
 .ob (J6 (a0.1,r14.2.2.1,r14.2.2.2.1,())) fun r15=>
 .leaf ((r9.1,r9.2.1,r9.2.2.1,u1.1,u1.2.1,u1.2.2.1,u2.1,u2.2.1,u2.2.2.1,u3.1,u3.2.1,u3.2.2.1,u4.1,u4.2.1,u4.2.2.1,u5.1,u5.2.1,u5.2.2.1,r15.1.1,r15.1.2.1,r15.1.2.2.1,u7.1,u7.2.1,u7.2.2.1,()),(a0.1,r15.2.2.1,r15.2.2.2.1,()))) (
 .leaf (r9,(a0.1,r14.2.2.1,r14.2.2.2.1,()))))
def J7 (a0:Ap):Option (Af×Ap):=(Uc a0).val
def Ww (a0:YEp):Tree (YEp):=
 .chk (decide (([]:List YB).length+a0.2.1.length≤4294967296)) <|
 .ob (Xr (a0.2.2.2.1,a0.2.2.2.2.1,())) fun r1=>
 .leaf (a0.1,(([]:List YB)++a0.2.1),a0.2.2.1,r1.1,r1.2.1,())
def P1 (a0:YEp):Option (YEp):=(Ww a0).val
def Abm (a0:YEp) (a1:Bool×Unit):Tree (YEp):=
 .br (!a1.1) (
 .chk (decide (([]:List YB).length+a0.2.1.length≤4294967296)) <|
 .chk (decide (([]:List YI).length+a0.2.2.2.2.1.length≤4294967296)) <|
 .leaf (a0.1,(([]:List YB)++a0.2.1),a0.2.2.1,a0.2.2.2.1,(([]:List YI)++a0.2.2.2.2.1),())) (
 .ob (P1 a0) fun r1=>
 .leaf r1)
def Acd (a0:YEp) (a1:Bool×Unit):Option (YEp):=(Abm a0 a1).val
def Ud (a0:Bl):Tree (Bl):=
 letI u1:=a0.2.2.2;letI u2:=u1.2.2.2;letI u3:=u2.2.2.2;letI u4:=u3.2.2.2;.chk (decide (([]:List YB).length+a0.2.1.length≤4294967296)) <|
 .ob (P1 (a0.2.2.1,u1.1,u1.2.1,u1.2.2.1,u2.1,())) fun r1=>
 .ob (Acd (u2.2.1,u2.2.2.1,u3.1,u3.2.1,u3.2.2.1,()) (u4.1,())) fun r2=>
 .chk (decide (([]:List YB).length+a0.2.2.2.2.2.2.2.2.2.2.2.2.2.2.1.length≤4294967296)) <|
 .leaf (a0.1,(([]:List YB)++a0.2.1),r1.1,r1.2.1,r1.2.2.1,r1.2.2.2.1,r1.2.2.2.2.1,r2.1,r2.2.1,r2.2.2.1,r2.2.2.2.1,r2.2.2.2.2.1,u4.1,u4.2.1,(([]:List YB)++u4.2.2.1),())
def U1 (a0:Bl):Option (Bl):=(Ud a0).val
def Ue (a0:Af):Tree (Af):=
 letI u1:=a0.2.2.2;letI u2:=u1.2.2.2;letI u3:=u2.2.2.2;letI u4:=u3.2.2.2;letI u5:=u4.2.2.2;letI u6:=u5.2.2.2.2;.chk (decide (([]:List YB).length+a0.2.1.length≤4294967296)) <|
 .chk (decide (([]:List YB).length+a0.2.2.1.length≤4294967296)) <|
 .ob (U1 (u1.1,u1.2.1,u1.2.2.1,u2.1,u2.2.1,u2.2.2.1,u3.1,u3.2.1,u3.2.2.1,u4.1,u4.2.1,u4.2.2.1,u5.1,u5.2.1,u5.2.2.1,())) fun r1=>letI u7:=r1.2.2.2;letI u8:=u7.2.2.2;letI u9:=u8.2.2.2.2;
 .ob (Ct (u5.2.2.2.1,u6.1,u6.2.1,())) fun r2=>
 .leaf (a0.1,(([]:List YB)++a0.2.1),(([]:List YB)++a0.2.2.1),r1.1,r1.2.1,r1.2.2.1,u7.1,u7.2.1,u7.2.2.1,u8.1,u8.2.1,u8.2.2.1,u8.2.2.2.1,u9.1,u9.2.1,u9.2.2.1,u9.2.2.2.1,u9.2.2.2.2.1,r2.1,r2.2.1,r2.2.2.1,u6.2.2.1,u6.2.2.2.1,u6.2.2.2.2.1,())
def H7 (a0:Af):Option (Af):=(Ue a0).val
def F4 (x1:Int×Int×(List Af)×Int×(List Af)×Int×(List Af)×Unit):Option ((Int×Int×(List Af)×Int×(List Af)×Int×(List Af)×Unit)⊕((Int×(List Af)×Int×(List Af)×Unit))):=
 letI u1:=x1.2.2;letI u2:=u1.2.2;Tree.val (α:=(Int×Int×(List Af)×Int×(List Af)×Int×(List Af)×Unit)⊕((Int×(List Af)×Int×(List Af)×Unit))) <|
 .br (decide (x1.1<(x1.2.2.1.length:Int))) (
 .ob (idx u1.1 x1.1) fun e2=>
 .ob (H7 e2) fun r3=>
 .chk (decide (x1.2.2.2.2.2.2.1.length+[r3].length≤4294967296)) <|
 .leaf (.inl ((i64.wrap (x1.1+(1:Int))),x1.2.1,u1.1,u1.2.1,u2.1,u2.2.1,(u2.2.2.1++[r3]),()))) (
 .leaf (.inr (u1.2.1,u2.1,u2.2.1,u2.2.2.1,())))
def Ug (a0:A7):Tree (A7):=
 .ob (As F4 ((0:Int),a0.1,a0.2.1,(0:Int),([]:List Af),a0.1,([]:List Af),())) fun o4=>
 .leaf (o4.2.2.1,o4.2.2.2.1,())
def J8 (a0:A7):Option (A7):=(Ug a0).val
def Ls (x1:Int×Int×Int×(List Af)×Unit):Option ((Int×Int×Int×(List Af)×Unit)⊕(YI)):=
 letI u1:=x1.2.2;Tree.val (α:=(Int×Int×Int×(List Af)×Unit)⊕(YI)) <|
 .br (decide (x1.2.1<(x1.2.2.2.1.length:Int))) (
 .ob (idx u1.2.1 x1.2.1) fun e2=>
 .br (!e2.2.2.2.2.2.2.2.2.2.2.2.2.2.2.2.2.2.2.2.2.2.2.2.1) (
 .leaf (.inl ((i64.wrap (x1.1+(1:Int))),(i64.wrap (x1.2.1+(1:Int))),u1.1,u1.2.1,()))) (
 .leaf (.inl (x1.1,(i64.wrap (x1.2.1+(1:Int))),u1.1,u1.2.1,())))) (
 .leaf (.inr (x1.1,())))
def Afi (a0:A7):Tree (YI):=
 .ob (As Ls ((0:Int),(0:Int),a0.1,a0.2.1,())) fun o3=>
 .leaf o3
def Rk (a0:A7):Option (YI):=(Afi a0).val
def Ui (a0:YEp):Tree ((Bool×Unit)):=
 .br (a0.1==(0:Int)) (
 .br ((a0.2.1.length:Int)==(0:Int)) (
 .br (a0.2.2.1==(0:Int)) (
 .br (a0.2.2.2.1==(0:Int)) (
 .leaf (((a0.2.2.2.2.1.length:Int)==(0:Int)),())) (
 .leaf (false,()))) (
 .leaf (false,()))) (
 .leaf (false,()))) (
 .leaf (false,()))
def J9 (a0:YEp):Option ((Bool×Unit)):=(Ui a0).val
def Pb (a0:Bl):Tree ((Bool×Unit)):=
 letI u1:=a0.2.2.2;letI u2:=u1.2.2.2;letI u3:=u2.2.2.2;.br (a0.1==(0:Int)) (
 .br ((a0.2.1.length:Int)==(0:Int)) (
 .ob (J9 (a0.2.2.1,u1.1,u1.2.1,u1.2.2.1,u2.1,())) fun r1=>
 .br r1.1 (
 .ob (J9 (u2.2.1,u2.2.2.1,u3.1,u3.2.1,u3.2.2.1,())) fun r2=>
 .br r2.1 (
 .br (!u3.2.2.2.1) (
 .br (u3.2.2.2.2.1==(0:Int)) (
 .leaf (((a0.2.2.2.2.2.2.2.2.2.2.2.2.2.2.1.length:Int)==(0:Int)),())) (
 .leaf (false,()))) (
 .leaf (false,()))) (
 .leaf (false,()))) (
 .leaf (false,()))) (
 .leaf (false,()))) (
 .leaf (false,()))
def Ph (a0:Bl):Option ((Bool×Unit)):=(Pb a0).val
def Afj (a0:YEp):Tree ((Bool×Unit)):=
 .ob (Bc (a0.1,()) ((0:Int),()) ((4294967295:Int),())) fun r1=>
 .br r1.1 (
 .br ((a0.2.1.length:Int)==(32:Int)) (
 .ob (Bc (a0.2.2.1,()) ((0:Int),()) ((281474976710656:Int),())) fun r2=>
 .br r2.1 (
 .ob (S2 (a0.2.2.2.1,a0.2.2.2.2.1,())) fun r3=>
 .leaf r3) (
 .leaf (false,()))) (
 .leaf (false,()))) (
 .leaf (false,()))
def Rl (a0:YEp):Option ((Bool×Unit)):=(Afj a0).val
def Wx (a0:Bl):Tree ((Bool×Unit)):=
 letI u1:=a0.2.2;letI u2:=u1.2.2;letI u3:=u2.2.2.2;letI u4:=u3.2.2;letI u5:=u4.2.2;.ob (Bc (a0.1,()) ((0:Int),()) ((1:Int),())) fun r1=>
 .br (!r1.1) (
 .leaf (false,())) (
 .br ((a0.2.1.length:Int) != (12:Int)) (
 .leaf (false,())) (
 .ob (Rl (u1.1,u1.2.1,u2.1,u2.2.1,u2.2.2.1,())) fun r2=>
 .br (!r2.1) (
 .leaf (false,())) (
 .br u5.2.1 (
 .br (a0.1==(0:Int)) (
 .ob (Rl (u3.1,u3.2.1,u4.1,u4.2.1,u5.1,())) fun r3=>
 .br (!r3.1) (
 .leaf (false,())) (
 .br (u3.1 != (i64.wrap (u1.1-(1:Int)))) (
 .leaf (false,())) (
 .ob (Bc (u5.2.2.1,()) ((0:Int),()) ((1000005:Int),())) fun r4=>
 .br (!r4.1) (
 .leaf (false,())) (
 .br ((a0.2.2.2.2.2.2.2.2.2.2.2.2.2.2.1.length:Int)==(0:Int)) (
 .leaf (true,())) (
 .br (a0.1==(0:Int)) (
 .br ((a0.2.2.2.2.2.2.2.2.2.2.2.2.2.2.1.length:Int)==(32:Int)) (
 .leaf ((decide (u1.1<(4294967295:Int))),())) (
 .leaf (false,()))) (
 .leaf (false,()))))))) (
 .ob (Rl (u3.1,u3.2.1,u4.1,u4.2.1,u5.1,())) fun r5=>
 .br (!r5.1) (
 .leaf (false,())) (
 .br (u3.1 != (i64.wrap (u1.1-(1:Int)))) (
 .leaf (false,())) (
 .ob (Bc (u5.2.2.1,()) ((-1:Int),()) ((1000005:Int),())) fun r6=>
 .br (!r6.1) (
 .leaf (false,())) (
 .br ((a0.2.2.2.2.2.2.2.2.2.2.2.2.2.2.1.length:Int)==(0:Int)) (
 .leaf (true,())) (
 .br (a0.1==(0:Int)) (
 .br ((a0.2.2.2.2.2.2.2.2.2.2.2.2.2.2.1.length:Int)==(32:Int)) (
 .leaf ((decide (u1.1<(4294967295:Int))),())) (
 .leaf (false,()))) (
 .leaf (false,())))))))) (
 .ob (J9 (u3.1,u3.2.1,u4.1,u4.2.1,u5.1,())) fun r7=>
 .br (!r7.1) (
 .leaf (false,())) (
 .br (u5.2.2.1 != (0:Int)) (
 .leaf (false,())) (
 .br ((a0.2.2.2.2.2.2.2.2.2.2.2.2.2.2.1.length:Int)==(0:Int)) (
 .leaf (true,())) (
 .br (a0.1==(0:Int)) (
 .br ((a0.2.2.2.2.2.2.2.2.2.2.2.2.2.2.1.length:Int)==(32:Int)) (
 .leaf ((decide (u1.1<(4294967295:Int))),())) (
 .leaf (false,()))) (
 .leaf (false,())))))))))
def Xt (a0:Bl):Option ((Bool×Unit)):=(Wx a0).val
def Aha (a0:YBs) (a1:YBs):Tree ((Bool×Unit)):=
 .leaf ((decide ((Kz a0.1)=(Kz a1.1))),())
def Xu (a0:YBs) (a1:YBs):Option ((Bool×Unit)):=(Aha a0 a1).val
def Wz (a0:Af):Tree ((Bool×Unit)):=
 letI u1:=a0.2.2.2;letI u2:=u1.2.2;letI u3:=u2.2.2;letI u4:=u3.2.2;letI u5:=u4.2.2;letI u6:=u5.2.2;letI u7:=u6.2.2;letI u8:=u7.2.2.2;letI u9:=u8.2.2.2;.ob (Bc (a0.1,()) ((1:Int),()) ((9:Int),())) fun r1=>
 .br (!r1.1) (
 .leaf (false,())) (
 .br ((a0.2.1.length:Int) != (12:Int)) (
 .leaf (false,())) (
 .br ((a0.2.2.1.length:Int) != (12:Int)) (
 .leaf (false,())) (
 .ob (Bc (u9.1,()) ((0:Int),()) ((1000000:Int),())) fun r2=>
 .br (!r2.1) (
 .leaf (false,())) (
 .ob (Bc (u9.2.1,()) ((0:Int),()) ((1000000:Int),())) fun r3=>
 .br (!r3.1) (
 .leaf (false,())) (
 .br u9.2.2.1 (
 .ob (Ph (u1.1,u1.2.1,u2.1,u2.2.1,u3.1,u3.2.1,u4.1,u4.2.1,u5.1,u5.2.1,u6.1,u6.2.1,u7.1,u7.2.1,u7.2.2.1,())) fun r4=>
 .br r4.1 (
 .ob (Hn ((-1:Int),())) fun r5=>
 .br (and (u8.1==r5.1) (and (u8.2.1==r5.2.1) true)) (
 .br ((a0.2.2.2.2.2.2.2.2.2.2.2.2.2.2.2.2.2.2.2.2.1.length:Int)==(0:Int)) (
 .leaf ((u9.2.1==(0:Int)),())) (
 .leaf (false,()))) (
 .leaf (false,()))) (
 .leaf (false,()))) (
 .ob (Xt (u1.1,u1.2.1,u2.1,u2.2.1,u3.1,u3.2.1,u4.1,u4.2.1,u5.1,u5.2.1,u6.1,u6.2.1,u7.1,u7.2.1,u7.2.2.1,())) fun r6=>
 .br r6.1 (
 .br (u1.1==(1:Int)) (
 .ob (Xu (u1.2.1,()) (a0.2.2.1,())) fun r7=>
 .br r7.1 (
 .ob (J5 (u8.1,u8.2.1,u8.2.2.1,())) fun r8=>
 .leaf r8) (
 .leaf (false,()))) (
 .leaf (false,()))) (
 .leaf (false,()))))))))
def L6 (a0:Af):Option ((Bool×Unit)):=(Wz a0).val
def Im (x1:(List YB)×Int×Int×(List Af)×Unit):Option (((List YB)×Int×Int×(List Af)×Unit)⊕(YI⊕(Unit))):=
 Tree.val (α:=((List YB)×Int×Int×(List Af)×Unit)⊕(YI⊕(Unit))) <|
 .br (decide (x1.2.1<(x1.2.2.2.1.length:Int))) (
 .ob (idx x1.2.2.2.1 x1.2.1) fun e2=>
 .ob (Xu (e2.2.2.1,()) (x1.1,())) fun r3=>
 .br r3.1 (
 .leaf (.inr (.inl (x1.2.1,())))) (
 .leaf (.inl (x1.1,(i64.wrap (x1.2.1+(1:Int))),x1.2.2.1,x1.2.2.2.1,())))) (
 .leaf (.inr (.inr ())))
def W1 (a0:A7) (a1:YBs):Tree (YI):=
 .ob (As Im (a1.1,(0:Int),a0.1,a0.2.1,())) fun o4=>
 .sm o4 (fun o5=>
 .leaf o5) (fun o6=>
 .leaf ((-1:Int),()))
def P2 (a0:A7) (a1:YBs):Option (YI):=(W1 a0 a1).val
def J1 (x3:Int×Int×(List Af)×Unit):Option ((Int×Int×(List Af)×Unit)⊕((Bool×Unit)⊕(Unit))):=
 Tree.val (α:=(Int×Int×(List Af)×Unit)⊕((Bool×Unit)⊕(Unit))) <|
 .br (decide (x3.1<(x3.2.2.1.length:Int))) (
 .ob (idx x3.2.2.1 x3.1) fun e4=>
 .ob (L6 e4) fun r5=>
 .br (!r5.1) (
 .leaf (.inr (.inl (false,())))) (
 .ob (idx x3.2.2.1 x3.1) fun e6=>
 .ob (P2 (x3.2.1,x3.2.2.1,()) (e6.2.2.1,())) fun r7=>
 .br (r7.1 != x3.1) (
 .leaf (.inr (.inl (false,())))) (
 .leaf (.inl ((i64.wrap (x3.1+(1:Int))),x3.2.1,x3.2.2.1,()))))) (
 .leaf (.inr (.inr ())))
def Abp (a0:A7):Tree ((Bool×Unit)):=
 .ob (Bc (a0.1,()) ((1:Int),()) ((6:Int),())) fun r1=>
 .br (!r1.1) (
 .leaf (false,())) (
 .br (decide ((a0.2.1.length:Int)>(12:Int))) (
 .leaf (false,())) (
 .ob (Rk a0) fun r2=>
 .br (decide (r2.1>a0.1)) (
 .leaf (false,())) (
 .ob (As J1 ((0:Int),a0.1,a0.2.1,())) fun o8=>
 .sm o8 (fun o9=>
 .leaf o9) (fun o10=>
 .leaf (true,())))))
def La (a0:A7):Option ((Bool×Unit)):=(Abp a0).val
def Ul (a0:A7) (a1:Af):Tree (A7×YI):=
 .ob (J8 a0) fun r1=>
 .ob (La a0) fun r2=>
 .br (!r2.1) (
 .leaf (r1,((1:Int),()))) (
 .ob (L6 a1) fun r3=>
 .br (!r3.1) (
 .leaf (r1,((1:Int),()))) (
 .br a1.2.2.2.2.2.2.2.2.2.2.2.2.2.2.2.2.2.2.2.2.2.2.2.1 (
 .leaf (r1,((1:Int),()))) (
 .ob (P2 a0 (a1.2.2.1,())) fun r4=>
 .br (decide (r4.1≥(0:Int))) (
 .leaf (r1,((3:Int),()))) (
 .ob (Rk a0) fun r5=>
 .br (r5.1==a0.1) (
 .leaf (r1,((7:Int),()))) (
 .br ((a0.2.1.length:Int)==(12:Int)) (
 .leaf (r1,((7:Int),()))) (
 .ob (H7 a1) fun r6=>
 .chk (decide (r1.2.1.length+[r6].length≤4294967296)) <|
 .leaf ((r1.1,(r1.2.1++[r6]),()),((0:Int),()))))))))
def Ka (a0:A7) (a1:Af):Option (A7×YI):=(Ul a0 a1).val
def Afk (a0:Af):Tree (Af):=
 .ob (L6 a0) fun r1=>
 .br (!r1.1) (
 .ob (H7 a0) fun r2=>
 .leaf r2) (
 .chk (decide (([]:List YB).length+a0.2.1.length≤4294967296)) <|
 .chk (decide (([]:List YB).length+a0.2.2.1.length≤4294967296)) <|
 .leaf (a0.1,(([]:List YB)++a0.2.1),(([]:List YB)++a0.2.2.1),(0:Int),([]:List YB),(0:Int),([]:List YB),(0:Int),(0:Int),([]:List YI),(0:Int),([]:List YB),(0:Int),(0:Int),([]:List YI),false,(0:Int),([]:List YB),(0:Int),(0:Int),([]:List Aj),a0.2.2.2.2.2.2.2.2.2.2.2.2.2.2.2.2.2.2.2.2.2.1,(0:Int),true,()))
def K0 (a0:Af):Option (Af):=(Afk a0).val
def Km (x4:Int×(List YB)×Int×Int×Int×(List Af)×Int×(List Af)×Unit):Option ((Int×(List YB)×Int×Int×Int×(List Af)×Int×(List Af)×Unit)⊕(((List YB)×Int×Int×Int×(List Af)×Int×(List Af)×Unit))):=
 letI u1:=x4.2.2.2;letI u2:=u1.2.2;Tree.val (α:=(Int×(List YB)×Int×Int×Int×(List Af)×Int×(List Af)×Unit)⊕(((List YB)×Int×Int×Int×(List Af)×Int×(List Af)×Unit))) <|
 .br (decide (x4.1>(0:Int))) (
 .ob (J7 (x4.2.1,x4.2.2.1,u1.1,())) fun r5=>
 .ob (Ka (u2.2.1,u2.2.2.1,()) r5.1) fun r6=>
 .br (decide ((r6.1.2.1.length:Int)>(0:Int))) (
 .ob (Bp (x4.2.1,r5.2.2.1,r5.2.2.2.1,()) ((3:Int),())) fun r7=>
 .br r7.1.1 (
 .ob (A6 (x4.2.1,r7.2.2.1,r7.2.2.2.1,()) ((r6.1.2.1.length:Int),())) fun r8=>
 .ob (idx r6.1.2.1 r8.1.1) fun e9=>
 .ob (K0 e9) fun r10=>
 .ob (idx r6.1.2.1 r8.1.1) fun e11=>
 let q12:=(r6.1.2.1.set (r8.1.1).toNat r10)
 .leaf (.inl ((i64.wrap (x4.1-(1:Int))),x4.2.1,r8.2.2.1,r8.2.2.2.1,u1.2.1,u2.1,r6.1.1,q12,()))) (
 .leaf (.inl ((i64.wrap (x4.1-(1:Int))),x4.2.1,r7.2.2.1,r7.2.2.2.1,u1.2.1,u2.1,r6.1.1,r6.1.2.1,())))) (
 .leaf (.inl ((i64.wrap (x4.1-(1:Int))),x4.2.1,r5.2.2.1,r5.2.2.2.1,u1.2.1,u2.1,r6.1.1,r6.1.2.1,())))) (
 .leaf (.inr (x4.2.1,x4.2.2.1,u1.1,u1.2.1,u2.1,u2.2.1,u2.2.2.1,())))
def Um (a0:Ap):Tree (A7×Ap):=
 .ob (A6 a0 ((6:Int),())) fun r1=>
 .ob (Py ((i64.wrap ((1:Int)+r1.1.1)),())) fun r2=>
 .ob (A6 (a0.1,r1.2.2.1,r1.2.2.2.1,()) ((6:Int),())) fun r3=>
 .ob (As Km (r3.1.1,a0.1,r3.2.2.1,r3.2.2.2.1,(0:Int),([]:List Af),r2.1,r2.2.1,())) fun o13=>
 .leaf ((o13.2.2.2.2.2.1,o13.2.2.2.2.2.2.1,()),(o13.1,o13.2.1,o13.2.2.1,()))
def U2 (a0:Ap):Option (A7×Ap):=(Um a0).val
def Afl (a0:Ap):Tree (YEp×Ap):=
 .ob (Be a0 ([((0:Int),()),((0:Int),()),((1:Int),()),((2:Int),()),((4294967295:Int),())],())) fun r1=>
 .ob (Ca (a0.1,r1.2.2.1,r1.2.2.2.1,()) ((32:Int),())) fun r2=>
 .ob (Is r1.1 r2.1) fun r3=>
 .ob (Be (a0.1,r2.2.2.1,r2.2.2.2.1,()) ([((0:Int),()),((0:Int),()),((1:Int),()),((5:Int),()),((281474976709655:Int),()),((281474976709656:Int),()),((281474976710655:Int),()),((281474976710656:Int),())],())) fun r4=>
 .ob (Bp (a0.1,r4.2.2.1,r4.2.2.2.1,()) ((3:Int),())) fun r5=>
 .br r5.1.1 (
 .ob (L5 (a0.1,r5.2.2.1,r5.2.2.2.1,())) fun r6=>
 .leaf ((r3.1,r3.2.1,r4.1.1,r6.1.1,r6.1.2.1,()),(a0.1,r6.2.2.1,r6.2.2.2.1,()))) (
 .leaf ((r3.1,r3.2.1,r4.1.1,r3.2.2.2.1,r3.2.2.2.2.1,()),(a0.1,r5.2.2.1,r5.2.2.2.1,())))
def Afu (a0:Ap):Option (YEp×Ap):=(Afl a0).val
def Abr (a0:Ap):Tree (Bs×Ap):=
 .ob (L5 a0) fun r1=>
 .ob (A6 (a0.1,r1.2.2.1,r1.2.2.2.1,()) ((12:Int),())) fun r2=>letI u1:=r2.2.2;
 .br (r2.1.1==(0:Int)) (
 .ob (Be (a0.1,u1.1,u1.2.1,()) ([((-2:Int),()),((-1:Int),()),((0:Int),()),((700:Int),()),((281474976710656:Int),())],())) fun r3=>
 .leaf ((r3.1.1,r1.1.2.1,()),(a0.1,r3.2.2.1,r3.2.2.2.1,()))) (
 .br (r2.1.1==(1:Int)) (
 .ob (A6 (a0.1,u1.1,u1.2.1,()) ((32:Int),())) fun r4=>
 .ob (Be (a0.1,r4.2.2.1,r4.2.2.2.1,()) ([((-1:Int),()),((0:Int),()),((1:Int),()),((4294967295:Int),()),((4294967296:Int),())],())) fun r5=>
 .ob (idx r1.1.2.1 r4.1.1) fun e6=>
 let q7:=(r1.1.2.1.set (r4.1.1).toNat r5.1)
 .leaf ((r1.1.1,q7,()),(a0.1,r5.2.2.1,r5.2.2.2.1,()))) (
 .br (r2.1.1==(2:Int)) (
 .ob (A6 (a0.1,u1.1,u1.2.1,()) ((32:Int),())) fun r8=>
 .chk (decide ((0:Int)≤r8.1.1)) <|
 .chk (decide (r8.1.1≤(r1.1.2.1.length:Int))) <|
 .leaf ((r1.1.1,((r1.1.2.1.take (r8.1.1).toNat).drop ((0:Int)).toNat),()),(a0.1,r8.2.2.1,r8.2.2.2.1,()))) (
 .leaf (r1.1,(a0.1,u1.1,u1.2.1,())))))
def Ace (a0:Ap):Option (Bs×Ap):=(Abr a0).val
def Abs (a0:Ap):Tree (YEp×Ap):=
 .ob (Afu a0) fun r1=>letI u1:=r1.1.2.2;
 .ob (A6 (a0.1,r1.2.2.1,r1.2.2.2.1,()) ((14:Int),())) fun r2=>letI u2:=r2.2.2;
 .br (r2.1.1==(0:Int)) (
 .ob (Be (a0.1,u2.1,u2.2.1,()) ([((-1:Int),()),((4294967296:Int),())],())) fun r3=>
 .leaf ((r3.1.1,r1.1.2.1,u1.1,u1.2.1,u1.2.2.1,()),(a0.1,r3.2.2.1,r3.2.2.2.1,()))) (
 .br (r2.1.1==(1:Int)) (
 .ob (Be (a0.1,u2.1,u2.2.1,()) ([((0:Int),()),((31:Int),()),((33:Int),())],())) fun r4=>
 .ob (Ca (a0.1,r4.2.2.1,r4.2.2.2.1,()) r4.1) fun r5=>
 .leaf ((r1.1.1,r5.1.1,u1.1,u1.2.1,u1.2.2.1,()),(a0.1,r5.2.2.1,r5.2.2.2.1,()))) (
 .br (r2.1.1==(2:Int)) (
 .ob (Be (a0.1,u2.1,u2.2.1,()) ([((-1:Int),()),((281474976710657:Int),())],())) fun r6=>
 .leaf ((r1.1.1,r1.1.2.1,r6.1.1,u1.2.1,u1.2.2.1,()),(a0.1,r6.2.2.1,r6.2.2.2.1,()))) (
 .br (r2.1.1==(3:Int)) (
 .ob (Ace (a0.1,u2.1,u2.2.1,())) fun r7=>
 .leaf ((r1.1.1,r1.1.2.1,u1.1,r7.1.1,r7.1.2.1,()),(a0.1,r7.2.2.1,r7.2.2.2.1,()))) (
 .leaf (r1.1,(a0.1,u2.1,u2.2.1,()))))))
def S4 (a0:Ap):Option (YEp×Ap):=(Abs a0).val
def W3 (a0:Ap):Tree (Bl×Ap):=
 .ob (A6 a0 ((2:Int),())) fun r1=>
 .ob (N9 (a0.1,r1.2.2.1,r1.2.2.2.1,()) r1.1) fun r2=>letI u1:=r2.1.2.2;letI u2:=u1.2.2;letI u3:=u2.2.2;letI u4:=u3.2.2;letI u5:=u4.2.2;letI u6:=u5.2.2;letI u7:=u6.2.2;
 .ob (A6 (a0.1,r2.2.2.1,r2.2.2.2.1,()) ((20:Int),())) fun r3=>letI u8:=r3.2.2;
 .br (r3.1.1==(0:Int)) (
 .ob (Be (a0.1,u8.1,u8.2.1,()) ([((-1:Int),()),((0:Int),()),((1:Int),()),((2:Int),())],())) fun r4=>
 .leaf ((r4.1.1,r2.1.2.1,u1.1,u1.2.1,u2.1,u2.2.1,u3.1,u3.2.1,u4.1,u4.2.1,u5.1,u5.2.1,u6.1,u6.2.1,u7.1,()),(a0.1,r4.2.2.1,r4.2.2.2.1,()))) (
 .br (r3.1.1==(1:Int)) (
 .ob (Ca (a0.1,u8.1,u8.2.1,()) ((11:Int),())) fun r5=>
 .leaf ((r2.1.1,r5.1.1,u1.1,u1.2.1,u2.1,u2.2.1,u3.1,u3.2.1,u4.1,u4.2.1,u5.1,u5.2.1,u6.1,u6.2.1,u7.1,()),(a0.1,r5.2.2.1,r5.2.2.2.1,()))) (
 .br (r3.1.1==(2:Int)) (
 .ob (S4 (a0.1,u8.1,u8.2.1,())) fun r6=>
 .leaf ((r2.1.1,r2.1.2.1,r6.1.1,r6.1.2.1,r6.1.2.2.1,r6.1.2.2.2.1,r6.1.2.2.2.2.1,u3.2.1,u4.1,u4.2.1,u5.1,u5.2.1,u6.1,u6.2.1,u7.1,()),(a0.1,r6.2.2.1,r6.2.2.2.1,()))) (
 .br (r3.1.1==(3:Int)) (
 .ob (S4 (a0.1,u8.1,u8.2.1,())) fun r7=>
 .leaf ((r2.1.1,r2.1.2.1,u1.1,u1.2.1,u2.1,u2.2.1,u3.1,r7.1.1,r7.1.2.1,r7.1.2.2.1,r7.1.2.2.2.1,r7.1.2.2.2.2.1,u6.1,u6.2.1,u7.1,()),(a0.1,r7.2.2.1,r7.2.2.2.1,()))) (
 .br (r3.1.1==(4:Int)) (
 .leaf ((r2.1.1,r2.1.2.1,u1.1,u1.2.1,u2.1,u2.2.1,u3.1,u3.2.1,u4.1,u4.2.1,u5.1,u5.2.1,(!u6.1),u6.2.1,u7.1,()),(a0.1,u8.1,u8.2.1,()))) (
 .br (r3.1.1==(5:Int)) (
 .ob (Be (a0.1,u8.1,u8.2.1,()) ([((-2:Int),()),((-1:Int),()),((1:Int),()),((1000006:Int),())],())) fun r8=>
 .leaf ((r2.1.1,r2.1.2.1,u1.1,u1.2.1,u2.1,u2.2.1,u3.1,u3.2.1,u4.1,u4.2.1,u5.1,u5.2.1,u6.1,r8.1.1,u7.1,()),(a0.1,r8.2.2.1,r8.2.2.2.1,()))) (
 .br (r3.1.1==(6:Int)) (
 .ob (Be (a0.1,u8.1,u8.2.1,()) ([((0:Int),()),((31:Int),()),((32:Int),())],())) fun r9=>
 .ob (Ca (a0.1,r9.2.2.1,r9.2.2.2.1,()) r9.1) fun r10=>
 .leaf ((r2.1.1,r2.1.2.1,u1.1,u1.2.1,u2.1,u2.2.1,u3.1,u3.2.1,u4.1,u4.2.1,u5.1,u5.2.1,u6.1,u6.2.1,r10.1.1,()),(a0.1,r10.2.2.1,r10.2.2.2.1,()))) (
 .leaf (r2.1,(a0.1,u8.1,u8.2.1,())))))))))
def Xv (a0:Ap):Option (Bl×Ap):=(W3 a0).val
def W4 (a0:Ap):Tree (Da×Ap):=
 .ob (Bp a0 ((3:Int),())) fun r1=>
 .br r1.1.1 (
 .ob (A6 (a0.1,r1.2.2.1,r1.2.2.2.1,()) ((16777216:Int),())) fun r2=>
 .ob (Gf (a0.1,r2.2.2.1,r2.2.2.2.1,())) fun r3=>
 .ob (A6 (a0.1,r3.2.2.1,r3.2.2.2.1,()) ((65536:Int),())) fun r4=>
 .leaf (((i64.wrap ((i64.wrap (r2.1.1*(256:Int)))+r3.1.1)),r4.1.1,()),(a0.1,r4.2.2.1,r4.2.2.2.1,()))) (
 .ob (A6 (a0.1,r1.2.2.1,r1.2.2.2.1,()) ((6:Int),())) fun r5=>
 .ob (Hn r5.1) fun r6=>
 .leaf (r6,(a0.1,r5.2.2.1,r5.2.2.2.1,())))
def Xw (a0:Ap):Option (Da×Ap):=(W4 a0).val
def Abt (a0:Ap):Tree (YI×Ap):=
 .ob (Be a0 ([((-1:Int),()),((0:Int),()),((1:Int),()),((2:Int),()),((255:Int),()),((256:Int),()),((65535:Int),()),((2147483647:Int),()),((2147483648:Int),()),((4294967295:Int),()),((4294967296:Int),()),((-2147483648:Int),()),((9223372036854775807:Int),()),((-9223372036854775808:Int),())],())) fun r1=>
 .leaf (r1.1,(a0.1,r1.2.2.1,r1.2.2.2.1,()))
def Acf (a0:Ap):Option (YI×Ap):=(Abt a0).val
def Abu (a0:Ap):Tree (Da×Ap):=
 .ob (Xw a0) fun r1=>
 .ob (A6 (a0.1,r1.2.2.1,r1.2.2.2.1,()) ((10:Int),())) fun r2=>letI u1:=r2.2.2;
 .br (r2.1.1==(0:Int)) (
 .ob (Acf (a0.1,u1.1,u1.2.1,())) fun r3=>
 .leaf ((r3.1.1,r1.1.2.1,()),(a0.1,r3.2.2.1,r3.2.2.2.1,()))) (
 .br (r2.1.1==(1:Int)) (
 .ob (Be (a0.1,u1.1,u1.2.1,()) ([((-1:Int),()),((65535:Int),()),((65536:Int),()),((0:Int),())],())) fun r4=>
 .leaf ((r1.1.1,r4.1.1,()),(a0.1,r4.2.2.1,r4.2.2.2.1,()))) (
 .leaf (r1.1,(a0.1,u1.1,u1.2.1,()))))
def S5 (a0:Ap):Option (Da×Ap):=(Abu a0).val
def W5 (a0:Ap):Tree (A4×Ap):=
 .ob (J6 a0) fun r1=>letI u1:=r1.1.2.2;
 .br ((r1.1.2.2.1.length:Int)==(0:Int)) (
 .leaf (r1.1,(a0.1,r1.2.2.1,r1.2.2.2.1,()))) (
 .ob (Bp (a0.1,r1.2.2.1,r1.2.2.2.1,()) ((2:Int),())) fun r2=>
 .br r2.1.1 (
 .leaf (r1.1,(a0.1,r2.2.2.1,r2.2.2.2.1,()))) (
 .ob (A6 (a0.1,r2.2.2.1,r2.2.2.2.1,()) ((r1.1.2.2.1.length:Int),())) fun r3=>
 .ob (A6 (a0.1,r3.2.2.1,r3.2.2.2.1,()) ((6:Int),())) fun r4=>letI u2:=r4.2.2;
 .br (r4.1.1==(0:Int)) (
 .ob (S5 (a0.1,u2.1,u2.2.1,())) fun r5=>
 .leaf ((r5.1.1,r5.1.2.1,u1.1,()),(a0.1,r5.2.2.1,r5.2.2.2.1,()))) (
 .br (r4.1.1==(1:Int)) (
 .ob (S5 (a0.1,u2.1,u2.2.1,())) fun r6=>
 .ob (idx u1.1 r3.1.1) fun e7=>
 let q8:=(r1.1.2.2.1.set (r3.1.1).toNat (r6.1.1,r6.1.2.1,e7.2.2.1,e7.2.2.2.1,()))
 .leaf ((r1.1.1,r1.1.2.1,q8,()),(a0.1,r6.2.2.1,r6.2.2.2.1,()))) (
 .br (r4.1.1==(2:Int)) (
 .ob (Ca (a0.1,u2.1,u2.2.1,()) ((11:Int),())) fun r9=>
 .ob (idx u1.1 r3.1.1) fun e10=>
 let q11:=(r1.1.2.2.1.set (r3.1.1).toNat (e10.1,e10.2.1,r9.1.1,e10.2.2.2.1,()))
 .leaf ((r1.1.1,r1.1.2.1,q11,()),(a0.1,r9.2.2.1,r9.2.2.2.1,()))) (
 .br (r4.1.1==(3:Int)) (
 .ob (Be (a0.1,u2.1,u2.2.1,()) ([((-1:Int),()),((1000006:Int),()),((1000007:Int),())],())) fun r12=>
 .ob (idx u1.1 r3.1.1) fun e13=>
 let q14:=(r1.1.2.2.1.set (r3.1.1).toNat (e13.1,e13.2.1,e13.2.2.1,r12.1.1,()))
 .leaf ((r1.1.1,r1.1.2.1,q14,()),(a0.1,r12.2.2.1,r12.2.2.2.1,()))) (
 .br (r4.1.1==(4:Int)) (
 .ob (idx u1.1 r3.1.1) fun e15=>
 .leaf ((e15.1,e15.2.1,u1.1,()),(a0.1,u2.1,u2.2.1,()))) (
 .leaf (r1.1,(a0.1,u2.1,u2.2.1,())))))))))
def Xx (a0:Ap):Option (A4×Ap):=(W5 a0).val
def W6 (a0:Ap):Tree (Af×Ap):=
 .ob (J7 a0) fun r1=>letI u1:=r1.1.2.2;letI u2:=u1.2.2;letI u3:=u2.2.2;letI u4:=u3.2.2;letI u5:=u4.2.2;letI u6:=u5.2.2;letI u7:=u6.2.2;letI u8:=u7.2.2;letI u9:=u8.2.2;letI u10:=u9.2.2;letI u11:=u10.2.2;
 .ob (A6 (a0.1,r1.2.2.1,r1.2.2.2.1,()) ((22:Int),())) fun r2=>letI u12:=r2.2.2;
 .br (r2.1.1==(0:Int)) (
 .ob (Be (a0.1,u12.1,u12.2.1,()) ([((0:Int),()),((10:Int),())],())) fun r3=>
 .leaf ((r3.1.1,r1.1.2.1,u1.1,u1.2.1,u2.1,u2.2.1,u3.1,u3.2.1,u4.1,u4.2.1,u5.1,u5.2.1,u6.1,u6.2.1,u7.1,u7.2.1,u8.1,u8.2.1,u9.1,u9.2.1,u10.1,u10.2.1,u11.1,u11.2.1,()),(a0.1,r3.2.2.1,r3.2.2.2.1,()))) (
 .br (r2.1.1==(1:Int)) (
 .ob (Ca (a0.1,u12.1,u12.2.1,()) ((11:Int),())) fun r4=>
 .leaf ((r1.1.1,r4.1.1,u1.1,u1.2.1,u2.1,u2.2.1,u3.1,u3.2.1,u4.1,u4.2.1,u5.1,u5.2.1,u6.1,u6.2.1,u7.1,u7.2.1,u8.1,u8.2.1,u9.1,u9.2.1,u10.1,u10.2.1,u11.1,u11.2.1,()),(a0.1,r4.2.2.1,r4.2.2.2.1,()))) (
 .br (r2.1.1==(2:Int)) (
 .ob (Be (a0.1,u12.1,u12.2.1,()) ([((11:Int),()),((12:Int),())],())) fun r5=>
 .ob (Ca (a0.1,r5.2.2.1,r5.2.2.2.1,()) r5.1) fun r6=>
 .leaf ((r1.1.1,r1.1.2.1,r6.1.1,u1.2.1,u2.1,u2.2.1,u3.1,u3.2.1,u4.1,u4.2.1,u5.1,u5.2.1,u6.1,u6.2.1,u7.1,u7.2.1,u8.1,u8.2.1,u9.1,u9.2.1,u10.1,u10.2.1,u11.1,u11.2.1,()),(a0.1,r6.2.2.1,r6.2.2.2.1,()))) (
 .br (r2.1.1==(3:Int)) (
 .ob (Xv (a0.1,u12.1,u12.2.1,())) fun r7=>letI u13:=r7.1.2.2.2;letI u14:=u13.2.2.2;letI u15:=u14.2.2.2.2;
 .leaf ((r1.1.1,r1.1.2.1,u1.1,r7.1.1,r7.1.2.1,r7.1.2.2.1,u13.1,u13.2.1,u13.2.2.1,u14.1,u14.2.1,u14.2.2.1,u14.2.2.2.1,u15.1,u15.2.1,u15.2.2.1,u15.2.2.2.1,u15.2.2.2.2.1,u9.1,u9.2.1,u10.1,u10.2.1,u11.1,u11.2.1,()),(a0.1,r7.2.2.1,r7.2.2.2.1,()))) (
 .br (r2.1.1==(4:Int)) (
 .ob (Xx (a0.1,u12.1,u12.2.1,())) fun r8=>
 .leaf ((r1.1.1,r1.1.2.1,u1.1,u1.2.1,u2.1,u2.2.1,u3.1,u3.2.1,u4.1,u4.2.1,u5.1,u5.2.1,u6.1,u6.2.1,u7.1,u7.2.1,u8.1,u8.2.1,r8.1.1,r8.1.2.1,r8.1.2.2.1,u10.2.1,u11.1,u11.2.1,()),(a0.1,r8.2.2.1,r8.2.2.2.1,()))) (
 .br (r2.1.1==(5:Int)) (
 .ob (Be (a0.1,u12.1,u12.2.1,()) ([((-1:Int),()),((1000001:Int),())],())) fun r9=>
 .leaf ((r1.1.1,r1.1.2.1,u1.1,u1.2.1,u2.1,u2.2.1,u3.1,u3.2.1,u4.1,u4.2.1,u5.1,u5.2.1,u6.1,u6.2.1,u7.1,u7.2.1,u8.1,u8.2.1,u9.1,u9.2.1,u10.1,r9.1.1,u11.1,u11.2.1,()),(a0.1,r9.2.2.1,r9.2.2.2.1,()))) (
 .br (r2.1.1==(6:Int)) (
 .ob (Be (a0.1,u12.1,u12.2.1,()) ([((-1:Int),()),((1000001:Int),())],())) fun r10=>
 .leaf ((r1.1.1,r1.1.2.1,u1.1,u1.2.1,u2.1,u2.2.1,u3.1,u3.2.1,u4.1,u4.2.1,u5.1,u5.2.1,u6.1,u6.2.1,u7.1,u7.2.1,u8.1,u8.2.1,u9.1,u9.2.1,u10.1,u10.2.1,r10.1.1,u11.2.1,()),(a0.1,r10.2.2.1,r10.2.2.2.1,()))) (
 .br (r2.1.1==(7:Int)) (
 .leaf ((r1.1.1,r1.1.2.1,u1.1,u1.2.1,u2.1,u2.2.1,u3.1,u3.2.1,u4.1,u4.2.1,u5.1,u5.2.1,u6.1,u6.2.1,u7.1,u7.2.1,u8.1,u8.2.1,u9.1,u9.2.1,u10.1,u10.2.1,u11.1,true,()),(a0.1,u12.1,u12.2.1,()))) (
 .br (r2.1.1==(8:Int)) (
 .ob (K0 r1.1) fun r11=>
 .leaf (r11,(a0.1,u12.1,u12.2.1,()))) (
 .br (r2.1.1==(9:Int)) (
 .ob (K0 r1.1) fun r12=>
 .leaf (r12,(a0.1,u12.1,u12.2.1,()))) (
 .leaf (r1.1,(a0.1,u12.1,u12.2.1,()))))))))))))
def L7 (a0:Ap):Option (Af×Ap):=(W6 a0).val
def Kn (x15:Int×(List YB)×Int×Int×Int×(List Af)×Int×(List Af)×Int×(List YB)×(List YB)×Int×(List YB)×Int×(List YB)×Int×Int×(List YI)×Int×(List YB)×Int×Int×(List YI)×Bool×Int×(List YB)×Int×Int×(List Aj)×Int×Int×Bool×Unit):Option ((Int×(List YB)×Int×Int×Int×(List Af)×Int×(List Af)×Int×(List YB)×(List YB)×Int×(List YB)×Int×(List YB)×Int×Int×(List YI)×Int×(List YB)×Int×Int×(List YI)×Bool×Int×(List YB)×Int×Int×(List Aj)×Int×Int×Bool×Unit)⊕(((List YB)×Int×Int×Int×(List Af)×Int×(List Af)×Unit))):=
 letI u1:=x15.2.2;letI u2:=u1.2.2;letI u3:=u2.2.2;letI u4:=u3.2.2;letI u5:=u4.2.2.2;letI u6:=u5.2.2;letI u7:=u6.2.2;letI u8:=u7.2.2;letI u9:=u8.2.2;letI u10:=u9.2.2;letI u11:=u10.2.2;letI u12:=u11.2.2;letI u13:=u12.2.2;letI u14:=u13.2.2;Tree.val (α:=(Int×(List YB)×Int×Int×Int×(List Af)×Int×(List Af)×Int×(List YB)×(List YB)×Int×(List YB)×Int×(List YB)×Int×Int×(List YI)×Int×(List YB)×Int×Int×(List YI)×Bool×Int×(List YB)×Int×Int×(List Aj)×Int×Int×Bool×Unit)⊕(((List YB)×Int×Int×Int×(List Af)×Int×(List Af)×Unit))) <|
 .br (decide (x15.1>(x15.2.2.2.2.2.2.2.1.length:Int))) (
 .ob (Ca (x15.2.1,u1.1,u1.2.1,()) ((12:Int),())) fun r16=>
 .chk (decide (x15.2.2.2.2.2.2.2.1.length+[(u4.1,u4.2.1,r16.1.1,u5.1,u5.2.1,u6.1,u6.2.1,u7.1,u7.2.1,u8.1,u8.2.1,u9.1,u9.2.1,u10.1,u10.2.1,u11.1,u11.2.1,u12.1,u12.2.1,u13.1,u13.2.1,u14.1,u14.2.1,u14.2.2.1,())].length≤4294967296)) <|
 .leaf (.inl ((i64.wrap (x15.1-(1:Int))),x15.2.1,r16.2.2.1,r16.2.2.2.1,u2.1,u2.2.1,u3.1,(u3.2.1++[(u4.1,u4.2.1,r16.1.1,u5.1,u5.2.1,u6.1,u6.2.1,u7.1,u7.2.1,u8.1,u8.2.1,u9.1,u9.2.1,u10.1,u10.2.1,u11.1,u11.2.1,u12.1,u12.2.1,u13.1,u13.2.1,u14.1,u14.2.1,u14.2.2.1,())]),u4.1,u4.2.1,r16.1.1,u5.1,u5.2.1,u6.1,u6.2.1,u7.1,u7.2.1,u8.1,u8.2.1,u9.1,u9.2.1,u10.1,u10.2.1,u11.1,u11.2.1,u12.1,u12.2.1,u13.1,u13.2.1,u14.1,u14.2.1,u14.2.2.1,()))) (
 .leaf (.inr (x15.2.1,u1.1,u1.2.1,u2.1,u2.2.1,u3.1,u3.2.1,())))
def Pu (a0:Ap):Tree (A7×Ap):=
 .ob (U2 a0) fun r1=>
 .ob (A6 (a0.1,r1.2.2.1,r1.2.2.2.1,()) ((12:Int),())) fun r2=>letI u1:=r2.2.2;
 .br (r2.1.1==(0:Int)) (
 .ob (Be (a0.1,u1.1,u1.2.1,()) ([((0:Int),()),((1:Int),()),((7:Int),())],())) fun r3=>
 .leaf ((r3.1.1,r1.1.2.1,()),(a0.1,r3.2.2.1,r3.2.2.2.1,()))) (
 .br (r2.1.1==(1:Int)) (
 .ob (L7 (a0.1,u1.1,u1.2.1,())) fun r4=>
 .chk (decide (r1.1.2.1.length+[r4.1].length≤4294967296)) <|
 .leaf ((r1.1.1,(r1.1.2.1++[r4.1]),()),(a0.1,r4.2.2.1,r4.2.2.2.1,()))) (
 .br (r2.1.1==(2:Int)) (
 .br (decide ((r1.1.2.1.length:Int)>(1:Int))) (
 .ob (idx r1.1.2.1 (0:Int)) fun e5=>
 .ob (idx r1.1.2.1 (1:Int)) fun e6=>letI u2:=e6.2.2.2;letI u3:=u2.2.2.2;letI u4:=u3.2.2.2;letI u5:=u4.2.2.2;letI u6:=u5.2.2.2;letI u7:=u6.2.2.2.2;
 let q7:=(r1.1.2.1.set ((1:Int)).toNat (e6.1,e6.2.1,e5.2.2.1,u2.1,u2.2.1,u2.2.2.1,u3.1,u3.2.1,u3.2.2.1,u4.1,u4.2.1,u4.2.2.1,u5.1,u5.2.1,u5.2.2.1,u6.1,u6.2.1,u6.2.2.1,u6.2.2.2.1,u7.1,u7.2.1,u7.2.2.1,u7.2.2.2.1,u7.2.2.2.2.1,()))
 .leaf ((r1.1.1,q7,()),(a0.1,u1.1,u1.2.1,()))) (
 .leaf (r1.1,(a0.1,u1.1,u1.2.1,())))) (
 .br (r2.1.1==(3:Int)) (
 .ob (J7 (a0.1,u1.1,u1.2.1,())) fun r8=>
 .ob (K0 r8.1) fun r9=>letI u8:=r9.2.2.2;letI u9:=u8.2.2.2;letI u10:=u9.2.2.2;letI u11:=u10.2.2.2;letI u12:=u11.2.2.2;letI u13:=u12.2.2.2.2;
 .ob (Be (a0.1,r8.2.2.1,r8.2.2.2.1,()) ([((9:Int),()),((12:Int),()),((13:Int),())],())) fun r10=>
 .ob (As Kn (r10.1.1,a0.1,r10.2.2.1,r10.2.2.2.1,(0:Int),([]:List Af),r1.1.1,r1.1.2.1,r9.1,r9.2.1,r9.2.2.1,u8.1,u8.2.1,u8.2.2.1,u9.1,u9.2.1,u9.2.2.1,u10.1,u10.2.1,u10.2.2.1,u11.1,u11.2.1,u11.2.2.1,u12.1,u12.2.1,u12.2.2.1,u12.2.2.2.1,u13.1,u13.2.1,u13.2.2.1,u13.2.2.2.1,u13.2.2.2.2.1,())) fun o17=>
 .leaf ((o17.2.2.2.2.2.1,o17.2.2.2.2.2.2.1,()),(o17.1,o17.2.1,o17.2.2.1,()))) (
 .leaf (r1.1,(a0.1,u1.1,u1.2.1,()))))))
def L8 (a0:Ap):Option (A7×Ap):=(Pu a0).val
def Lu (a0:YBs):Tree (A7×Af):=
 .ob (Om a0) fun r1=>
 .ob (L8 r1) fun r2=>
 .ob (L7 (r1.1,r2.2.2.1,r2.2.2.2.1,())) fun r3=>
 .br (decide ((r2.1.2.1.length:Int)>(0:Int))) (
 .ob (Bp (r1.1,r3.2.2.1,r3.2.2.2.1,()) ((4:Int),())) fun r4=>
 .br r4.1.1 (
 .ob (A6 (r1.1,r4.2.2.1,r4.2.2.2.1,()) ((r2.1.2.1.length:Int),())) fun r5=>
 .ob (idx r2.1.2.1 r5.1.1) fun e6=>
 .leaf (r2.1,e6)) (
 .leaf (r2.1,r3.1))) (
 .leaf (r2.1,r3.1))
def L9 (a0:YBs):Option (A7×Af):=(Lu a0).val
def Abv (a0:YBs):Tree (YBs):=
 .chk (decide (([]:List YB).length+a0.1.length≤4294967296)) <|
 .leaf ((([]:List YB)++a0.1),())
def C7 (a0:YBs):Option (YBs):=(Abv a0).val
def Up (a0:Bs):Tree (Bs):=
 .chk (decide (([]:List YI).length+a0.2.1.length≤4294967296)) <|
 .leaf (a0.1,(([]:List YI)++a0.2.1),())
def U3 (a0:Bs):Option (Bs):=(Up a0).val
def W8 (a0:YEp):Tree (YEp):=
 .ob (C7 (a0.2.1,())) fun r1=>
 .ob (U3 (a0.2.2.2.1,a0.2.2.2.2.1,())) fun r2=>
 .leaf (a0.1,r1.1,a0.2.2.1,r2.1,r2.2.1,())
def P3 (a0:YEp):Option (YEp):=(W8 a0).val
def Qz (a0:Bl):Tree (Bl):=
 letI u1:=a0.2.2.2;letI u2:=u1.2.2.2;letI u3:=u2.2.2.2.2;.ob (C7 (a0.2.1,())) fun r1=>
 .ob (C7 (u3.2.2.2.2.1,())) fun r2=>
 .ob (P3 (a0.2.2.1,u1.1,u1.2.1,u1.2.2.1,u2.1,())) fun r3=>
 .ob (P3 (u2.2.1,u2.2.2.1,u2.2.2.2.1,u3.1,u3.2.1,())) fun r4=>
 .leaf (a0.1,r1.1,r3.1,r3.2.1,r3.2.2.1,r3.2.2.2.1,r3.2.2.2.2.1,r4.1,r4.2.1,r4.2.2.1,r4.2.2.2.1,r4.2.2.2.2.1,u3.2.2.1,u3.2.2.2.1,r2.1,())
def Ma (a0:Bl):Option (Bl):=(Qz a0).val
def E6 (x1:(List Aj)×Int×Int×Int×Int×(List Aj)×Int×Int×(List Aj)×Unit):Option (((List Aj)×Int×Int×Int×Int×(List Aj)×Int×Int×(List Aj)×Unit)⊕((Int×Int×(List Aj)×Int×Int×(List Aj)×Unit))):=
 letI u1:=x1.2.2;letI u2:=u1.2.2;letI u3:=u2.2.2;Tree.val (α:=((List Aj)×Int×Int×Int×Int×(List Aj)×Int×Int×(List Aj)×Unit)⊕((Int×Int×(List Aj)×Int×Int×(List Aj)×Unit))) <|
 .br (decide (u1.1<x1.2.1)) (
 .ob (idx x1.1 u1.1) fun e2=>
 .ob (C7 (e2.2.2.1,())) fun r3=>
 .chk (decide (x1.2.2.2.2.2.2.2.2.1.length+[(e2.1,e2.2.1,r3.1,e2.2.2.2.1,())].length≤4294967296)) <|
 .leaf (.inl (x1.1,x1.2.1,(i64.wrap (u1.1+(1:Int))),u1.2.1,u2.1,u2.2.1,u3.1,u3.2.1,(u3.2.2.1++[(e2.1,e2.2.1,r3.1,e2.2.2.2.1,())]),()))) (
 .leaf (.inr (u1.2.1,u2.1,u2.2.1,u3.1,u3.2.1,u3.2.2.1,())))
def Pc (a0:A4):Tree (A4):=
 .ob (As E6 (a0.2.2.1,(a0.2.2.1.length:Int),(0:Int),(0:Int),(0:Int),([]:List Aj),a0.1,a0.2.1,([]:List Aj),())) fun o4=>
 .leaf (o4.2.2.2.1,o4.2.2.2.2.1,o4.2.2.2.2.2.1,())
def Cj (a0:A4):Option (A4):=(Pc a0).val
def Q0 (a0:Af):Tree (Af):=
 letI u1:=a0.2.2.2;letI u2:=u1.2.2.2;letI u3:=u2.2.2.2;letI u4:=u3.2.2.2;letI u5:=u4.2.2.2;letI u6:=u5.2.2.2.2;.ob (C7 (a0.2.1,())) fun r1=>
 .ob (C7 (a0.2.2.1,())) fun r2=>
 .ob (Ma (u1.1,u1.2.1,u1.2.2.1,u2.1,u2.2.1,u2.2.2.1,u3.1,u3.2.1,u3.2.2.1,u4.1,u4.2.1,u4.2.2.1,u5.1,u5.2.1,u5.2.2.1,())) fun r3=>letI u7:=r3.2.2.2;letI u8:=u7.2.2.2;letI u9:=u8.2.2.2.2;
 .ob (Cj (u5.2.2.2.1,u6.1,u6.2.1,())) fun r4=>
 .leaf (a0.1,r1.1,r2.1,r3.1,r3.2.1,r3.2.2.1,u7.1,u7.2.1,u7.2.2.1,u8.1,u8.2.1,u8.2.2.1,u8.2.2.2.1,u9.1,u9.2.1,u9.2.2.1,u9.2.2.2.1,u9.2.2.2.2.1,r4.1,r4.2.1,r4.2.2.1,u6.2.2.1,u6.2.2.2.1,u6.2.2.2.2.1,())
def Fu (a0:Af):Option (Af):=(Q0 a0).val
def F5 (x1:(List Af)×Int×Int×Int×(List Af)×Int×(List Af)×Unit):Option (((List Af)×Int×Int×Int×(List Af)×Int×(List Af)×Unit)⊕((Int×(List Af)×Int×(List Af)×Unit))):=
 letI u1:=x1.2.2;letI u2:=u1.2.2;Tree.val (α:=((List Af)×Int×Int×Int×(List Af)×Int×(List Af)×Unit)⊕((Int×(List Af)×Int×(List Af)×Unit))) <|
 .br (decide (u1.1<x1.2.1)) (
 .ob (idx x1.1 u1.1) fun e2=>
 .ob (Fu e2) fun r3=>
 .chk (decide (x1.2.2.2.2.2.2.1.length+[r3].length≤4294967296)) <|
 .leaf (.inl (x1.1,x1.2.1,(i64.wrap (u1.1+(1:Int))),u1.2.1,u2.1,u2.2.1,(u2.2.2.1++[r3]),()))) (
 .leaf (.inr (u1.2.1,u2.1,u2.2.1,u2.2.2.1,())))
def Uq (a0:A7):Tree (A7):=
 .ob (As F5 (a0.2.1,(a0.2.1.length:Int),(0:Int),(0:Int),([]:List Af),a0.1,([]:List Af),())) fun o4=>
 .leaf (o4.2.2.1,o4.2.2.2.1,())
def Gu (a0:A7):Option (A7):=(Uq a0).val
def W9 (a0:YI) (a1:YI) (a2:YI):Tree ((Bool×Unit)):=
 .br (decide (a0.1≥a1.1)) (
 .leaf ((decide (a0.1≤a2.1)),())) (
 .leaf (false,()))
def Bt (a0:YI) (a1:YI) (a2:YI):Option ((Bool×Unit)):=(W9 a0 a1 a2).val
def Ff (x1:Int×(List Af)×Int×Int×Unit):Option ((Int×(List Af)×Int×Int×Unit)⊕(YI)):=
 letI u1:=x1.2.2;Tree.val (α:=(Int×(List Af)×Int×Int×Unit)⊕(YI)) <|
 .br (decide (u1.2.1<u1.1)) (
 .ob (idx x1.2.1 u1.2.1) fun e2=>
 .br (!e2.2.2.2.2.2.2.2.2.2.2.2.2.2.2.2.2.2.2.2.2.2.2.2.1) (
 .leaf (.inl ((i64.wrap (x1.1+(1:Int))),x1.2.1,u1.1,(i64.wrap (u1.2.1+(1:Int))),()))) (
 .leaf (.inl (x1.1,x1.2.1,u1.1,(i64.wrap (u1.2.1+(1:Int))),())))) (
 .leaf (.inr (x1.1,())))
def Xb (a0:A7):Tree (YI):=
 .ob (As Ff ((0:Int),a0.2.1,(a0.2.1.length:Int),(0:Int),())) fun o3=>
 .leaf o3
def Aq (a0:A7):Option (YI):=(Xb a0).val
def Ael (a0:YBs):Tree ((Bool×Unit)):=
 .leaf (((a0.1.length:Int)==(12:Int)),())
def H8 (a0:YBs):Option ((Bool×Unit)):=(Ael a0).val
def Aad (a0:YBs) (a1:YBs):Tree ((Bool×Unit)):=
 .leaf ((decide ((Kz a0.1)=(Kz a1.1))),())
def Kq (a0:YBs) (a1:YBs):Option ((Bool×Unit)):=(Aad a0 a1).val
def Vo (x1:(List YI)×(List YI)×Int×Int×Unit):Option (((List YI)×(List YI)×Int×Int×Unit)⊕((Bool×Unit)⊕(Unit))):=
 letI u1:=x1.2.2;Tree.val (α:=((List YI)×(List YI)×Int×Int×Unit)⊕((Bool×Unit)⊕(Unit))) <|
 .br (decide (u1.2.1<u1.1)) (
 .ob (idx x1.2.1 u1.2.1) fun e2=>
 .ob (idx x1.1 u1.2.1) fun e3=>
 .br (e2.1 != e3.1) (
 .leaf (.inr (.inl (false,())))) (
 .leaf (.inl (x1.1,x1.2.1,u1.1,(i64.wrap (u1.2.1+(1:Int))),())))) (
 .leaf (.inr (.inr ())))
def Q3 (a0:(List YI)×Unit) (a1:(List YI)×Unit):Tree ((Bool×Unit)):=
 .br ((a0.1.length:Int) != (a1.1.length:Int)) (
 .leaf (false,())) (
 .ob (As Vo (a1.1,a0.1,(a0.1.length:Int),(0:Int),())) fun o4=>
 .sm o4 (fun o5=>
 .leaf o5) (fun o6=>
 .leaf (true,())))
def Rm (a0:(List YI)×Unit) (a1:(List YI)×Unit):Option ((Bool×Unit)):=(Q3 a0 a1).val
def Xd (a0:YEp) (a1:YEp):Tree ((Bool×Unit)):=
 .br (a0.1==a1.1) (
 .ob (Kq (a0.2.1,()) (a1.2.1,())) fun r1=>
 .br r1.1 (
 .br (a0.2.2.1==a1.2.2.1) (
 .br (a0.2.2.2.1==a1.2.2.2.1) (
 .ob (Rm (a0.2.2.2.2.1,()) (a1.2.2.2.2.1,())) fun r2=>
 .leaf r2) (
 .leaf (false,()))) (
 .leaf (false,()))) (
 .leaf (false,()))) (
 .leaf (false,()))
def Mb (a0:YEp) (a1:YEp):Option ((Bool×Unit)):=(Xd a0 a1).val
def Nb (a0:Bl):Tree ((Bool×Unit)):=
 letI u1:=a0.2.2.2;letI u2:=u1.2.2.2;letI u3:=u2.2.2.2;.br (a0.1==(0:Int)) (
 .br ((a0.2.1.length:Int)==(0:Int)) (
 .ob (Mb (a0.2.2.1,u1.1,u1.2.1,u1.2.2.1,u2.1,()) ((0:Int),([]:List YB),(0:Int),(0:Int),([]:List YI),())) fun r1=>
 .br r1.1 (
 .ob (Mb (u2.2.1,u2.2.2.1,u3.1,u3.2.1,u3.2.2.1,()) ((0:Int),([]:List YB),(0:Int),(0:Int),([]:List YI),())) fun r2=>
 .br r2.1 (
 .br (!u3.2.2.2.1) (
 .br (u3.2.2.2.2.1==(0:Int)) (
 .leaf (((a0.2.2.2.2.2.2.2.2.2.2.2.2.2.2.1.length:Int)==(0:Int)),())) (
 .leaf (false,()))) (
 .leaf (false,()))) (
 .leaf (false,()))) (
 .leaf (false,()))) (
 .leaf (false,()))) (
 .leaf (false,()))
def Nc (a0:Bl):Option ((Bool×Unit)):=(Nb a0).val
def Xe (a0:YI):Tree ((Bool×Unit)):=
 .br (a0.1==(0:Int)) (
 .leaf (true,())) (
 .leaf ((a0.1==(1:Int)),()))
def Xy (a0:YI):Option ((Bool×Unit)):=(Xe a0).val
def G5 (x1:(List YI)×Int×(List YI)×Int×Int×Unit):Option (((List YI)×Int×(List YI)×Int×Int×Unit)⊕((Bool×Unit)⊕((List YI)×Int×Unit))):=
 letI u1:=x1.2.2;Tree.val (α:=((List YI)×Int×(List YI)×Int×Int×Unit)⊕((Bool×Unit)⊕((List YI)×Int×Unit))) <|
 .br (decide (u1.2.2.1<u1.2.1)) (
 .ob (idx u1.1 u1.2.2.1) fun e2=>
 .ob (Bt e2 ((0:Int),()) ((4294967295:Int),())) fun r3=>
 .br (!r3.1) (
 .leaf (.inr (.inl (false,())))) (
 .leaf (.inl (x1.1,x1.2.1,u1.1,u1.2.1,(i64.wrap (u1.2.2.1+(1:Int))),())))) (
 .leaf (.inr (.inr (x1.1,x1.2.1,()))))
def Q4 (a0:(List YI)×Unit) (a1:YI):Tree ((Bool×Unit)):=
 .ob (As G5 (a0.1,a1.1,a0.1,(a0.1.length:Int),(0:Int),())) fun o4=>
 .sm o4 (fun o5=>
 .leaf o5) (fun o6=>
 .leaf (((o6.1.length:Int)==o6.2.1),()))
def It (a0:(List YI)×Unit) (a1:YI):Option ((Bool×Unit)):=(Q4 a0 a1).val
def Xf (a0:Bs) (a1:YI):Tree ((Bool×Unit)):=
 .chk (decide ((0:Int)≤a1.1)) <|
 .chk (decide ((0:Int)≤(a1.1%(1024:Int)))) <|
 .ob (idx a0.2.1 ((a1.1%(1024:Int))/(32:Int))) fun e1=>
 .chk (decide ((0:Int)≤a1.1)) <|
 .chk (decide ((0:Int)≤(a1.1%(32:Int)))) <|
 .leaf (((i64.wrap ((BitVec.ofInt (i64.bits) ((Int.fdiv e1.1 (2^(min ((a1.1%(32:Int))).toNat i64.bits)))) &&& BitVec.ofInt (i64.bits) ((1:Int))).toNat:Nat))==(1:Int)),())
def P4 (a0:Bs) (a1:YI):Option ((Bool×Unit)):=(Xf a0 a1).val
def H6 (x3:Int×Int×(List YI)×Unit):Option ((Int×Int×(List YI)×Unit)⊕((Bool×Unit)⊕Bs)):=
 Tree.val (α:=(Int×Int×(List YI)×Unit)⊕((Bool×Unit)⊕Bs)) <|
 .br (decide (x3.1<(1024:Int))) (
 .ob (P4 (x3.2.1,x3.2.2.1,()) (x3.1,())) fun r4=>
 .br r4.1 (
 .leaf (.inr (.inl (false,())))) (
 .leaf (.inl ((i64.wrap (x3.1+(1:Int))),x3.2.1,x3.2.2.1,())))) (
 .leaf (.inr (.inr (x3.2.1,x3.2.2.1,()))))
def Abz (a0:Bs):Tree ((Bool×Unit)):=
 .ob (Bt (a0.1,()) ((-1:Int),()) ((281474976710655:Int),())) fun r1=>
 .br (!r1.1) (
 .leaf (false,())) (
 .ob (It (a0.2.1,()) ((32:Int),())) fun r2=>
 .br (!r2.1) (
 .leaf (false,())) (
 .ob (As H6 ((i64.wrap (a0.1+(1:Int))),a0.1,a0.2.1,())) fun o5=>
 .sm o5 (fun o6=>
 .leaf o6) (fun o7=>
 .br (o7.1==(-1:Int)) (
 .leaf (true,())) (
 .ob (P4 o7 (o7.1,())) fun r8=>
 .leaf r8))))
def Acg (a0:Bs):Option ((Bool×Unit)):=(Abz a0).val
def Afo (a0:YEp):Tree ((Bool×Unit)):=
 .ob (Bt (a0.1,()) ((0:Int),()) ((4294967295:Int),())) fun r1=>
 .br r1.1 (
 .br ((a0.2.1.length:Int)==(32:Int)) (
 .ob (Bt (a0.2.2.1,()) ((0:Int),()) ((281474976710656:Int),())) fun r2=>
 .br r2.1 (
 .ob (Acg (a0.2.2.2.1,a0.2.2.2.2.1,())) fun r3=>
 .leaf r3) (
 .leaf (false,()))) (
 .leaf (false,()))) (
 .leaf (false,()))
def Xz (a0:YEp):Option ((Bool×Unit)):=(Afo a0).val
def Ab0 (a0:Bl):Tree ((Bool×Unit)):=
 letI u1:=a0.2.2.2.2.2.2.2;letI u2:=u1.2.2;letI u3:=u2.2.2;.br (!u3.2.1) (
 .ob (Mb (u1.1,u1.2.1,u2.1,u2.2.1,u3.1,()) ((0:Int),([]:List YB),(0:Int),(0:Int),([]:List YI),())) fun r1=>
 .br r1.1 (
 .leaf ((u3.2.2.1==(0:Int)),())) (
 .leaf (false,()))) (
 .ob (Xz (u1.1,u1.2.1,u2.1,u2.2.1,u3.1,())) fun r2=>
 .br (!r2.1) (
 .leaf (false,())) (
 .br (u1.1 != (i64.wrap (a0.2.2.1-(1:Int)))) (
 .leaf (false,())) (
 .ob (Bt (u3.2.2.1,()) ((0:Int),()) ((1000005:Int),())) fun r3=>
 .br r3.1 (
 .leaf (true,())) (
 .br (u3.2.2.1==(-1:Int)) (
 .leaf ((a0.1==(1:Int)),())) (
 .leaf (false,()))))))
def Ach (a0:Bl):Option ((Bool×Unit)):=(Ab0 a0).val
def Xh (a0:Bl):Tree ((Bool×Unit)):=
 letI u1:=a0.2.2;.ob (Xy (a0.1,())) fun r1=>
 .br (!r1.1) (
 .leaf (false,())) (
 .ob (H8 (a0.2.1,())) fun r2=>
 .br (!r2.1) (
 .leaf (false,())) (
 .ob (Xz (u1.1,u1.2.1,u1.2.2.1,u1.2.2.2.1,u1.2.2.2.2.1,())) fun r3=>
 .br (!r3.1) (
 .leaf (false,())) (
 .ob (Ach a0) fun r4=>
 .br (!r4.1) (
 .leaf (false,())) (
 .br ((a0.2.2.2.2.2.2.2.2.2.2.2.2.2.2.1.length:Int)==(0:Int)) (
 .leaf (true,())) (
 .br (a0.1==(0:Int)) (
 .br ((a0.2.2.2.2.2.2.2.2.2.2.2.2.2.2.1.length:Int)==(32:Int)) (
 .leaf ((decide (u1.1<(4294967295:Int))),())) (
 .leaf (false,()))) (
 .leaf (false,())))))))
def P5 (a0:Bl):Option ((Bool×Unit)):=(Xh a0).val
def Xi (a0:Da):Tree ((Bool×Unit)):=
 .ob (Bt (a0.1,()) ((0:Int),()) ((4294967295:Int),())) fun r1=>
 .br r1.1 (
 .ob (Bt (a0.2.1,()) ((0:Int),()) ((65535:Int),())) fun r2=>
 .leaf r2) (
 .leaf (false,()))
def Mc (a0:Da):Option ((Bool×Unit)):=(Xi a0).val
def Fb (x7:(List Aj)×Int×Int×(List Aj)×Int×Int×Int×Int×(List Aj)×Int×Int×(List YB)×Int×Unit):Option (((List Aj)×Int×Int×(List Aj)×Int×Int×Int×Int×(List Aj)×Int×Int×(List YB)×Int×Unit)⊕((Bool×Unit)⊕((List Aj)×Int×Int×Int×Int×(List Aj)×Unit))):=
 letI u1:=x7.2.2;letI u2:=u1.2.2.2;letI u3:=u2.2.2;letI u4:=u3.2.2;Tree.val (α:=((List Aj)×Int×Int×(List Aj)×Int×Int×Int×Int×(List Aj)×Int×Int×(List YB)×Int×Unit)⊕((Bool×Unit)⊕((List Aj)×Int×Int×Int×Int×(List Aj)×Unit))) <|
 .br (decide (u2.1<u1.2.2.1)) (
 .ob (idx u1.2.1 u2.1) fun e8=>
 .br (and (e8.1==u4.1) (and (e8.2.1==u4.2.1) true)) (
 .leaf (.inr (.inl (false,())))) (
 .leaf (.inl (x7.1,x7.2.1,u1.1,u1.2.1,u1.2.2.1,(i64.wrap (u2.1+(1:Int))),u2.2.1,u3.1,u3.2.1,u4.1,u4.2.1,u4.2.2.1,u4.2.2.2.1,())))) (
 .leaf (.inr (.inr (x7.1,x7.2.1,u1.1,u2.2.1,u3.1,u3.2.1,()))))
def F6 (x2:(List Aj)×Int×Int×Int×Int×(List Aj)×Unit):Option (((List Aj)×Int×Int×Int×Int×(List Aj)×Unit)⊕((Bool×Unit)⊕(Unit))):=
 letI u1:=x2.2.2;Tree.val (α:=((List Aj)×Int×Int×Int×Int×(List Aj)×Unit)⊕((Bool×Unit)⊕(Unit))) <|
 .br (decide (u1.1<x2.2.1)) (
 .ob (idx x2.1 u1.1) fun e3=>
 .ob (Mc (e3.1,e3.2.1,())) fun r4=>
 .br (!r4.1) (
 .leaf (.inr (.inl (false,())))) (
 .br (and (e3.1==u1.2.1) (and (e3.2.1==u1.2.2.1) true)) (
 .leaf (.inr (.inl (false,())))) (
 .ob (H8 (e3.2.2.1,())) fun r5=>
 .br (!r5.1) (
 .leaf (.inr (.inl (false,())))) (
 .ob (Bt (e3.2.2.2.1,()) ((0:Int),()) ((1000006:Int),())) fun r6=>
 .br (!r6.1) (
 .leaf (.inr (.inl (false,())))) (
 .chk (decide ((0:Int)≤u1.1)) <|
 .chk (decide (u1.1≤(x2.2.2.2.2.2.1.length:Int))) <|
 .ob (As Fb (x2.1,x2.2.1,u1.1,((x2.2.2.2.2.2.1.take (u1.1).toNat).drop ((0:Int)).toNat),(((x2.2.2.2.2.2.1.take (u1.1).toNat).drop ((0:Int)).toNat).length:Int),(0:Int),u1.2.1,u1.2.2.1,u1.2.2.2.1,e3.1,e3.2.1,e3.2.2.1,e3.2.2.2.1,())) fun o9=>
 .sm o9 (fun o10=>
 .leaf (.inr (.inl o10))) (fun o11=>
 .leaf (.inl (o11.1,o11.2.1,(i64.wrap (o11.2.2.1+(1:Int))),o11.2.2.2.1,o11.2.2.2.2.1,o11.2.2.2.2.2.1,())))))))) (
 .leaf (.inr (.inr ())))
def N0 (a0:A4):Tree ((Bool×Unit)):=
 .ob (Mc (a0.1,a0.2.1,())) fun r1=>
 .br (!r1.1) (
 .leaf (false,())) (
 .br (decide ((a0.2.2.1.length:Int)>(3:Int))) (
 .leaf (false,())) (
 .ob (As F6 (a0.2.2.1,(a0.2.2.1.length:Int),(0:Int),a0.1,a0.2.1,a0.2.2.1,())) fun o12=>
 .sm o12 (fun o13=>
 .leaf o13) (fun o14=>
 .leaf (true,()))))
def Kb (a0:A4):Option ((Bool×Unit)):=(N0 a0).val
def Xj (a0:Af):Tree ((Bool×Unit)):=
 letI u1:=a0.2.2;letI u2:=u1.2.2;letI u3:=u2.2.2;letI u4:=u3.2.2;letI u5:=u4.2.2;letI u6:=u5.2.2;letI u7:=u6.2.2;letI u8:=u7.2.2;letI u9:=u8.2.2;letI u10:=u9.2.2.2;.ob (Bt (a0.1,()) ((1:Int),()) ((9:Int),())) fun r1=>
 .br (!r1.1) (
 .leaf (false,())) (
 .ob (H8 (a0.2.1,())) fun r2=>
 .br (!r2.1) (
 .leaf (false,())) (
 .ob (H8 (u1.1,())) fun r3=>
 .br (!r3.1) (
 .leaf (false,())) (
 .ob (Bt (u10.1,()) ((0:Int),()) ((1000000:Int),())) fun r4=>
 .br (!r4.1) (
 .leaf (false,())) (
 .br u10.2.2.1 (
 .ob (Nc (u1.2.1,u2.1,u2.2.1,u3.1,u3.2.1,u4.1,u4.2.1,u5.1,u5.2.1,u6.1,u6.2.1,u7.1,u7.2.1,u8.1,u8.2.1,())) fun r5=>
 .br r5.1 (
 .br (and (u9.1==(0:Int)) (and (u9.2.1==(0:Int)) true)) (
 .br ((a0.2.2.2.2.2.2.2.2.2.2.2.2.2.2.2.2.2.2.2.2.1.length:Int)==(0:Int)) (
 .leaf ((u10.2.1==(0:Int)),())) (
 .leaf (false,()))) (
 .leaf (false,()))) (
 .leaf (false,()))) (
 .ob (P5 (u1.2.1,u2.1,u2.2.1,u3.1,u3.2.1,u4.1,u4.2.1,u5.1,u5.2.1,u6.1,u6.2.1,u7.1,u7.2.1,u8.1,u8.2.1,())) fun r6=>
 .br r6.1 (
 .br (u1.2.1==(1:Int)) (
 .ob (Kq (u2.1,()) (u1.1,())) fun r7=>
 .br r7.1 (
 .ob (Kb (u9.1,u9.2.1,u9.2.2.1,())) fun r8=>
 .br r8.1 (
 .ob (Bt (u10.2.1,()) ((0:Int),()) ((1000000:Int),())) fun r9=>
 .leaf r9) (
 .leaf (false,()))) (
 .leaf (false,()))) (
 .leaf (false,()))) (
 .leaf (false,())))))))
def Jf (a0:Af):Option ((Bool×Unit)):=(Xj a0).val
def Ip (x1:(List YB)×(List Af)×Int×Int×Unit):Option (((List YB)×(List Af)×Int×Int×Unit)⊕(YI⊕(Unit))):=
 letI u1:=x1.2.2;Tree.val (α:=((List YB)×(List Af)×Int×Int×Unit)⊕(YI⊕(Unit))) <|
 .br (decide (u1.2.1<u1.1)) (
 .ob (idx x1.2.1 u1.2.1) fun e2=>
 .ob (Kq (e2.2.2.1,()) (x1.1,())) fun r3=>
 .br r3.1 (
 .leaf (.inr (.inl (u1.2.1,())))) (
 .leaf (.inl (x1.1,x1.2.1,u1.1,(i64.wrap (u1.2.1+(1:Int))),())))) (
 .leaf (.inr (.inr ())))
def Xk (a0:A7) (a1:YBs):Tree (YI):=
 .ob (As Ip (a1.1,a0.2.1,(a0.2.1.length:Int),(0:Int),())) fun o4=>
 .sm o4 (fun o5=>
 .leaf o5) (fun o6=>
 .leaf ((-1:Int),()))
def Cg (a0:A7) (a1:YBs):Option (YI):=(Xk a0 a1).val
def J4 (x3:(List Af)×Int×Int×Int×(List Af)×Unit):Option (((List Af)×Int×Int×Int×(List Af)×Unit)⊕((Bool×Unit)⊕(Unit))):=
 letI u1:=x3.2.2;Tree.val (α:=((List Af)×Int×Int×Int×(List Af)×Unit)⊕((Bool×Unit)⊕(Unit))) <|
 .br (decide (u1.1<x3.2.1)) (
 .ob (idx x3.1 u1.1) fun e4=>
 .ob (Jf e4) fun r5=>
 .br (!r5.1) (
 .leaf (.inr (.inl (false,())))) (
 .ob (Cg (u1.2.1,u1.2.2.1,()) (e4.2.2.1,())) fun r6=>
 .br (decide (r6.1<u1.1)) (
 .leaf (.inr (.inl (false,())))) (
 .leaf (.inl (x3.1,x3.2.1,(i64.wrap (u1.1+(1:Int))),u1.2.1,u1.2.2.1,()))))) (
 .leaf (.inr (.inr ())))
def Ab2 (a0:A7):Tree ((Bool×Unit)):=
 .ob (Bt (a0.1,()) ((1:Int),()) ((6:Int),())) fun r1=>
 .br (!r1.1) (
 .leaf (false,())) (
 .br (decide ((a0.2.1.length:Int)>(12:Int))) (
 .leaf (false,())) (
 .ob (Aq a0) fun r2=>
 .br (decide (r2.1>a0.1)) (
 .leaf (false,())) (
 .ob (As J4 (a0.2.1,(a0.2.1.length:Int),(0:Int),a0.1,a0.2.1,())) fun o7=>
 .sm o7 (fun o8=>
 .leaf o8) (fun o9=>
 .leaf (true,())))))
def Al (a0:A7):Option ((Bool×Unit)):=(Ab2 a0).val
def N4 (a0:A7) (a1:Af):Tree (A7×YI):=
 .ob (Gu a0) fun r1=>
 .ob (Al a0) fun r2=>
 .br (!r2.1) (
 .leaf (r1,((1:Int),()))) (
 .ob (Jf a1) fun r3=>
 .br (!r3.1) (
 .leaf (r1,((1:Int),()))) (
 .br a1.2.2.2.2.2.2.2.2.2.2.2.2.2.2.2.2.2.2.2.2.2.2.2.1 (
 .leaf (r1,((1:Int),()))) (
 .ob (Cg a0 (a1.2.2.1,())) fun r4=>
 .br (decide (r4.1≥(0:Int))) (
 .leaf (r1,((3:Int),()))) (
 .ob (Aq a0) fun r5=>
 .br (r5.1==a0.1) (
 .leaf (r1,((7:Int),()))) (
 .br ((a0.2.1.length:Int)==(12:Int)) (
 .leaf (r1,((7:Int),()))) (
 .ob (Fu a1) fun r6=>
 .chk (decide (r1.2.1.length+[r6].length≤4294967296)) <|
 .leaf ((r1.1,(r1.2.1++[r6]),()),((0:Int),()))))))))
def Kc (a0:A7) (a1:Af):Option (A7×YI):=(N4 a0 a1).val
def Lx (a0:YBs):Tree (A7×YI):=
 .ob (Om a0) fun r1=>
 .ob (L8 r1) fun r2=>
 .ob (Be (r1.1,r2.2.2.1,r2.2.2.2.1,()) ([((0:Int),()),((6:Int),()),((61:Int),()),((62:Int),()),((66:Int),()),((151:Int),()),((152:Int),()),((310:Int),()),((1000000:Int),()),((1000001:Int),()),((-1:Int),())],())) fun r3=>
 .leaf (r2.1,r3.1)
def Md (a0:YBs):Option (A7×YI):=(Lx a0).val
def Afq (a0:Af):Tree (Af):=
 .ob (Jf a0) fun r1=>
 .br (!r1.1) (
 .ob (Fu a0) fun r2=>
 .leaf r2) (
 .ob (C7 (a0.2.1,())) fun r3=>
 .ob (C7 (a0.2.2.1,())) fun r4=>
 .leaf (a0.1,r3.1,r4.1,(0:Int),([]:List YB),(0:Int),([]:List YB),(0:Int),(0:Int),([]:List YI),(0:Int),([]:List YB),(0:Int),(0:Int),([]:List YI),false,(0:Int),([]:List YB),(0:Int),(0:Int),([]:List Aj),a0.2.2.2.2.2.2.2.2.2.2.2.2.2.2.2.2.2.2.2.2.2.1,(0:Int),true,()))
def Afv (a0:Af):Option (Af):=(Afq a0).val
def Q5 (a0:Bl) (a1:YI):Tree (Bl):=
 letI u1:=a0.2.2.2.2.2.2.2.2.2.2.2.2;.ob (Ma a0) fun r1=>letI u2:=r1.2.2.2;
 .ob (P5 a0) fun r2=>
 .br r2.1 (
 .ob (Bt a1 ((0:Int),()) ((1000000:Int),())) fun r3=>
 .br r3.1 (
 .br u1.1 (
 .br (u1.2.1 != (-1:Int)) (
 .br (decide (a1.1>u1.2.1)) (
 .leaf (r1.1,r1.2.1,r1.2.2.1,u2.1,u2.2.1,u2.2.2.1,u2.2.2.2.1,(0:Int),([]:List YB),(0:Int),(0:Int),([]:List YI),false,(0:Int),u2.2.2.2.2.2.2.2.2.2.2.2.1,())) (
 .leaf r1)) (
 .leaf r1)) (
 .leaf r1)) (
 .leaf r1)) (
 .leaf r1)
def Rn (a0:Bl) (a1:YI):Option (Bl):=(Q5 a0 a1).val
def C0 (x2:Int×(List Aj)×Int×Int×Int×Int×(List Aj)×Int×Int×(List Aj)×Unit):Option ((Int×(List Aj)×Int×Int×Int×Int×(List Aj)×Int×Int×(List Aj)×Unit)⊕((Int×Int×(List Aj)×Int×Int×(List Aj)×Unit))):=
 letI u1:=x2.2.2.2;letI u2:=u1.2.2;letI u3:=u2.2.2;Tree.val (α:=(Int×(List Aj)×Int×Int×Int×Int×(List Aj)×Int×Int×(List Aj)×Unit)⊕((Int×Int×(List Aj)×Int×Int×(List Aj)×Unit))) <|
 .br (decide (u1.1<x2.2.2.1)) (
 .chk (Nat.beq (Int.toNat u1.1) (Int.toNat u1.1)) <|
 .ob (idx x2.2.1 u1.1) fun e3=>
 .br (decide (e3.2.2.2.1≥x2.1)) (
 .chk (decide (x2.2.2.2.2.2.2.2.2.2.1.length+[e3].length≤4294967296)) <|
 .chk (Nat.ble (Int.toNat u1.1+1) (Int.toNat (i64.wrap (u1.1+(1:Int))))) <|
 .leaf (.inl (x2.1,x2.2.1,x2.2.2.1,(i64.wrap (u1.1+(1:Int))),u1.2.1,u2.1,u2.2.1,u3.1,u3.2.1,(u3.2.2.1++[e3]),()))) (
 .chk (Nat.ble (Int.toNat u1.1+1) (Int.toNat (i64.wrap (u1.1+(1:Int))))) <|
 .leaf (.inl (x2.1,x2.2.1,x2.2.2.1,(i64.wrap (u1.1+(1:Int))),u1.2.1,u2.1,u2.2.1,u3.1,u3.2.1,u3.2.2.1,())))) (
 .leaf (.inr (u1.2.1,u2.1,u2.2.1,u3.1,u3.2.1,u3.2.2.1,())))
def Gd (a0:A4) (a1:YI):Tree (A4):=
 .ob (Cj a0) fun r1=>
 .ob (As C0 (a1.1,r1.2.2.1,(r1.2.2.1.length:Int),(0:Int),(0:Int),(0:Int),([]:List Aj),a0.1,a0.2.1,([]:List Aj),())) fun o4=>
 .leaf (o4.2.2.2.1,o4.2.2.2.2.1,o4.2.2.2.2.2.1,())
def Gg (a0:A4) (a1:YI):Option (A4):=(Gd a0 a1).val
def Q6 (a0:A4) (a1:YI):Tree (A4):=
 .ob (Kb a0) fun r1=>
 .br (!r1.1) (
 .ob (Cj a0) fun r2=>
 .leaf r2) (
 .ob (Bt a1 ((0:Int),()) ((1000000:Int),())) fun r3=>
 .br (!r3.1) (
 .ob (Cj a0) fun r4=>
 .leaf r4) (
 .ob (Gg a0 a1) fun r5=>
 .leaf r5))
def Me (a0:A4) (a1:YI):Option (A4):=(Q6 a0 a1).val
def Q7 (a0:Af) (a1:YI):Tree (Af):=
 letI u1:=a0.2.2.2;letI u2:=u1.2.2.2;letI u3:=u2.2.2.2;letI u4:=u3.2.2.2;letI u5:=u4.2.2.2;letI u6:=u5.2.2.2;.ob (Fu a0) fun r1=>letI u7:=r1.2.2.2.2.2.2.2.2.2.2.2.2.2.2.2.2.2.2.2.2.2;
 .ob (Jf a0) fun r2=>
 .br (!r2.1) (
 .leaf r1) (
 .br u6.2.2.2.2.2.1 (
 .leaf r1) (
 .ob (Bt a1 ((0:Int),()) ((1000000:Int),())) fun r3=>
 .br (!r3.1) (
 .leaf r1) (
 .br (decide ((i64.wrap (a1.1-u6.2.2.2.2.1))>(60:Int))) (
 .ob (Afv a0) fun r4=>
 .leaf r4) (
 .ob (Rn (u1.1,u1.2.1,u1.2.2.1,u2.1,u2.2.1,u2.2.2.1,u3.1,u3.2.1,u3.2.2.1,u4.1,u4.2.1,u4.2.2.1,u5.1,u5.2.1,u5.2.2.1,()) a1) fun r5=>letI u8:=r5.2.2.2;letI u9:=u8.2.2.2;letI u10:=u9.2.2.2.2;
 .ob (Me (u6.1,u6.2.1,u6.2.2.1,()) a1) fun r6=>
 .leaf (r1.1,r1.2.1,r1.2.2.1,r5.1,r5.2.1,r5.2.2.1,u8.1,u8.2.1,u8.2.2.1,u9.1,u9.2.1,u9.2.2.1,u9.2.2.2.1,u10.1,u10.2.1,u10.2.2.1,u10.2.2.2.1,u10.2.2.2.2.1,r6.1,r6.2.1,r6.2.2.1,u7.1,u7.2.1,u7.2.2.1,())))))
def Iu (a0:Af) (a1:YI):Option (Af):=(Q7 a0 a1).val
def F7 (x5:Int×(List Af)×Int×Int×Int×(List Af)×Int×(List Af)×Unit):Option ((Int×(List Af)×Int×Int×Int×(List Af)×Int×(List Af)×Unit)⊕((Int×(List Af)×Int×(List Af)×Unit))):=
 letI u1:=x5.2.2;letI u2:=u1.2.2;letI u3:=u2.2.2;Tree.val (α:=(Int×(List Af)×Int×Int×Int×(List Af)×Int×(List Af)×Unit)⊕((Int×(List Af)×Int×(List Af)×Unit))) <|
 .br (decide (u1.2.1<u1.1)) (
 .ob (idx x5.2.1 u1.2.1) fun e6=>
 .ob (Iu e6 (x5.1,())) fun r7=>letI u4:=r7.2.2.2.2.2.2.2.2.2.2.2.2.2.2.2.2.2.2.2.2.2;
 .br (!u4.2.2.1) (
 .chk (decide (x5.2.2.2.2.2.2.2.1.length+[r7].length≤4294967296)) <|
 .leaf (.inl (x5.1,x5.2.1,u1.1,(i64.wrap (u1.2.1+(1:Int))),u2.1,u2.2.1,u3.1,(u3.2.1++[r7]),()))) (
 .br (decide ((i64.wrap (x5.1-u4.1))≤(10:Int))) (
 .chk (decide (x5.2.2.2.2.2.2.2.1.length+[r7].length≤4294967296)) <|
 .leaf (.inl (x5.1,x5.2.1,u1.1,(i64.wrap (u1.2.1+(1:Int))),u2.1,u2.2.1,u3.1,(u3.2.1++[r7]),()))) (
 .leaf (.inl (x5.1,x5.2.1,u1.1,(i64.wrap (u1.2.1+(1:Int))),u2.1,u2.2.1,u3.1,u3.2.1,()))))) (
 .leaf (.inr (u2.1,u2.2.1,u3.1,u3.2.1,())))
def Uu (a0:A7) (a1:YI):Tree (A7):=
 .ob (Al a0) fun r1=>
 .br (!r1.1) (
 .ob (Gu a0) fun r2=>
 .leaf r2) (
 .ob (Bt a1 ((0:Int),()) ((1000000:Int),())) fun r3=>
 .br (!r3.1) (
 .ob (Gu a0) fun r4=>
 .leaf r4) (
 .ob (As F7 (a1.1,a0.2.1,(a0.2.1.length:Int),(0:Int),(0:Int),([]:List Af),a0.1,([]:List Af),())) fun o8=>
 .leaf (o8.2.2.1,o8.2.2.2.1,())))
def U4 (a0:A7) (a1:YI):Option (A7):=(Uu a0 a1).val
def L0 (a0:YBs):Tree (A7×YI×Af):=
 .ob (Om a0) fun r1=>
 .ob (L8 r1) fun r2=>
 .ob (A6 (r1.1,r2.2.2.1,r2.2.2.2.1,()) ((i64.wrap ((r2.1.2.1.length:Int)+(2:Int))),())) fun r3=>
 .ob (L7 (r1.1,r3.2.2.1,r3.2.2.2.1,())) fun r4=>
 .br (decide ((i64.wrap (r3.1.1-(1:Int)))≥(0:Int))) (
 .br (decide ((i64.wrap (r3.1.1-(1:Int)))<(r2.1.2.1.length:Int))) (
 .ob (Bp (r1.1,r4.2.2.1,r4.2.2.2.1,()) ((2:Int),())) fun r5=>
 .br r5.1.1 (
 .ob (idx r2.1.2.1 (i64.wrap (r3.1.1-(1:Int)))) fun e6=>
 .ob (K0 e6) fun r7=>
 .leaf (r2.1,((i64.wrap (r3.1.1-(1:Int))),()),r7)) (
 .leaf (r2.1,((i64.wrap (r3.1.1-(1:Int))),()),r4.1))) (
 .leaf (r2.1,((i64.wrap (r3.1.1-(1:Int))),()),r4.1))) (
 .leaf (r2.1,((i64.wrap (r3.1.1-(1:Int))),()),r4.1))
def Mf (a0:YBs):Option (A7×YI×Af):=(L0 a0).val
def N5 (a0:A7) (a1:YI) (a2:Af):Tree (A7×(Bool×Unit)):=
 .ob (Gu a0) fun r1=>
 .ob (Al a0) fun r2=>
 .br (!r2.1) (
 .leaf (r1,(false,()))) (
 .br (decide (a1.1<(0:Int))) (
 .leaf (r1,(false,()))) (
 .br (decide (a1.1≥(a0.2.1.length:Int))) (
 .leaf (r1,(false,()))) (
 .ob (Fu a2) fun r3=>
 .ob (idx r1.2.1 a1.1) fun e4=>
 let q5:=(r1.2.1.set (a1.1).toNat r3)
 .ob (Al (r1.1,q5,())) fun r6=>
 .br (!r6.1) (
 .ob (Gu a0) fun r7=>
 .leaf (r7,(false,()))) (
 .leaf ((r1.1,q5,()),(true,()))))))
def Kd (a0:A7) (a1:YI) (a2:Af):Option (A7×(Bool×Unit)):=(N5 a0 a1 a2).val
def Uv (a0:A7) (a1:YI) (a2:Af):Tree (A7×(Bool×Unit)):=
 .ob (J8 a0) fun r1=>
 .ob (La a0) fun r2=>
 .br (!r2.1) (
 .leaf (r1,(false,()))) (
 .ob (Bc a1 ((0:Int),()) ((i64.wrap ((a0.2.1.length:Int)-(1:Int))),())) fun r3=>
 .br (!r3.1) (
 .leaf (r1,(false,()))) (
 .ob (H7 a2) fun r4=>
 .ob (idx r1.2.1 a1.1) fun e5=>
 let q6:=(r1.2.1.set (a1.1).toNat r4)
 .ob (La (r1.1,q6,())) fun r7=>
 .br (!r7.1) (
 .ob (J8 a0) fun r8=>
 .leaf (r8,(false,()))) (
 .leaf ((r1.1,q6,()),(true,())))))
def U5 (a0:A7) (a1:YI) (a2:Af):Option (A7×(Bool×Unit)):=(Uv a0 a1 a2).val
def Afs (a0:YBs) (a1:YBs):Tree ((Bool×Unit)):=
 .leaf ((decide ((Kz a0.1)=(Kz a1.1))),())
def Iv (a0:YBs) (a1:YBs):Option ((Bool×Unit)):=(Afs a0 a1).val
def Fo (x1:(List YI)×(List YI)×Int×Unit):Option (((List YI)×(List YI)×Int×Unit)⊕((Bool×Unit)⊕(Unit))):=
 Tree.val (α:=((List YI)×(List YI)×Int×Unit)⊕((Bool×Unit)⊕(Unit))) <|
 .br (decide (x1.2.2.1<(x1.1.length:Int))) (
 .ob (idx x1.1 x1.2.2.1) fun e2=>
 .ob (idx x1.2.1 x1.2.2.1) fun e3=>
 .br (e2.1 != e3.1) (
 .leaf (.inr (.inl (false,())))) (
 .leaf (.inl (x1.1,x1.2.1,(i64.wrap (x1.2.2.1+(1:Int))),())))) (
 .leaf (.inr (.inr ())))
def Q9 (a0:(List YI)×Unit) (a1:(List YI)×Unit):Tree ((Bool×Unit)):=
 .br ((a0.1.length:Int) != (a1.1.length:Int)) (
 .leaf (false,())) (
 .ob (As Fo (a0.1,a1.1,(0:Int),())) fun o4=>
 .sm o4 (fun o5=>
 .leaf o5) (fun o6=>
 .leaf (true,())))
def Ro (a0:(List YI)×Unit) (a1:(List YI)×Unit):Option ((Bool×Unit)):=(Q9 a0 a1).val
def Uw (a0:Bs) (a1:Bs):Tree ((Bool×Unit)):=
 .br (a0.1==a1.1) (
 .ob (Ro (a0.2.1,()) (a1.2.1,())) fun r1=>
 .leaf r1) (
 .leaf (false,()))
def U6 (a0:Bs) (a1:Bs):Option ((Bool×Unit)):=(Uw a0 a1).val
def Xl (a0:YEp) (a1:YEp):Tree ((Bool×Unit)):=
 .br (a0.1==a1.1) (
 .ob (Iv (a0.2.1,()) (a1.2.1,())) fun r1=>
 .br r1.1 (
 .br (a0.2.2.1==a1.2.2.1) (
 .ob (U6 (a0.2.2.2.1,a0.2.2.2.2.1,()) (a1.2.2.2.1,a1.2.2.2.2.1,())) fun r2=>
 .leaf r2) (
 .leaf (false,()))) (
 .leaf (false,()))) (
 .leaf (false,()))
def P6 (a0:YEp) (a1:YEp):Option ((Bool×Unit)):=(Xl a0 a1).val
def Ra (a0:Bl) (a1:Bl):Tree ((Bool×Unit)):=
 letI u1:=a0.2.2.2;letI u2:=u1.2.2.2;letI u3:=u2.2.2.2.2;letI u4:=a1.2.2.2;letI u5:=u4.2.2.2;letI u6:=u5.2.2.2.2;.br (a0.1==a1.1) (
 .ob (Iv (a0.2.1,()) (a1.2.1,())) fun r1=>
 .br r1.1 (
 .ob (P6 (a0.2.2.1,u1.1,u1.2.1,u1.2.2.1,u2.1,()) (a1.2.2.1,u4.1,u4.2.1,u4.2.2.1,u5.1,())) fun r2=>
 .br r2.1 (
 .ob (P6 (u2.2.1,u2.2.2.1,u2.2.2.2.1,u3.1,u3.2.1,()) (u5.2.1,u5.2.2.1,u5.2.2.2.1,u6.1,u6.2.1,())) fun r3=>
 .br r3.1 (
 .br (u3.2.2.1==u6.2.2.1) (
 .br (u3.2.2.2.1==u6.2.2.2.1) (
 .ob (Iv (u3.2.2.2.2.1,()) (u6.2.2.2.2.1,())) fun r4=>
 .leaf r4) (
 .leaf (false,()))) (
 .leaf (false,()))) (
 .leaf (false,()))) (
 .leaf (false,()))) (
 .leaf (false,()))) (
 .leaf (false,()))
def Mg (a0:Bl) (a1:Bl):Option ((Bool×Unit)):=(Ra a0 a1).val
def E7 (x1:Int×Int×Int×(List Aj)×Int×Int×(List Aj)×Unit):Option ((Int×Int×Int×(List Aj)×Int×Int×(List Aj)×Unit)⊕((Bool×Unit)⊕(Unit))):=
 letI u1:=x1.2.2.2;letI u2:=u1.2.2.2;Tree.val (α:=(Int×Int×Int×(List Aj)×Int×Int×(List Aj)×Unit)⊕((Bool×Unit)⊕(Unit))) <|
 .br (decide (x1.1<(x1.2.2.2.1.length:Int))) (
 .ob (idx u1.1 x1.1) fun e2=>
 .ob (idx u2.1 x1.1) fun e3=>
 .br (!(and (e2.1==e3.1) (and (e2.2.1==e3.2.1) true))) (
 .leaf (.inr (.inl (false,())))) (
 .ob (idx u1.1 x1.1) fun e4=>
 .ob (idx u2.1 x1.1) fun e5=>
 .ob (Iv (e4.2.2.1,()) (e5.2.2.1,())) fun r6=>
 .br (!r6.1) (
 .leaf (.inr (.inl (false,())))) (
 .ob (idx u1.1 x1.1) fun e7=>
 .ob (idx u2.1 x1.1) fun e8=>
 .br (e7.2.2.2.1 != e8.2.2.2.1) (
 .leaf (.inr (.inl (false,())))) (
 .leaf (.inl ((i64.wrap (x1.1+(1:Int))),x1.2.1,x1.2.2.1,u1.1,u1.2.1,u1.2.2.1,u2.1,())))))) (
 .leaf (.inr (.inr ())))
def Pd (a0:A4) (a1:A4):Tree ((Bool×Unit)):=
 .br (!(and (a0.1==a1.1) (and (a0.2.1==a1.2.1) true))) (
 .leaf (false,())) (
 .br ((a0.2.2.1.length:Int) != (a1.2.2.1.length:Int)) (
 .leaf (false,())) (
 .ob (As E7 ((0:Int),a0.1,a0.2.1,a0.2.2.1,a1.1,a1.2.1,a1.2.2.1,())) fun o9=>
 .sm o9 (fun o10=>
 .leaf o10) (fun o11=>
 .leaf (true,()))))
def Kr (a0:A4) (a1:A4):Option ((Bool×Unit)):=(Pd a0 a1).val
def Rb (a0:Af) (a1:Af):Tree ((Bool×Unit)):=
 letI u1:=a0.2.2.2;letI u2:=u1.2.2.2;letI u3:=u2.2.2.2;letI u4:=u3.2.2.2;letI u5:=u4.2.2.2;letI u6:=u5.2.2.2.2;letI u7:=a1.2.2.2;letI u8:=u7.2.2.2;letI u9:=u8.2.2.2;letI u10:=u9.2.2.2;letI u11:=u10.2.2.2;letI u12:=u11.2.2.2.2;.br (a0.1==a1.1) (
 .ob (Iv (a0.2.1,()) (a1.2.1,())) fun r1=>
 .br r1.1 (
 .ob (Iv (a0.2.2.1,()) (a1.2.2.1,())) fun r2=>
 .br r2.1 (
 .ob (Mg (u1.1,u1.2.1,u1.2.2.1,u2.1,u2.2.1,u2.2.2.1,u3.1,u3.2.1,u3.2.2.1,u4.1,u4.2.1,u4.2.2.1,u5.1,u5.2.1,u5.2.2.1,()) (u7.1,u7.2.1,u7.2.2.1,u8.1,u8.2.1,u8.2.2.1,u9.1,u9.2.1,u9.2.2.1,u10.1,u10.2.1,u10.2.2.1,u11.1,u11.2.1,u11.2.2.1,())) fun r3=>
 .br r3.1 (
 .ob (Kr (u5.2.2.2.1,u6.1,u6.2.1,()) (u11.2.2.2.1,u12.1,u12.2.1,())) fun r4=>
 .br r4.1 (
 .br (u6.2.2.1==u12.2.2.1) (
 .br (u6.2.2.2.1==u12.2.2.2.1) (
 .leaf ((u6.2.2.2.2.1==u12.2.2.2.2.1),())) (
 .leaf (false,()))) (
 .leaf (false,()))) (
 .leaf (false,()))) (
 .leaf (false,()))) (
 .leaf (false,()))) (
 .leaf (false,()))) (
 .leaf (false,()))
def Rp (a0:Af) (a1:Af):Option ((Bool×Unit)):=(Rb a0 a1).val
def F8 (x1:Int×Int×(List Af)×Int×(List Af)×Unit):Option ((Int×Int×(List Af)×Int×(List Af)×Unit)⊕((Bool×Unit)⊕(Unit))):=
 letI u1:=x1.2.2;Tree.val (α:=(Int×Int×(List Af)×Int×(List Af)×Unit)⊕((Bool×Unit)⊕(Unit))) <|
 .br (decide (x1.1<(x1.2.2.1.length:Int))) (
 .ob (idx u1.1 x1.1) fun e2=>
 .ob (idx u1.2.2.1 x1.1) fun e3=>
 .ob (Rp e2 e3) fun r4=>
 .br (!r4.1) (
 .leaf (.inr (.inl (false,())))) (
 .leaf (.inl ((i64.wrap (x1.1+(1:Int))),x1.2.1,u1.1,u1.2.1,u1.2.2.1,())))) (
 .leaf (.inr (.inr ())))
def Ux (a0:A7) (a1:A7):Tree ((Bool×Unit)):=
 .br (a0.1 != a1.1) (
 .leaf (false,())) (
 .br ((a0.2.1.length:Int) != (a1.2.1.length:Int)) (
 .leaf (false,())) (
 .ob (As F8 ((0:Int),a0.1,a0.2.1,a1.1,a1.2.1,())) fun o5=>
 .sm o5 (fun o6=>
 .leaf o6) (fun o7=>
 .leaf (true,()))))
def Gv (a0:A7) (a1:A7):Option ((Bool×Unit)):=(Ux a0 a1).val
def Ir (a0:YBs):Tree ((Bool×Unit)):=
 .ob (Arc a0) fun r1=>
 .br r1.1 (
 .leaf (true,())) (
 .ob (L9 a0) fun r2=>letI u1:=r2.2.2.2;
 .ob (Kc r2.1 r2.2) fun r3=>
 .ob (Ka r2.1 r2.2) fun r4=>
 .ob (Md a0) fun r5=>
 .ob (U4 r5.1 r5.2) fun r6=>
 .ob (Mf a0) fun r7=>letI u2:=r7.2.2.2.2;
 .ob (Kd r7.1 r7.2.1 r7.2.2) fun r8=>
 .ob (U5 r7.1 r7.2.1 r7.2.2) fun r9=>
 .br (r3.2.1 != r4.2.1) (
 .leaf (false,())) (
 .br (!(r8.2.1==r9.2.1)) (
 .leaf (false,())) (
 .ob (Al r2.1) fun r10=>
 .ob (La r2.1) fun r11=>
 .br (!(r10.1==r11.1)) (
 .leaf (false,())) (
 .br (r3.2.1 != (0:Int)) (
 .ob (Gv r3.1 r2.1) fun r12=>
 .br (!r12.1) (
 .leaf (false,())) (
 .br (!r8.2.1) (
 .ob (Gv r8.1 r7.1) fun r13=>
 .br (!r13.1) (
 .leaf (false,())) (
 .br (r3.2.1==(0:Int)) (
 .ob (Al r3.1) fun r14=>
 .br (!r14.1) (
 .leaf (false,())) (
 .ob (Aq r3.1) fun r15=>
 .ob (Aq r2.1) fun r16=>
 .br (r15.1 != (i64.wrap (r16.1+(1:Int)))) (
 .leaf (false,())) (
 .ob (Cg r3.1 (u1.1,())) fun r17=>
 .br (r17.1 != (r2.1.2.1.length:Int)) (
 .leaf (false,())) (
 .br r8.2.1 (
 .ob (Al r8.1) fun r18=>
 .br (!r18.1) (
 .leaf (false,())) (
 .ob (Cg r8.1 (u2.1,())) fun r19=>
 .br (r19.1 != r7.2.1.1) (
 .leaf (false,())) (
 .ob (Al r5.1) fun r20=>
 .br r20.1 (
 .ob (Al r6) fun r21=>
 .br (!r21.1) (
 .leaf (false,())) (
 .ob (Aq r6) fun r22=>
 .ob (Aq r5.1) fun r23=>
 .br (decide (r22.1>r23.1)) (
 .leaf (false,())) (
 .ob (Al r2.1) fun r24=>
 .br (!r24.1) (
 .leaf (true,())) (
 .ob (Aq r2.1) fun r25=>
 .br (decide (r25.1<r2.1.1)) (
 .leaf (true,())) (
 .leaf ((r3.2.1 != (0:Int)),())))))) (
 .ob (Al r2.1) fun r26=>
 .br (!r26.1) (
 .leaf (true,())) (
 .ob (Aq r2.1) fun r27=>
 .br (decide (r27.1<r2.1.1)) (
 .leaf (true,())) (
 .leaf ((r3.2.1 != (0:Int)),()))))))) (
 .ob (Al r5.1) fun r28=>
 .br r28.1 (
 .ob (Al r6) fun r29=>
 .br (!r29.1) (
 .leaf (false,())) (
 .ob (Aq r6) fun r30=>
 .ob (Aq r5.1) fun r31=>
 .br (decide (r30.1>r31.1)) (
 .leaf (false,())) (
 .ob (Al r2.1) fun r32=>
 .br (!r32.1) (
 .leaf (true,())) (
 .ob (Aq r2.1) fun r33=>
 .br (decide (r33.1<r2.1.1)) (
 .leaf (true,())) (
 .leaf ((r3.2.1 != (0:Int)),())))))) (
 .ob (Al r2.1) fun r34=>
 .br (!r34.1) (
 .leaf (true,())) (
 .ob (Aq r2.1) fun r35=>
 .br (decide (r35.1<r2.1.1)) (
 .leaf (true,())) (
 .leaf ((r3.2.1 != (0:Int)),()))))))))) (
 .br r8.2.1 (
 .ob (Al r8.1) fun r36=>
 .br (!r36.1) (
 .leaf (false,())) (
 .ob (Cg r8.1 (u2.1,())) fun r37=>
 .br (r37.1 != r7.2.1.1) (
 .leaf (false,())) (
 .ob (Al r5.1) fun r38=>
 .br r38.1 (
 .ob (Al r6) fun r39=>
 .br (!r39.1) (
 .leaf (false,())) (
 .ob (Aq r6) fun r40=>
 .ob (Aq r5.1) fun r41=>
 .br (decide (r40.1>r41.1)) (
 .leaf (false,())) (
 .ob (Al r2.1) fun r42=>
 .br (!r42.1) (
 .leaf (true,())) (
 .ob (Aq r2.1) fun r43=>
 .br (decide (r43.1<r2.1.1)) (
 .leaf (true,())) (
 .leaf ((r3.2.1 != (0:Int)),())))))) (
 .ob (Al r2.1) fun r44=>
 .br (!r44.1) (
 .leaf (true,())) (
 .ob (Aq r2.1) fun r45=>
 .br (decide (r45.1<r2.1.1)) (
 .leaf (true,())) (
 .leaf ((r3.2.1 != (0:Int)),()))))))) (
 .ob (Al r5.1) fun r46=>
 .br r46.1 (
 .ob (Al r6) fun r47=>
 .br (!r47.1) (
 .leaf (false,())) (
 .ob (Aq r6) fun r48=>
 .ob (Aq r5.1) fun r49=>
 .br (decide (r48.1>r49.1)) (
 .leaf (false,())) (
 .ob (Al r2.1) fun r50=>
 .br (!r50.1) (
 .leaf (true,())) (
 .ob (Aq r2.1) fun r51=>
 .br (decide (r51.1<r2.1.1)) (
 .leaf (true,())) (
 .leaf ((r3.2.1 != (0:Int)),())))))) (
 .ob (Al r2.1) fun r52=>
 .br (!r52.1) (
 .leaf (true,())) (
 .ob (Aq r2.1) fun r53=>
 .br (decide (r53.1<r2.1.1)) (
 .leaf (true,())) (
 .leaf ((r3.2.1 != (0:Int)),())))))))) (
 .br (r3.2.1==(0:Int)) (
 .ob (Al r3.1) fun r54=>
 .br (!r54.1) (
 .leaf (false,())) (
 .ob (Aq r3.1) fun r55=>
 .ob (Aq r2.1) fun r56=>
 .br (r55.1 != (i64.wrap (r56.1+(1:Int)))) (
 .leaf (false,())) (
 .ob (Cg r3.1 (u1.1,())) fun r57=>
 .br (r57.1 != (r2.1.2.1.length:Int)) (
 .leaf (false,())) (
 .br r8.2.1 (
 .ob (Al r8.1) fun r58=>
 .br (!r58.1) (
 .leaf (false,())) (
 .ob (Cg r8.1 (u2.1,())) fun r59=>
 .br (r59.1 != r7.2.1.1) (
 .leaf (false,())) (
 .ob (Al r5.1) fun r60=>
 .br r60.1 (
 .ob (Al r6) fun r61=>
 .br (!r61.1) (
 .leaf (false,())) (
 .ob (Aq r6) fun r62=>
 .ob (Aq r5.1) fun r63=>
 .br (decide (r62.1>r63.1)) (
 .leaf (false,())) (
 .ob (Al r2.1) fun r64=>
 .br (!r64.1) (
 .leaf (true,())) (
 .ob (Aq r2.1) fun r65=>
 .br (decide (r65.1<r2.1.1)) (
 .leaf (true,())) (
 .leaf ((r3.2.1 != (0:Int)),())))))) (
 .ob (Al r2.1) fun r66=>
 .br (!r66.1) (
 .leaf (true,())) (
 .ob (Aq r2.1) fun r67=>
 .br (decide (r67.1<r2.1.1)) (
 .leaf (true,())) (
 .leaf ((r3.2.1 != (0:Int)),()))))))) (
 .ob (Al r5.1) fun r68=>
 .br r68.1 (
 .ob (Al r6) fun r69=>
 .br (!r69.1) (
 .leaf (false,())) (
 .ob (Aq r6) fun r70=>
 .ob (Aq r5.1) fun r71=>
 .br (decide (r70.1>r71.1)) (
 .leaf (false,())) (
 .ob (Al r2.1) fun r72=>
 .br (!r72.1) (
 .leaf (true,())) (
 .ob (Aq r2.1) fun r73=>
 .br (decide (r73.1<r2.1.1)) (
 .leaf (true,())) (
 .leaf ((r3.2.1 != (0:Int)),())))))) (
 .ob (Al r2.1) fun r74=>
 .br (!r74.1) (
 .leaf (true,())) (
 .ob (Aq r2.1) fun r75=>
 .br (decide (r75.1<r2.1.1)) (
 .leaf (true,())) (
 .leaf ((r3.2.1 != (0:Int)),()))))))))) (
 .br r8.2.1 (
 .ob (Al r8.1) fun r76=>
 .br (!r76.1) (
 .leaf (false,())) (
 .ob (Cg r8.1 (u2.1,())) fun r77=>
 .br (r77.1 != r7.2.1.1) (
 .leaf (false,())) (
 .ob (Al r5.1) fun r78=>
 .br r78.1 (
 .ob (Al r6) fun r79=>
 .br (!r79.1) (
 .leaf (false,())) (
 .ob (Aq r6) fun r80=>
 .ob (Aq r5.1) fun r81=>
 .br (decide (r80.1>r81.1)) (
 .leaf (false,())) (
 .ob (Al r2.1) fun r82=>
 .br (!r82.1) (
 .leaf (true,())) (
 .ob (Aq r2.1) fun r83=>
 .br (decide (r83.1<r2.1.1)) (
 .leaf (true,())) (
 .leaf ((r3.2.1 != (0:Int)),())))))) (
 .ob (Al r2.1) fun r84=>
 .br (!r84.1) (
 .leaf (true,())) (
 .ob (Aq r2.1) fun r85=>
 .br (decide (r85.1<r2.1.1)) (
 .leaf (true,())) (
 .leaf ((r3.2.1 != (0:Int)),()))))))) (
 .ob (Al r5.1) fun r86=>
 .br r86.1 (
 .ob (Al r6) fun r87=>
 .br (!r87.1) (
 .leaf (false,())) (
 .ob (Aq r6) fun r88=>
 .ob (Aq r5.1) fun r89=>
 .br (decide (r88.1>r89.1)) (
 .leaf (false,())) (
 .ob (Al r2.1) fun r90=>
 .br (!r90.1) (
 .leaf (true,())) (
 .ob (Aq r2.1) fun r91=>
 .br (decide (r91.1<r2.1.1)) (
 .leaf (true,())) (
 .leaf ((r3.2.1 != (0:Int)),())))))) (
 .ob (Al r2.1) fun r92=>
 .br (!r92.1) (
 .leaf (true,())) (
 .ob (Aq r2.1) fun r93=>
 .br (decide (r93.1<r2.1.1)) (
 .leaf (true,())) (
 .leaf ((r3.2.1 != (0:Int)),()))))))))) (
 .br (!r8.2.1) (
 .ob (Gv r8.1 r7.1) fun r94=>
 .br (!r94.1) (
 .leaf (false,())) (
 .br (r3.2.1==(0:Int)) (
 .ob (Al r3.1) fun r95=>
 .br (!r95.1) (
 .leaf (false,())) (
 .ob (Aq r3.1) fun r96=>
 .ob (Aq r2.1) fun r97=>
 .br (r96.1 != (i64.wrap (r97.1+(1:Int)))) (
 .leaf (false,())) (
 .ob (Cg r3.1 (u1.1,())) fun r98=>
 .br (r98.1 != (r2.1.2.1.length:Int)) (
 .leaf (false,())) (
 .br r8.2.1 (
 .ob (Al r8.1) fun r99=>
 .br (!r99.1) (
 .leaf (false,())) (
 .ob (Cg r8.1 (u2.1,())) fun r100=>
 .br (r100.1 != r7.2.1.1) (
 .leaf (false,())) (
 .ob (Al r5.1) fun r101=>
 .br r101.1 (
 .ob (Al r6) fun r102=>
 .br (!r102.1) (
 .leaf (false,())) (
 .ob (Aq r6) fun r103=>
 .ob (Aq r5.1) fun r104=>
 .br (decide (r103.1>r104.1)) (
 .leaf (false,())) (
 .ob (Al r2.1) fun r105=>
 .br (!r105.1) (
 .leaf (true,())) (
 .ob (Aq r2.1) fun r106=>
 .br (decide (r106.1<r2.1.1)) (
 .leaf (true,())) (
 .leaf ((r3.2.1 != (0:Int)),())))))) (
 .ob (Al r2.1) fun r107=>
 .br (!r107.1) (
 .leaf (true,())) (
 .ob (Aq r2.1) fun r108=>
 .br (decide (r108.1<r2.1.1)) (
 .leaf (true,())) (
 .leaf ((r3.2.1 != (0:Int)),()))))))) (
 .ob (Al r5.1) fun r109=>
 .br r109.1 (
 .ob (Al r6) fun r110=>
 .br (!r110.1) (
 .leaf (false,())) (
 .ob (Aq r6) fun r111=>
 .ob (Aq r5.1) fun r112=>
 .br (decide (r111.1>r112.1)) (
 .leaf (false,())) (
 .ob (Al r2.1) fun r113=>
 .br (!r113.1) (
 .leaf (true,())) (
 .ob (Aq r2.1) fun r114=>
 .br (decide (r114.1<r2.1.1)) (
 .leaf (true,())) (
 .leaf ((r3.2.1 != (0:Int)),())))))) (
 .ob (Al r2.1) fun r115=>
 .br (!r115.1) (
 .leaf (true,())) (
 .ob (Aq r2.1) fun r116=>
 .br (decide (r116.1<r2.1.1)) (
 .leaf (true,())) (
 .leaf ((r3.2.1 != (0:Int)),()))))))))) (
 .br r8.2.1 (
 .ob (Al r8.1) fun r117=>
 .br (!r117.1) (
 .leaf (false,())) (
 .ob (Cg r8.1 (u2.1,())) fun r118=>
 .br (r118.1 != r7.2.1.1) (
 .leaf (false,())) (
 .ob (Al r5.1) fun r119=>
 .br r119.1 (
 .ob (Al r6) fun r120=>
 .br (!r120.1) (
 .leaf (false,())) (
 .ob (Aq r6) fun r121=>
 .ob (Aq r5.1) fun r122=>
 .br (decide (r121.1>r122.1)) (
 .leaf (false,())) (
 .ob (Al r2.1) fun r123=>
 .br (!r123.1) (
 .leaf (true,())) (
 .ob (Aq r2.1) fun r124=>
 .br (decide (r124.1<r2.1.1)) (
 .leaf (true,())) (
 .leaf ((r3.2.1 != (0:Int)),())))))) (
 .ob (Al r2.1) fun r125=>
 .br (!r125.1) (
 .leaf (true,())) (
 .ob (Aq r2.1) fun r126=>
 .br (decide (r126.1<r2.1.1)) (
 .leaf (true,())) (
 .leaf ((r3.2.1 != (0:Int)),()))))))) (
 .ob (Al r5.1) fun r127=>
 .br r127.1 (
 .ob (Al r6) fun r128=>
 .br (!r128.1) (
 .leaf (false,())) (
 .ob (Aq r6) fun r129=>
 .ob (Aq r5.1) fun r130=>
 .br (decide (r129.1>r130.1)) (
 .leaf (false,())) (
 .ob (Al r2.1) fun r131=>
 .br (!r131.1) (
 .leaf (true,())) (
 .ob (Aq r2.1) fun r132=>
 .br (decide (r132.1<r2.1.1)) (
 .leaf (true,())) (
 .leaf ((r3.2.1 != (0:Int)),())))))) (
 .ob (Al r2.1) fun r133=>
 .br (!r133.1) (
 .leaf (true,())) (
 .ob (Aq r2.1) fun r134=>
 .br (decide (r134.1<r2.1.1)) (
 .leaf (true,())) (
 .leaf ((r3.2.1 != (0:Int)),())))))))) (
 .br (r3.2.1==(0:Int)) (
 .ob (Al r3.1) fun r135=>
 .br (!r135.1) (
 .leaf (false,())) (
 .ob (Aq r3.1) fun r136=>
 .ob (Aq r2.1) fun r137=>
 .br (r136.1 != (i64.wrap (r137.1+(1:Int)))) (
 .leaf (false,())) (
 .ob (Cg r3.1 (u1.1,())) fun r138=>
 .br (r138.1 != (r2.1.2.1.length:Int)) (
 .leaf (false,())) (
 .br r8.2.1 (
 .ob (Al r8.1) fun r139=>
 .br (!r139.1) (
 .leaf (false,())) (
 .ob (Cg r8.1 (u2.1,())) fun r140=>
 .br (r140.1 != r7.2.1.1) (
 .leaf (false,())) (
 .ob (Al r5.1) fun r141=>
 .br r141.1 (
 .ob (Al r6) fun r142=>
 .br (!r142.1) (
 .leaf (false,())) (
 .ob (Aq r6) fun r143=>
 .ob (Aq r5.1) fun r144=>
 .br (decide (r143.1>r144.1)) (
 .leaf (false,())) (
 .ob (Al r2.1) fun r145=>
 .br (!r145.1) (
 .leaf (true,())) (
 .ob (Aq r2.1) fun r146=>
 .br (decide (r146.1<r2.1.1)) (
 .leaf (true,())) (
 .leaf ((r3.2.1 != (0:Int)),())))))) (
 .ob (Al r2.1) fun r147=>
 .br (!r147.1) (
 .leaf (true,())) (
 .ob (Aq r2.1) fun r148=>
 .br (decide (r148.1<r2.1.1)) (
 .leaf (true,())) (
 .leaf ((r3.2.1 != (0:Int)),()))))))) (
 .ob (Al r5.1) fun r149=>
 .br r149.1 (
 .ob (Al r6) fun r150=>
 .br (!r150.1) (
 .leaf (false,())) (
 .ob (Aq r6) fun r151=>
 .ob (Aq r5.1) fun r152=>
 .br (decide (r151.1>r152.1)) (
 .leaf (false,())) (
 .ob (Al r2.1) fun r153=>
 .br (!r153.1) (
 .leaf (true,())) (
 .ob (Aq r2.1) fun r154=>
 .br (decide (r154.1<r2.1.1)) (
 .leaf (true,())) (
 .leaf ((r3.2.1 != (0:Int)),())))))) (
 .ob (Al r2.1) fun r155=>
 .br (!r155.1) (
 .leaf (true,())) (
 .ob (Aq r2.1) fun r156=>
 .br (decide (r156.1<r2.1.1)) (
 .leaf (true,())) (
 .leaf ((r3.2.1 != (0:Int)),()))))))))) (
 .br r8.2.1 (
 .ob (Al r8.1) fun r157=>
 .br (!r157.1) (
 .leaf (false,())) (
 .ob (Cg r8.1 (u2.1,())) fun r158=>
 .br (r158.1 != r7.2.1.1) (
 .leaf (false,())) (
 .ob (Al r5.1) fun r159=>
 .br r159.1 (
 .ob (Al r6) fun r160=>
 .br (!r160.1) (
 .leaf (false,())) (
 .ob (Aq r6) fun r161=>
 .ob (Aq r5.1) fun r162=>
 .br (decide (r161.1>r162.1)) (
 .leaf (false,())) (
 .ob (Al r2.1) fun r163=>
 .br (!r163.1) (
 .leaf (true,())) (
 .ob (Aq r2.1) fun r164=>
 .br (decide (r164.1<r2.1.1)) (
 .leaf (true,())) (
 .leaf ((r3.2.1 != (0:Int)),())))))) (
 .ob (Al r2.1) fun r165=>
 .br (!r165.1) (
 .leaf (true,())) (
 .ob (Aq r2.1) fun r166=>
 .br (decide (r166.1<r2.1.1)) (
 .leaf (true,())) (
 .leaf ((r3.2.1 != (0:Int)),()))))))) (
 .ob (Al r5.1) fun r167=>
 .br r167.1 (
 .ob (Al r6) fun r168=>
 .br (!r168.1) (
 .leaf (false,())) (
 .ob (Aq r6) fun r169=>
 .ob (Aq r5.1) fun r170=>
 .br (decide (r169.1>r170.1)) (
 .leaf (false,())) (
 .ob (Al r2.1) fun r171=>
 .br (!r171.1) (
 .leaf (true,())) (
 .ob (Aq r2.1) fun r172=>
 .br (decide (r172.1<r2.1.1)) (
 .leaf (true,())) (
 .leaf ((r3.2.1 != (0:Int)),())))))) (
 .ob (Al r2.1) fun r173=>
 .br (!r173.1) (
 .leaf (true,())) (
 .ob (Aq r2.1) fun r174=>
 .br (decide (r174.1<r2.1.1)) (
 .leaf (true,())) (
 .leaf ((r3.2.1 != (0:Int)),()))))))))))))
def Aci (a0:YBs):Option ((Bool×Unit)):=(Ir a0).val
def Aso (x1:Int×(List YB)×Int×Unit):Option ((Int×(List YB)×Int×Unit)⊕(YBs)):=
 letI u1:=x1.2.2;Tree.val (α:=(Int×(List YB)×Int×Unit)⊕(YBs)) <|
 .br (decide (u1.1≥(0:Int))) (
 .chk (decide ((0:Int)≤(i64.wrap ((8:Int)*u1.1)))) <|
 .chk (decide (x1.2.1.length+[((u8.wrap ((i64.wrap ((BitVec.ofInt (i64.bits) ((Int.fdiv x1.1 (2^(min ((i64.wrap ((8:Int)*u1.1))).toNat i64.bits)))) &&& BitVec.ofInt (i64.bits) ((255:Int))).toNat:Nat)))),())].length≤4294967296)) <|
 .leaf (.inl (x1.1,(x1.2.1++[((u8.wrap ((i64.wrap ((BitVec.ofInt (i64.bits) ((Int.fdiv x1.1 (2^(min ((i64.wrap ((8:Int)*u1.1))).toNat i64.bits)))) &&& BitVec.ofInt (i64.bits) ((255:Int))).toNat:Nat)))),())]),(i64.wrap (u1.1-(1:Int))),()))) (
 .leaf (.inr (x1.2.1,())))
def Awi (a0:YBs) (a1:YI) (a2:YI):Tree (YBs):=
 .chk (decide (([]:List YB).length+a0.1.length≤4294967296)) <|
 .br (decide (a2.1<(1:Int))) (
 .leaf ((([]:List YB)++a0.1),())) (
 .br (decide (a2.1>(6:Int))) (
 .leaf ((([]:List YB)++a0.1),())) (
 .ob (As Aso (a1.1,(([]:List YB)++a0.1),(i64.wrap (a2.1-(1:Int))),())) fun o2=>
 .leaf o2))
def Ano (a0:YBs) (a1:YI) (a2:YI):Option (YBs):=(Awi a0 a1 a2).val
def Aul:Tree (((List YI)×Unit)):=
 .leaf ([((1779033703:Int),()),((3144134277:Int),()),((1013904242:Int),()),((2773480762:Int),()),((1359893119:Int),()),((2600822924:Int),()),((528734635:Int),()),((1541459225:Int),())],())
def Aum:Option (((List YI)×Unit)):=(Aul).val
def Aqe:Tree (Je):=
 .ob Aum fun r1=>
 .leaf (r1.1,([]:List YB),(0:Int),())
def Aqf:Option (Je):=(Aqe).val
def Asp (a0:Je):Tree ((Bool×Unit)):=
 .ob (It (a0.1,()) ((8:Int),())) fun r1=>
 .br r1.1 (
 .ob (Bt (a0.2.2.1,()) ((0:Int),()) ((1048576:Int),())) fun r2=>
 .br r2.1 (
 .chk (decide ((0:Int)≤a0.2.2.1)) <|
 .leaf (((a0.2.2.1%(64:Int))==(a0.2.1.length:Int)),())) (
 .leaf (false,()))) (
 .leaf (false,()))
def Ahl (a0:Je):Option ((Bool×Unit)):=(Asp a0).val
def Anp (x1:(List YB)×(List YBs)×Int×Int×Unit):Option (((List YB)×(List YBs)×Int×Int×Unit)⊕(YBs)):=
 letI u1:=x1.2.2;Tree.val (α:=((List YB)×(List YBs)×Int×Int×Unit)⊕(YBs)) <|
 .br (decide (u1.2.1<u1.1)) (
 .ob (idx x1.2.1 u1.2.1) fun e2=>
 .chk (decide (x1.1.length+e2.1.length≤4294967296)) <|
 .leaf (.inl ((x1.1++e2.1),x1.2.1,u1.1,(i64.wrap (u1.2.1+(1:Int))),()))) (
 .leaf (.inr (x1.1,())))
def Asq (a0:(List YBs)×Unit):Tree (YBs):=
 .ob (As Anp (([]:List YB),a0.1,(a0.1.length:Int),(0:Int),())) fun o3=>
 .leaf o3
def Ahm (a0:(List YBs)×Unit):Option (YBs):=(Asq a0).val
def Are (a0:YBs) (a1:YI) (a2:YI):Tree (YBs×(Bool×Unit)):=
 .br (decide (a1.1<(0:Int))) (
 .leaf ((([]:List YB),()),(false,()))) (
 .br (decide (a2.1<(0:Int))) (
 .leaf ((([]:List YB),()),(false,()))) (
 .br (decide (a1.1>(a0.1.length:Int))) (
 .leaf ((([]:List YB),()),(false,()))) (
 .br (decide (a2.1>(i64.wrap ((a0.1.length:Int)-a1.1)))) (
 .leaf ((([]:List YB),()),(false,()))) (
 .chk (decide ((0:Int)≤a1.1)) <|
 .chk (decide (a1.1≤(i64.wrap (a1.1+a2.1)))) <|
 .chk (decide ((i64.wrap (a1.1+a2.1))≤(a0.1.length:Int))) <|
 .chk (decide (([]:List YB).length+((a0.1.take ((i64.wrap (a1.1+a2.1))).toNat).drop (a1.1).toNat).length≤4294967296)) <|
 .leaf (((([]:List YB)++((a0.1.take ((i64.wrap (a1.1+a2.1))).toNat).drop (a1.1).toNat)),()),(true,()))))))
def Aji (a0:YBs) (a1:YI) (a2:YI):Option (YBs×(Bool×Unit)):=(Are a0 a1 a2).val
def Mh (x2:Int×Int×Int×(List YB)×Int×Int×Unit):Option ((Int×Int×Int×(List YB)×Int×Int×Unit)⊕((Int×Int×Int×Unit))):=
 letI u1:=x2.2.2;letI u2:=u1.2.2;Tree.val (α:=(Int×Int×Int×(List YB)×Int×Int×Unit)⊕((Int×Int×Int×Unit))) <|
 .br (decide (u2.2.1<u2.1)) (
 .ob (idx u1.2.1 u2.2.1) fun e3=>
 .leaf (.inl (x2.1,x2.2.1,(i64.wrap ((i64.wrap ((256:Int)*u1.1))+(i64.wrap (e3.1)))),u1.2.1,u2.1,(i64.wrap (u2.2.1+(1:Int))),()))) (
 .leaf (.inr (x2.1,x2.2.1,u1.1,())))
def Anq (a0:YBs) (a1:YI) (a2:YI):Tree (YI×YI×(Bool×Unit)):=
 .br (decide (a2.1<(1:Int))) (
 .leaf (((0:Int),()),((0:Int),()),(false,()))) (
 .br (decide (a2.1>(6:Int))) (
 .leaf (((0:Int),()),((0:Int),()),(false,()))) (
 .ob (Aji a0 a1 a2) fun r1=>
 .br (!r1.2.1) (
 .leaf (((0:Int),()),((0:Int),()),(false,()))) (
 .ob (As Mh (a1.1,a2.1,(0:Int),r1.1.1,(r1.1.1.length:Int),(0:Int),())) fun o4=>
 .leaf ((o4.2.2.1,()),((i64.wrap (o4.1+o4.2.1)),()),(true,())))))
def Afw (a0:YBs) (a1:YI) (a2:YI):Option (YI×YI×(Bool×Unit)):=(Anq a0 a1 a2).val
def Arf (a0:YI) (a1:YI):Tree (YI):=
 .br (decide (a1.1<(0:Int))) (
 .leaf ((i64.wrap ((BitVec.ofInt (i64.bits) (a0.1) &&& BitVec.ofInt (i64.bits) ((4294967295:Int))).toNat:Nat)),())) (
 .br (decide (a1.1>(31:Int))) (
 .leaf ((i64.wrap ((BitVec.ofInt (i64.bits) (a0.1) &&& BitVec.ofInt (i64.bits) ((4294967295:Int))).toNat:Nat)),())) (
 .chk (decide ((0:Int)≤a1.1)) <|
 .chk (decide ((0:Int)≤(i64.wrap ((32:Int)-a1.1)))) <|
 .leaf ((i64.wrap ((BitVec.ofInt (i64.bits) ((i64.wrap ((BitVec.ofInt (i64.bits) ((Int.fdiv (i64.wrap ((BitVec.ofInt (i64.bits) (a0.1) &&& BitVec.ofInt (i64.bits) ((4294967295:Int))).toNat:Nat)) (2^(min (a1.1).toNat i64.bits)))) ||| BitVec.ofInt (i64.bits) ((i64.wrap ((i64.wrap ((BitVec.ofInt (i64.bits) (a0.1) &&& BitVec.ofInt (i64.bits) ((4294967295:Int))).toNat:Nat))*2^(min ((i64.wrap ((32:Int)-a1.1))).toNat i64.bits))))).toNat:Nat))) &&& BitVec.ofInt (i64.bits) ((4294967295:Int))).toNat:Nat)),())))
def Ga (a0:YI) (a1:YI):Option (YI):=(Arf a0 a1).val
def Jg (x1:(List YB)×(List YI)×Int×Unit):Option (((List YB)×(List YI)×Int×Unit)⊕(((List YI)×Unit))):=
 letI u1:=x1.2.2;Tree.val (α:=((List YB)×(List YI)×Int×Unit)⊕(((List YI)×Unit))) <|
 .br (decide (u1.1<(16:Int))) (
 .ob (Afw (x1.1,()) ((i64.wrap ((4:Int)*u1.1)),()) ((4:Int),())) fun r2=>
 .ob (idx x1.2.1 u1.1) fun e3=>
 let q4:=(x1.2.1.set (u1.1).toNat r2.1)
 .leaf (.inl (x1.1,q4,(i64.wrap (u1.1+(1:Int))),()))) (
 .leaf (.inr (x1.2.1,())))
def Jh (x6:(List YI)×Int×Unit):Option (((List YI)×Int×Unit)⊕(((List YI)×Unit))):=
 Tree.val (α:=((List YI)×Int×Unit)⊕(((List YI)×Unit))) <|
 .br (decide (x6.2.1<(64:Int))) (
 .ob (idx x6.1 (i64.wrap (x6.2.1-(15:Int)))) fun e7=>
 .ob (idx x6.1 (i64.wrap (x6.2.1-(2:Int)))) fun e8=>
 .ob (Ga e7 ((7:Int),())) fun r9=>
 .ob (Ga e7 ((18:Int),())) fun r10=>
 .ob (Ga e8 ((17:Int),())) fun r11=>
 .ob (Ga e8 ((19:Int),())) fun r12=>
 .ob (idx x6.1 (i64.wrap (x6.2.1-(7:Int)))) fun e13=>
 .ob (idx x6.1 (i64.wrap (x6.2.1-(16:Int)))) fun e14=>
 .ob (idx x6.1 x6.2.1) fun e15=>
 let q16:=(x6.1.set (x6.2.1).toNat ((i64.wrap ((BitVec.ofInt (i64.bits) ((i64.wrap ((i64.wrap ((i64.wrap (e13.1+e14.1))+(i64.wrap ((BitVec.ofInt (i64.bits) ((i64.wrap ((BitVec.ofInt (i64.bits) (r9.1) ^^^ BitVec.ofInt (i64.bits) (r10.1)).toNat:Nat))) ^^^ BitVec.ofInt (i64.bits) ((Int.fdiv e7.1 (2^(min ((3:Int)).toNat i64.bits))))).toNat:Nat))))+(i64.wrap ((BitVec.ofInt (i64.bits) ((i64.wrap ((BitVec.ofInt (i64.bits) (r11.1) ^^^ BitVec.ofInt (i64.bits) (r12.1)).toNat:Nat))) ^^^ BitVec.ofInt (i64.bits) ((Int.fdiv e8.1 (2^(min ((10:Int)).toNat i64.bits))))).toNat:Nat))))) &&& BitVec.ofInt (i64.bits) ((4294967295:Int))).toNat:Nat)),()))
 .leaf (.inl (q16,(i64.wrap (x6.2.1+(1:Int))),()))) (
 .leaf (.inr (x6.1,())))
def Acj (a0:YBs):Tree (((List YI)×Unit)):=
 .br ((a0.1.length:Int) != (64:Int)) (
 .leaf (([]:List YI),())) (
 .ob (As Jg (a0.1,(List.replicate ((64:Int)).toNat ((0:Int),())),(0:Int),())) fun o5=>
 .ob (As Jh (o5.1,(16:Int),())) fun o17=>
 .leaf o17)
def Rq (a0:YBs):Option (((List YI)×Unit)):=(Acj a0).val
def Amn (a0:YI):Tree YI:=.leaf (Ahn a0.1,())
def Aaj (a0:YI):Option YI:=(Amn a0).val
def Aun (a0:YI) (a1:YI):Tree (YI):=
 .leaf ((i64.wrap ((BitVec.ofInt (i64.bits) ((i64.wrap (a0.1+a1.1))) &&& BitVec.ofInt (i64.bits) ((4294967295:Int))).toNat:Nat)),())
def S6 (a0:YI) (a1:YI):Option (YI):=(Aun a0 a1).val
def G7 (x11:(List YI)×(List YI)×(List YI)×Int×Int×Int×Int×Int×Int×Int×Int×Int×Unit):Option (((List YI)×(List YI)×(List YI)×Int×Int×Int×Int×Int×Int×Int×Int×Int×Unit)⊕(((List YI)×(List YI)×Int×Int×Int×Int×Int×Int×Int×Int×Unit))):=
 letI u1:=x11.2.2.2;letI u2:=u1.2.2;letI u3:=u2.2.2;letI u4:=u3.2.2;Tree.val (α:=((List YI)×(List YI)×(List YI)×Int×Int×Int×Int×Int×Int×Int×Int×Int×Unit)⊕(((List YI)×(List YI)×Int×Int×Int×Int×Int×Int×Int×Int×Unit))) <|
 .br (decide (u4.2.2.1<(64:Int))) (
 .ob (Ga (u3.1,()) ((6:Int),())) fun r12=>
 .ob (Ga (u3.1,()) ((11:Int),())) fun r13=>
 .ob (Ga (u3.1,()) ((25:Int),())) fun r14=>
 .ob (Aaj (u4.2.2.1,())) fun r15=>
 .ob (idx x11.2.2.1 u4.2.2.1) fun e16=>
 .ob (Ga (u1.1,()) ((2:Int),())) fun r17=>
 .ob (Ga (u1.1,()) ((13:Int),())) fun r18=>
 .ob (Ga (u1.1,()) ((22:Int),())) fun r19=>
 .ob (S6 (u2.2.1,()) ((i64.wrap ((i64.wrap ((i64.wrap ((i64.wrap (u4.2.1+(i64.wrap ((BitVec.ofInt (i64.bits) ((i64.wrap ((BitVec.ofInt (i64.bits) (r12.1) ^^^ BitVec.ofInt (i64.bits) (r13.1)).toNat:Nat))) ^^^ BitVec.ofInt (i64.bits) (r14.1)).toNat:Nat))))+(i64.wrap ((BitVec.ofInt (i64.bits) ((i64.wrap ((BitVec.ofInt (i64.bits) (u3.1) &&& BitVec.ofInt (i64.bits) (u3.2.1)).toNat:Nat))) ^^^ BitVec.ofInt (i64.bits) ((i64.wrap ((BitVec.ofInt (i64.bits) ((i64.wrap ((BitVec.ofInt (i64.bits) ((4294967295:Int)) ^^^ BitVec.ofInt (i64.bits) (u3.1)).toNat:Nat))) &&& BitVec.ofInt (i64.bits) (u4.1)).toNat:Nat)))).toNat:Nat))))+r15.1))+e16.1)),())) fun r20=>
 .ob (S6 ((i64.wrap ((i64.wrap ((i64.wrap ((i64.wrap (u4.2.1+(i64.wrap ((BitVec.ofInt (i64.bits) ((i64.wrap ((BitVec.ofInt (i64.bits) (r12.1) ^^^ BitVec.ofInt (i64.bits) (r13.1)).toNat:Nat))) ^^^ BitVec.ofInt (i64.bits) (r14.1)).toNat:Nat))))+(i64.wrap ((BitVec.ofInt (i64.bits) ((i64.wrap ((BitVec.ofInt (i64.bits) (u3.1) &&& BitVec.ofInt (i64.bits) (u3.2.1)).toNat:Nat))) ^^^ BitVec.ofInt (i64.bits) ((i64.wrap ((BitVec.ofInt (i64.bits) ((i64.wrap ((BitVec.ofInt (i64.bits) ((4294967295:Int)) ^^^ BitVec.ofInt (i64.bits) (u3.1)).toNat:Nat))) &&& BitVec.ofInt (i64.bits) (u4.1)).toNat:Nat)))).toNat:Nat))))+r15.1))+e16.1)),()) ((i64.wrap ((i64.wrap ((BitVec.ofInt (i64.bits) ((i64.wrap ((BitVec.ofInt (i64.bits) (r17.1) ^^^ BitVec.ofInt (i64.bits) (r18.1)).toNat:Nat))) ^^^ BitVec.ofInt (i64.bits) (r19.1)).toNat:Nat))+(i64.wrap ((BitVec.ofInt (i64.bits) ((i64.wrap ((BitVec.ofInt (i64.bits) ((i64.wrap ((BitVec.ofInt (i64.bits) (u1.1) &&& BitVec.ofInt (i64.bits) (u1.2.1)).toNat:Nat))) ^^^ BitVec.ofInt (i64.bits) ((i64.wrap ((BitVec.ofInt (i64.bits) (u1.1) &&& BitVec.ofInt (i64.bits) (u2.1)).toNat:Nat)))).toNat:Nat))) ^^^ BitVec.ofInt (i64.bits) ((i64.wrap ((BitVec.ofInt (i64.bits) (u1.2.1) &&& BitVec.ofInt (i64.bits) (u2.1)).toNat:Nat)))).toNat:Nat)))),())) fun r21=>
 .leaf (.inl (x11.1,x11.2.1,x11.2.2.1,r21.1,u1.1,u1.2.1,u2.1,r20.1,u3.1,u3.2.1,u4.1,(i64.wrap (u4.2.2.1+(1:Int))),()))) (
 .leaf (.inr (x11.1,x11.2.1,u1.1,u1.2.1,u2.1,u2.2.1,u3.1,u3.2.1,u4.1,u4.2.1,())))
def Gi (x23:(List YI)×(List YI)×(List YI)×Int×Int×Unit):Option (((List YI)×(List YI)×(List YI)×Int×Int×Unit)⊕(((List YI)×Unit))):=
 letI u1:=x23.2.2;letI u2:=u1.2.2;Tree.val (α:=((List YI)×(List YI)×(List YI)×Int×Int×Unit)⊕(((List YI)×Unit))) <|
 .br (decide (u2.1<u1.2.1)) (
 .ob (idx u1.1 u2.1) fun e24=>
 .ob (idx x23.1 u2.1) fun e25=>
 .ob (S6 e25 e24) fun r26=>
 .ob (idx x23.2.1 u2.1) fun e27=>
 let q28:=(x23.2.1.set (u2.1).toNat r26)
 .leaf (.inl (x23.1,q28,u1.1,u1.2.1,(i64.wrap (u2.1+(1:Int))),()))) (
 .leaf (.inr (x23.2.1,())))
def Ack (a0:(List YI)×Unit) (a1:YBs):Tree (((List YI)×Unit)):=
 .chk (decide (([]:List YI).length+a0.1.length≤4294967296)) <|
 .ob (It a0 ((8:Int),())) fun r1=>
 .br (!r1.1) (
 .leaf ((([]:List YI)++a0.1),())) (
 .br ((a1.1.length:Int) != (64:Int)) (
 .leaf ((([]:List YI)++a0.1),())) (
 .ob (Rq a1) fun r2=>
 .ob (idx a0.1 (0:Int)) fun e3=>
 .ob (idx a0.1 (1:Int)) fun e4=>
 .ob (idx a0.1 (2:Int)) fun e5=>
 .ob (idx a0.1 (3:Int)) fun e6=>
 .ob (idx a0.1 (4:Int)) fun e7=>
 .ob (idx a0.1 (5:Int)) fun e8=>
 .ob (idx a0.1 (6:Int)) fun e9=>
 .ob (idx a0.1 (7:Int)) fun e10=>
 .ob (As G7 (a0.1,(([]:List YI)++a0.1),r2.1,e3.1,e4.1,e5.1,e6.1,e7.1,e8.1,e9.1,e10.1,(0:Int),())) fun o22=>letI u1:=o22.2.2;letI u2:=u1.2.2;letI u3:=u2.2.2.2;
 .ob (As Gi (o22.1,o22.2.1,[(u1.1,()),(u1.2.1,()),(u2.1,()),(u2.2.1,()),(u2.2.2.1,()),(u3.1,()),(u3.2.1,()),(u3.2.2.1,())],([(u1.1,()),(u1.2.1,()),(u2.1,()),(u2.2.1,()),(u2.2.2.1,()),(u3.1,()),(u3.2.1,()),(u3.2.2.1,())].length:Int),(0:Int),())) fun o29=>
 .leaf o29))
def Mi (a0:(List YI)×Unit) (a1:YBs):Option (((List YI)×Unit)):=(Ack a0 a1).val
def Ad6 (x3:(List YI)×(List YB)×Unit):Option (((List YI)×(List YB)×Unit)⊕(((List YI)×(List YB)×Unit))):=
 Tree.val (α:=((List YI)×(List YB)×Unit)⊕(((List YI)×(List YB)×Unit))) <|
 .br (decide ((x3.2.1.length:Int)≥(64:Int))) (
 .chk (decide ((64:Int)≤(x3.2.1.length:Int))) <|
 .ob (Mi (x3.1,()) (((x3.2.1.take ((64:Int)).toNat).drop ((0:Int)).toNat),())) fun r4=>
 .chk (decide ((64:Int)≤(x3.2.1.length:Int))) <|
 .chk (decide ((x3.2.1.length:Int)≤(x3.2.1.length:Int))) <|
 .leaf (.inl (r4.1,((x3.2.1.take ((x3.2.1.length:Int)).toNat).drop ((64:Int)).toNat),()))) (
 .leaf (.inr x3))
def Aho (a0:(List YI)×Unit) (a1:YBs):Tree (((List YI)×Unit)×YBs):=
 .ob (As Ad6 (a0.1,a1.1,())) fun o5=>
 .leaf ((o5.1,()),(o5.2.1,()))
def S7 (a0:(List YI)×Unit) (a1:YBs):Option (((List YI)×Unit)×YBs):=(Aho a0 a1).val
def Aqg (a0:Je) (a1:YBs):Tree (Je):=
 .ob (Ahl a0) fun r1=>
 .br (!r1.1) (
 .chk (decide (([]:List YI).length+a0.1.length≤4294967296)) <|
 .ob (C7 (a0.2.1,())) fun r2=>
 .leaf ((([]:List YI)++a0.1),r2.1,a0.2.2.1,())) (
 .br (decide ((a1.1.length:Int)>(i64.wrap ((1048576:Int)-a0.2.2.1)))) (
 .chk (decide (([]:List YI).length+a0.1.length≤4294967296)) <|
 .ob (C7 (a0.2.1,())) fun r3=>
 .leaf ((([]:List YI)++a0.1),r3.1,a0.2.2.1,())) (
 .ob (Ahm ([(a0.2.1,()),a1],())) fun r4=>
 .ob (S7 (a0.1,()) r4) fun r5=>
 .chk (decide (([]:List YI).length+r5.1.1.length≤4294967296)) <|
 .ob (C7 r5.2) fun r6=>
 .leaf ((([]:List YI)++r5.1.1),r6.1,(i64.wrap (a0.2.2.1+(a1.1.length:Int))),())))
def Aqh (a0:Je) (a1:YBs):Option (Je):=(Aqg a0 a1).val
def Lb (x2:Int×(List YB)×Unit):Option ((Int×(List YB)×Unit)⊕((Int×(List YB)×Unit))):=
 Tree.val (α:=(Int×(List YB)×Unit)⊕((Int×(List YB)×Unit))) <|
 .chk (decide ((0:Int)≤(i64.wrap ((i64.wrap (x2.1+(x2.2.1.length:Int)))+(8:Int))))) <|
 .br (((i64.wrap ((i64.wrap (x2.1+(x2.2.1.length:Int)))+(8:Int)))%(64:Int)) != (0:Int)) (
 .chk (decide (x2.2.1.length+[((0:Int),())].length≤4294967296)) <|
 .leaf (.inl (x2.1,(x2.2.1++[((0:Int),())]),()))) (
 .leaf (.inr x2))
def Ax9 (a0:YI):Tree (YBs):=
 .ob (Bt a0 ((0:Int),()) ((1048576:Int),())) fun r1=>
 .br (!r1.1) (
 .leaf (([]:List YB),())) (
 .ob (As Lb (a0.1,[((128:Int),())],())) fun o3=>
 .chk (decide (o3.2.1.length+[((0:Int),()),((0:Int),())].length≤4294967296)) <|
 .ob (Ano ((o3.2.1++[((0:Int),()),((0:Int),())]),()) ((i64.wrap ((8:Int)*o3.1)),()) ((6:Int),())) fun r4=>
 .leaf r4)
def Aya (a0:YI):Option (YBs):=(Ax9 a0).val
def Ahp (x1:(List YB)×(List YI)×Int×Int×Unit):Option (((List YB)×(List YI)×Int×Int×Unit)⊕(YBs)):=
 letI u1:=x1.2.2;Tree.val (α:=((List YB)×(List YI)×Int×Int×Unit)⊕(YBs)) <|
 .br (decide (u1.2.1<u1.1)) (
 .ob (idx x1.2.1 u1.2.1) fun e2=>
 .ob (Ano (x1.1,()) e2 ((4:Int),())) fun r3=>
 .leaf (.inl (r3.1,x1.2.1,u1.1,(i64.wrap (u1.2.1+(1:Int))),()))) (
 .leaf (.inr (x1.1,())))
def Amo (a0:(List YI)×Unit):Tree (YBs):=
 .ob (As Ahp (([]:List YB),a0.1,(a0.1.length:Int),(0:Int),())) fun o4=>
 .leaf o4
def Amp (a0:(List YI)×Unit):Option (YBs):=(Amo a0).val
def Aqi (a0:Je):Tree (YBs):=
 .ob (Ahl a0) fun r1=>
 .br (!r1.1) (
 .leaf (([]:List YB),())) (
 .ob (Aya (a0.2.2.1,())) fun r2=>
 .ob (Ahm ([(a0.2.1,()),r2],())) fun r3=>
 .ob (S7 (a0.1,()) r3) fun r4=>
 .ob (Amp r4.1) fun r5=>
 .leaf r5)
def Aqj (a0:Je):Option (YBs):=(Aqi a0).val
def Ayb (a0:YBs):Tree (YBs):=
 .br (decide ((a0.1.length:Int)>(1048576:Int))) (
 .leaf (([]:List YB),())) (
 .ob Aqf fun r1=>
 .ob (Aqh r1 a0) fun r2=>
 .ob (Aqj r2) fun r3=>
 .leaf r3)
def Ayc (a0:YBs):Option (YBs):=(Ayb a0).val
def En (x3:YBs):Option (YBs⊕(YBs)):=
 Tree.val (α:=YBs⊕(YBs)) <|
 .br (decide ((x3.1.length:Int)<(64:Int))) (
 .chk (decide (x3.1.length+[((0:Int),())].length≤4294967296)) <|
 .leaf (.inl ((x3.1++[((0:Int),())]),()))) (
 .leaf (.inr x3))
def Anr (a0:YBs):Tree (YBs):=
 .br (decide ((a0.1.length:Int)>(1048576:Int))) (
 .leaf (([]:List YB),())) (
 .ob (C7 a0) fun r1=>
 .br (decide ((a0.1.length:Int)>(64:Int))) (
 .ob (Ayc a0) fun r2=>
 .ob (As En r2) fun o4=>
 .leaf o4) (
 .ob (As En r1) fun o5=>
 .leaf o5))
def Azj (a0:YBs):Option (YBs):=(Anr a0).val
def Ahq (a0:YI):Tree (A7):=
 .ob (Bt a0 ((1:Int),()) ((6:Int),())) fun r1=>
 .br (!r1.1) (
 .leaf ((0:Int),([]:List Af),())) (
 .leaf (a0.1,([]:List Af),()))
def Ahr (a0:YI):Option (A7):=(Ahq a0).val
def Ahs:Tree (Bs):=
 .leaf ((-1:Int),(List.replicate ((32:Int)).toNat ((0:Int),())),())
def P7:Option (Bs):=(Ahs).val
def Ak1 (a0:YI) (a1:YBs):Tree (YEp):=
 .ob (Bt a0 ((0:Int),()) ((4294967295:Int),())) fun r1=>
 .br (!r1.1) (
 .leaf ((0:Int),([]:List YB),(0:Int),(0:Int),([]:List YI),())) (
 .br ((a1.1.length:Int) != (32:Int)) (
 .leaf ((0:Int),([]:List YB),(0:Int),(0:Int),([]:List YI),())) (
 .ob (C7 a1) fun r2=>
 .ob P7 fun r3=>
 .leaf (a0.1,r2.1,(0:Int),r3.1,r3.2.1,())))
def Ak2 (a0:YI) (a1:YBs):Option (YEp):=(Ak1 a0 a1).val
def Mj (x1:(List Aj)×Int×Int×Int×Int×Unit):Option (((List Aj)×Int×Int×Int×Int×Unit)⊕(YI⊕(Unit))):=
 letI u1:=x1.2.2;Tree.val (α:=((List Aj)×Int×Int×Int×Int×Unit)⊕(YI⊕(Unit))) <|
 .br (decide (u1.1<x1.2.1)) (
 .ob (idx x1.1 u1.1) fun e2=>
 .br (and (e2.1==u1.2.1) (and (e2.2.1==u1.2.2.1) true)) (
 .leaf (.inr (.inl (u1.1,())))) (
 .leaf (.inl (x1.1,x1.2.1,(i64.wrap (u1.1+(1:Int))),u1.2.1,u1.2.2.1,())))) (
 .leaf (.inr (.inr ())))
def Aht (a0:A4) (a1:Da):Tree (YI):=
 .ob (As Mj (a0.2.2.1,(a0.2.2.1.length:Int),(0:Int),a1.1,a1.2.1,())) fun o3=>
 .sm o3 (fun o4=>
 .leaf o4) (fun o5=>
 .leaf ((-1:Int),()))
def X0 (a0:A4) (a1:Da):Option (YI):=(Aht a0 a1).val
def Ak3 (a0:A4) (a1:YI) (a2:Da) (a3:YBs):Tree (A4×(Bool×Unit)):=
 .ob (Kb a0) fun r1=>
 .br (!r1.1) (
 .ob (Cj a0) fun r2=>
 .leaf (r2,(false,()))) (
 .ob (Bt a1 ((0:Int),()) ((1000000:Int),())) fun r3=>
 .br (!r3.1) (
 .ob (Cj a0) fun r4=>
 .leaf (r4,(false,()))) (
 .ob (Mc a2) fun r5=>
 .br (!r5.1) (
 .ob (Cj a0) fun r6=>
 .leaf (r6,(false,()))) (
 .ob (H8 a3) fun r7=>
 .br (!r7.1) (
 .ob (Cj a0) fun r8=>
 .leaf (r8,(false,()))) (
 .br (and (a2.1==a0.1) (and (a2.2.1==a0.2.1) true)) (
 .ob (Cj a0) fun r9=>
 .leaf (r9,(false,()))) (
 .ob (Gg a0 a1) fun r10=>
 .ob (X0 r10 a2) fun r11=>
 .br (decide (r11.1≥(0:Int))) (
 .ob (Cj a0) fun r12=>
 .leaf (r12,(false,()))) (
 .br ((r10.2.2.1.length:Int)==(3:Int)) (
 .ob (Cj a0) fun r13=>
 .leaf (r13,(false,()))) (
 .ob (C7 a3) fun r14=>
 .chk (decide (r10.2.2.1.length+[(a2.1,a2.2.1,r14.1,(i64.wrap (a1.1+(6:Int))),())].length≤4294967296)) <|
 .leaf ((r10.1,r10.2.1,(r10.2.2.1++[(a2.1,a2.2.1,r14.1,(i64.wrap (a1.1+(6:Int))),())]),()),(true,())))))))))
def Ak4 (a0:A4) (a1:YI) (a2:Da) (a3:YBs):Option (A4×(Bool×Unit)):=(Ak3 a0 a1 a2 a3).val
end
end Go.Proofs.YtfljmgnghlpapaaGreat

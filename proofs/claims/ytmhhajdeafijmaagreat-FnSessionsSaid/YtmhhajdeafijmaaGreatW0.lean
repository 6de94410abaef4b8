/-
  What the functions of the seat answer, as plain terms (printed by a program, proved in the texts P); nothing is assumed.
-/
import Derived.Test.YtmhhajdeafijmaaGreatEv2
namespace Go.Proofs.YtmhhajdeafijmaaGreat
open Go.RowKit IntKind
set_option linter.unusedVariables false
set_option maxRecDepth 100000
set_option maxHeartbeats 4000000
noncomputable section
abbrev YB:Type:=Int×Unit
abbrev YI:Type:=Int×Unit
abbrev YBs:Type:=List YB×Unit
abbrev A4i:Type:=ByteArray×Int×Unit
abbrev Bu:Type:=Int×Int×Unit
abbrev A8j:Type:=(List YB)×Int×Unit
abbrev B8:Type:=Int×(List YI)×Unit
abbrev A9v:Type:=Int×Int×Bool×Int×Unit
abbrev Bbe:Type:=Bool×Int×Int×Int×Unit
abbrev Az:Type:=(List YB)×Int×Int×Unit
abbrev A8o:Type:=Int×Int×Int×Int×Unit
abbrev Kk:Type:=(List YI)×(List YB)×Int×Unit
abbrev Al:Type:=Int×Int×(List YB)×Int×Unit
abbrev YEp:Type:=Int×(List YB)×Int×Int×(List YI)×Unit
abbrev A9:Type:=Int×Int×(List Al)×Unit
abbrev A8:Type:=Int×Int×Int×(List YB)×(List YB)×Int×Int×(List YB)×(List YB)×Int×Int×Int×Unit
abbrev Aq:Type:=Int×Int×(List YB)×(List YB)×Int×(List YB)×(List YB)×Int×Int×(List YB)×(List YB)×Unit
abbrev Bl:Type:=Int×Int×Int×Int×(List YB)×(List YB)×Int×(List YB)×(List YB)×Int×Int×(List YB)×(List YB)×Unit
abbrev Aj:Type:=Int×(List YB)×Int×(List YB)×Int×Int×(List YI)×Int×(List YB)×Int×Int×(List YI)×Bool×Int×(List YB)×Unit
abbrev Bd:Type:=Int×(List YB)×(List YB)×Int×(List YB)×Int×(List YB)×Int×Int×(List YI)×Int×(List YB)×Int×Int×(List YI)×Bool×Int×(List YB)×Int×Int×(List Al)×Int×Int×Bool×Unit
abbrev Bbi:Type:=Int×(List Bd)×Unit
abbrev Bbd:Type:=(List YBs)×(List YB)×(List YB)×Int×Int×(List Bd)×(List A8o)×Unit
abbrev A8p:Type:=Int×(List YB)×Int×Int×Int×(List YB)×Int×Int×(List YB)×(List YB)×Int×(List YB)×(List YB)×Int×Int×(List YB)×(List YB)×Int×(List YB)×Int×(List YB)×Int×Int×(List YI)×Int×(List YB)×Int×Int×(List YI)×Bool×Int×(List YB)×Bool×Int×Int×Int×Bool×Int×Int×Int×Int×Unit
def A0w (a0:YBs):Tree ((Bool×Unit)):=
 .leaf ((decide ((a0.1.length:Int)>(1048576:Int))),())
def A04 (a0:YBs):Option ((Bool×Unit)):=(A0w a0).val
def S9 (x1:Az):Option (Az⊕(A8j)):=
 Tree.val (α:=Az⊕(A8j)) <|
 .br (decide (x1.2.2.1<(x1.1.length:Int))) (
 .br (decide (x1.2.2.1<(4000:Int))) (
 .ob (idx x1.1 x1.2.2.1) fun e2=>
 .leaf (.inl (x1.1,(i64.wrap ((BitVec.ofInt (i64.bits) ((i64.wrap ((i64.wrap ((i64.wrap (x1.2.1*(137:Int)))+(i64.wrap (e2.1))))+(11:Int)))) &&& BitVec.ofInt (i64.bits) ((1073741823:Int))).toNat:Nat)),(i64.wrap (x1.2.2.1+(1:Int))),()))) (
 .leaf (.inr (x1.1,x1.2.1,())))) (
 .leaf (.inr (x1.1,x1.2.1,())))
def Ahr (a0:YBs):Tree (Az):=
 .ob (Ay S9 (a0.1,(i64.wrap ((127812:Int)+(a0.1.length:Int))),(0:Int),())) fun o3=>
 .leaf (o3.1,(0:Int),o3.2.1,())
def Ai5 (a0:YBs):Option (Az):=(Ahr a0).val
def Adm (a0:Az):Tree (YI×Az):=
 letI u1:=a0.2.2;.br (decide (a0.2.1<(a0.1.length:Int))) (
 .ob (idx a0.1 a0.2.1) fun e1=>
 .leaf (((i64.wrap ((BitVec.ofInt (i64.bits) ((i64.wrap ((i64.wrap ((BitVec.ofInt (i64.bits) ((i64.wrap ((BitVec.ofInt (i64.bits) ((Int.fdiv (i64.wrap ((i64.wrap (u1.1*(6364136223846793005:Int)))+(1442695040888963407:Int))) (2^(min ((33:Int)).toNat i64.bits)))) ^^^ BitVec.ofInt (i64.bits) ((Int.fdiv (i64.wrap ((i64.wrap (u1.1*(6364136223846793005:Int)))+(1442695040888963407:Int))) (2^(min ((47:Int)).toNat i64.bits))))).toNat:Nat))) &&& BitVec.ofInt (i64.bits) ((255:Int))).toNat:Nat))+(i64.wrap (e1.1))))) &&& BitVec.ofInt (i64.bits) ((255:Int))).toNat:Nat)),()),(a0.1,(i64.wrap (a0.2.1+(1:Int))),(i64.wrap ((i64.wrap (u1.1*(6364136223846793005:Int)))+(1442695040888963407:Int))),()))) (
 .leaf (((i64.wrap ((BitVec.ofInt (i64.bits) ((i64.wrap ((BitVec.ofInt (i64.bits) ((Int.fdiv (i64.wrap ((i64.wrap (u1.1*(6364136223846793005:Int)))+(1442695040888963407:Int))) (2^(min ((33:Int)).toNat i64.bits)))) ^^^ BitVec.ofInt (i64.bits) ((Int.fdiv (i64.wrap ((i64.wrap (u1.1*(6364136223846793005:Int)))+(1442695040888963407:Int))) (2^(min ((47:Int)).toNat i64.bits))))).toNat:Nat))) &&& BitVec.ofInt (i64.bits) ((255:Int))).toNat:Nat)),()),(a0.1,a0.2.1,(i64.wrap ((i64.wrap (u1.1*(6364136223846793005:Int)))+(1442695040888963407:Int))),())))
def Hg (a0:Az):Option (YI×Az):=(Adm a0).val
def K7 (x1:Int×(List YB)×Int×(List YB)×Int×Int×Unit):Option ((Int×(List YB)×Int×(List YB)×Int×Int×Unit)⊕(((List YB)×(List YB)×Int×Int×Unit))):=
 letI u1:=x1.2.2.2;Tree.val (α:=(Int×(List YB)×Int×(List YB)×Int×Int×Unit)⊕(((List YB)×(List YB)×Int×Int×Unit))) <|
 .br (decide (x1.2.2.1<x1.1)) (
 .ob (Hg (u1.1,u1.2.1,u1.2.2.1,())) fun r2=>
 .chk (decide (x1.2.1.length+[((u8.wrap (r2.1.1)),())].length≤4294967296)) <|
 .leaf (.inl (x1.1,(x1.2.1++[((u8.wrap (r2.1.1)),())]),(i64.wrap (x1.2.2.1+(1:Int))),u1.1,r2.2.2.1,r2.2.2.2.1,()))) (
 .leaf (.inr (x1.2.1,u1.1,u1.2.1,u1.2.2.1,())))
def Aah (a0:Az) (a1:YI):Tree (YBs×Az):=
 .ob (Ay K7 (a1.1,([]:List YB),(0:Int),a0.1,a0.2.1,a0.2.2.1,())) fun o3=>
 .leaf ((o3.1,()),(o3.2.1,o3.2.2.1,o3.2.2.2.1,()))
def Dw (a0:Az) (a1:YI):Option (YBs×Az):=(Aah a0 a1).val
def Aai (a0:Az) (a1:YI):Tree (YI×Az):=
 .br (decide (a1.1≤(0:Int))) (
 .leaf (((0:Int),()),a0)) (
 .br (decide (a1.1≤(256:Int))) (
 .ob (Hg a0) fun r1=>
 .chk (decide ((0:Int)<a1.1)) <|
 .chk (decide ((0:Int)≤r1.1.1)) <|
 .leaf (((r1.1.1%a1.1),()),(a0.1,r1.2.2.1,r1.2.2.2.1,()))) (
 .ob (Hg a0) fun r2=>
 .ob (Hg (a0.1,r2.2.2.1,r2.2.2.2.1,())) fun r3=>
 .ob (Hg (a0.1,r3.2.2.1,r3.2.2.2.1,())) fun r4=>
 .chk (decide ((0:Int)<a1.1)) <|
 .chk (decide ((0:Int)≤(i64.wrap ((i64.wrap ((i64.wrap (r2.1.1*(65536:Int)))+(i64.wrap (r3.1.1*(256:Int)))))+r4.1.1)))) <|
 .leaf ((((i64.wrap ((i64.wrap ((i64.wrap (r2.1.1*(65536:Int)))+(i64.wrap (r3.1.1*(256:Int)))))+r4.1.1))%a1.1),()),(a0.1,r4.2.2.1,r4.2.2.2.1,()))))
def Bn (a0:Az) (a1:YI):Option (YI×Az):=(Aai a0 a1).val
def Ol (a0:Az):Tree (Aq×Az):=
 .ob (Dw a0 ((12:Int),())) fun r1=>
 .ob (Dw (a0.1,r1.2.2.1,r1.2.2.2.1,()) ((12:Int),())) fun r2=>
 .ob (Bn (a0.1,r2.2.2.1,r2.2.2.2.1,()) ((300:Int),())) fun r3=>
 .ob (Dw (a0.1,r3.2.2.1,r3.2.2.2.1,()) ((16:Int),())) fun r4=>
 .leaf (((2:Int),(0:Int),r1.1.1,r2.1.1,r3.1.1,r4.1.1,([]:List YB),(0:Int),(0:Int),([]:List YB),([]:List YB),()),(a0.1,r4.2.2.1,r4.2.2.2.1,()))
def La (a0:Az):Option (Aq×Az):=(Ol a0).val
def Amw (a0:YI) (a1:YI) (a2:YI):Tree ((Bool×Unit)):=
 .br (decide (a0.1≥a1.1)) (
 .leaf ((decide (a0.1≤a2.1)),())) (
 .leaf (false,()))
def Bm (a0:YI) (a1:YI) (a2:YI):Option ((Bool×Unit)):=(Amw a0 a1 a2).val
def Adn (a0:YI):Tree ((Bool×Unit)):=
 .ob (Bm a0 ((4:Int),()) ((8:Int),())) fun r1=>
 .leaf r1
def Kl (a0:YI):Option ((Bool×Unit)):=(Adn a0).val
def Adp (a0:YI) (a1:YI):Tree ((Bool×Unit)):=
 .br (a0.1==(4:Int)) (
 .leaf ((decide (a1.1≤(40:Int))),())) (
 .br (a0.1==(5:Int)) (
 .leaf ((a1.1==(12:Int)),())) (
 .br (a0.1==(6:Int)) (
 .leaf ((a1.1==(12:Int)),())) (
 .leaf ((a1.1==(4:Int)),()))))
def Qw (a0:YI) (a1:YI):Option ((Bool×Unit)):=(Adp a0 a1).val
def Aak (a0:Aq):Tree ((Bool×Unit)):=
 letI u1:=a0.2.2.2.2;letI u2:=u1.2.2.2;.ob (Kl (a0.1,())) fun r1=>
 .br r1.1 (
 .br (a0.2.1==(0:Int)) (
 .br ((a0.2.2.1.length:Int)==(0:Int)) (
 .br ((a0.2.2.2.1.length:Int)==(12:Int)) (
 .br (u1.1==(0:Int)) (
 .br ((a0.2.2.2.2.2.1.length:Int)==(0:Int)) (
 .br ((a0.2.2.2.2.2.2.1.length:Int)==(0:Int)) (
 .ob (Bm (u2.1,()) ((0:Int),()) ((4294967295:Int),())) fun r2=>
 .br r2.1 (
 .ob (Bm (u2.2.1,()) ((0:Int),()) ((281474976710655:Int),())) fun r3=>
 .br r3.1 (
 .ob (Qw (a0.1,()) ((a0.2.2.2.2.2.2.2.2.2.1.length:Int),())) fun r4=>
 .br r4.1 (
 .leaf (((a0.2.2.2.2.2.2.2.2.2.2.1.length:Int)==(16:Int)),())) (
 .leaf (false,()))) (
 .leaf (false,()))) (
 .leaf (false,()))) (
 .leaf (false,()))) (
 .leaf (false,()))) (
 .leaf (false,()))) (
 .leaf (false,()))) (
 .leaf (false,()))) (
 .leaf (false,()))) (
 .br (u2.1 != (0:Int)) (
 .leaf (false,())) (
 .br (u2.2.1 != (0:Int)) (
 .leaf (false,())) (
 .br ((a0.2.2.2.2.2.2.2.2.2.1.length:Int) != (0:Int)) (
 .leaf (false,())) (
 .br ((a0.2.2.2.2.2.2.2.2.2.2.1.length:Int) != (0:Int)) (
 .leaf (false,())) (
 .br ((a0.2.2.1.length:Int) != (12:Int)) (
 .leaf (false,())) (
 .br (a0.1==(1:Int)) (
 .ob (Bm (a0.2.1,()) ((1:Int),()) ((9:Int),())) fun r5=>
 .br r5.1 (
 .br ((a0.2.2.2.1.length:Int)==(0:Int)) (
 .br (u1.1==(0:Int)) (
 .br ((a0.2.2.2.2.2.1.length:Int)==(0:Int)) (
 .leaf (((a0.2.2.2.2.2.2.1.length:Int)==(0:Int)),())) (
 .leaf (false,()))) (
 .leaf (false,()))) (
 .leaf (false,()))) (
 .leaf (false,()))) (
 .br (a0.1==(2:Int)) (
 .br (a0.2.1==(0:Int)) (
 .br ((a0.2.2.2.1.length:Int)==(12:Int)) (
 .ob (Bm (u1.1,()) ((0:Int),()) ((1000000:Int),())) fun r6=>
 .br r6.1 (
 .br ((a0.2.2.2.2.2.1.length:Int)==(16:Int)) (
 .leaf (((a0.2.2.2.2.2.2.1.length:Int)==(0:Int)),())) (
 .leaf (false,()))) (
 .leaf (false,()))) (
 .leaf (false,()))) (
 .leaf (false,()))) (
 .br (a0.1==(3:Int)) (
 .ob (Bm (a0.2.1,()) ((1:Int),()) ((9:Int),())) fun r7=>
 .br r7.1 (
 .br ((a0.2.2.2.1.length:Int)==(12:Int)) (
 .ob (Bm (u1.1,()) ((0:Int),()) ((1000000:Int),())) fun r8=>
 .br r8.1 (
 .br ((a0.2.2.2.2.2.1.length:Int)==(16:Int)) (
 .leaf (((a0.2.2.2.2.2.2.1.length:Int)==(16:Int)),())) (
 .leaf (false,()))) (
 .leaf (false,()))) (
 .leaf (false,()))) (
 .leaf (false,()))) (
 .leaf (false,()))))))))))
def Ll (a0:Aq):Option ((Bool×Unit)):=(Aak a0).val
def Ahs (a0:YBs):Tree ((Bool×Unit)):=
 .ob (Bm ((a0.1.length:Int),()) ((1:Int),()) ((32:Int),())) fun r1=>
 .leaf r1
def Pm (a0:YBs):Option ((Bool×Unit)):=(Ahs a0).val
def Qc (x1:Int×(List YB)×Int×Unit):Option ((Int×(List YB)×Int×Unit)⊕(YBs)):=
 letI u1:=x1.2.2;Tree.val (α:=(Int×(List YB)×Int×Unit)⊕(YBs)) <|
 .br (decide (u1.1≥(0:Int))) (
 .chk (decide ((0:Int)≤(i64.wrap ((8:Int)*u1.1)))) <|
 .chk (decide (x1.2.1.length+[((u8.wrap ((i64.wrap ((BitVec.ofInt (i64.bits) ((Int.fdiv x1.1 (2^(min ((i64.wrap ((8:Int)*u1.1))).toNat i64.bits)))) &&& BitVec.ofInt (i64.bits) ((255:Int))).toNat:Nat)))),())].length≤4294967296)) <|
 .leaf (.inl (x1.1,(x1.2.1++[((u8.wrap ((i64.wrap ((BitVec.ofInt (i64.bits) ((Int.fdiv x1.1 (2^(min ((i64.wrap ((8:Int)*u1.1))).toNat i64.bits)))) &&& BitVec.ofInt (i64.bits) ((255:Int))).toNat:Nat)))),())]),(i64.wrap (u1.1-(1:Int))),()))) (
 .leaf (.inr (x1.2.1,())))
def Amx (a0:YBs) (a1:YI) (a2:YI):Tree (YBs):=
 .chk (decide (([]:List YB).length+a0.1.length≤4294967296)) <|
 .br (decide (a2.1<(1:Int))) (
 .leaf ((([]:List YB)++a0.1),())) (
 .br (decide (a2.1>(6:Int))) (
 .leaf ((([]:List YB)++a0.1),())) (
 .ob (Ay Qc (a1.1,(([]:List YB)++a0.1),(i64.wrap (a2.1-(1:Int))),())) fun o2=>
 .leaf o2))
def F5 (a0:YBs) (a1:YI) (a2:YI):Option (YBs):=(Amx a0 a1 a2).val
def Aht (x1:Int×(List YB)×Unit):Option ((Int×(List YB)×Unit)⊕((Int×(List YB)×Unit))):=
 Tree.val (α:=(Int×(List YB)×Unit)⊕((Int×(List YB)×Unit))) <|
 .chk (decide ((0:Int)≤(i64.wrap ((i64.wrap (x1.1+(x1.2.1.length:Int)))+(8:Int))))) <|
 .br (((i64.wrap ((i64.wrap (x1.1+(x1.2.1.length:Int)))+(8:Int)))%(64:Int)) != (0:Int)) (
 .chk (decide (x1.2.1.length+[((0:Int),())].length≤4294967296)) <|
 .leaf (.inl (x1.1,(x1.2.1++[((0:Int),())]),()))) (
 .leaf (.inr x1))
def Arg (a0:YI):Tree (YBs):=
 .br (decide (a0.1<(0:Int))) (
 .leaf (([]:List YB),())) (
 .br (decide (a0.1>(1048576:Int))) (
 .leaf (([]:List YB),())) (
 .ob (Ay Aht (a0.1,[((128:Int),())],())) fun o2=>
 .ob (F5 (o2.2.1,()) ((0:Int),()) ((4:Int),())) fun r3=>
 .ob (F5 r3 ((i64.wrap ((8:Int)*o2.1)),()) ((4:Int),())) fun r4=>
 .leaf r4))
def Asc (a0:YI):Option (YBs):=(Arg a0).val
def Atc:Tree (((List YI)×Unit)):=
 .leaf ([((1779033703:Int),()),((3144134277:Int),()),((1013904242:Int),()),((2773480762:Int),()),((1359893119:Int),()),((2600822924:Int),()),((528734635:Int),()),((1541459225:Int),())],())
def Att:Option (((List YI)×Unit)):=(Atc).val
def K8 (x1:(List YI)×Int×Unit):Option (((List YI)×Int×Unit)⊕((Bool×Unit)⊕((List YI)×Unit))):=
 Tree.val (α:=((List YI)×Int×Unit)⊕((Bool×Unit)⊕((List YI)×Unit))) <|
 .br (decide (x1.2.1<(x1.1.length:Int))) (
 .ob (idx x1.1 x1.2.1) fun e2=>
 .ob (Bm e2 ((0:Int),()) ((4294967295:Int),())) fun r3=>
 .br (!r3.1) (
 .leaf (.inr (.inl (false,())))) (
 .leaf (.inl (x1.1,(i64.wrap (x1.2.1+(1:Int))),())))) (
 .leaf (.inr (.inr (x1.1,()))))
def Aal (a0:(List YI)×Unit):Tree ((Bool×Unit)):=
 .ob (Ay K8 (a0.1,(0:Int),())) fun o4=>
 .sm o4 (fun o5=>
 .leaf o5) (fun o6=>
 .leaf (((o6.1.length:Int)==(8:Int)),()))
def Abc (a0:(List YI)×Unit):Option ((Bool×Unit)):=(Aal a0).val
def A0z:Tree (((List YI)×Unit)):=
 .leaf ([((1116352408:Int),()),((1899447441:Int),()),((3049323471:Int),()),((3921009573:Int),()),((961987163:Int),()),((1508970993:Int),()),((2453635748:Int),()),((2870763221:Int),()),((3624381080:Int),()),((310598401:Int),()),((607225278:Int),()),((1426881987:Int),()),((1925078388:Int),()),((2162078206:Int),()),((2614888103:Int),()),((3248222580:Int),()),((3835390401:Int),()),((4022224774:Int),()),((264347078:Int),()),((604807628:Int),()),((770255983:Int),()),((1249150122:Int),()),((1555081692:Int),()),((1996064986:Int),()),((2554220882:Int),()),((2821834349:Int),()),((2952996808:Int),()),((3210313671:Int),()),((3336571891:Int),()),((3584528711:Int),()),((113926993:Int),()),((338241895:Int),()),((666307205:Int),()),((773529912:Int),()),((1294757372:Int),()),((1396182291:Int),()),((1695183700:Int),()),((1986661051:Int),()),((2177026350:Int),()),((2456956037:Int),()),((2730485921:Int),()),((2820302411:Int),()),((3259730800:Int),()),((3345764771:Int),()),((3516065817:Int),()),((3600352804:Int),()),((4094571909:Int),()),((275423344:Int),()),((430227734:Int),()),((506948616:Int),()),((659060556:Int),()),((883997877:Int),()),((958139571:Int),()),((1322822218:Int),()),((1537002063:Int),()),((1747873779:Int),()),((1955562222:Int),()),((2024104815:Int),()),((2227730452:Int),()),((2361852424:Int),()),((2428436474:Int),()),((2756734187:Int),()),((3204031479:Int),()),((3329325298:Int),())],())
def A05:Option (((List YI)×Unit)):=(A0z).val
def M5 (x1:(List YB)×Int×Int×Int×Int×Unit):Option (((List YB)×Int×Int×Int×Int×Unit)⊕((Int×Int×Int×Unit))):=
 letI u1:=x1.2.2;Tree.val (α:=((List YB)×Int×Int×Int×Int×Unit)⊕((Int×Int×Int×Unit))) <|
 .br (decide (u1.2.2.1<u1.1)) (
 .ob (idx x1.1 (i64.wrap (x1.2.1+u1.2.2.1))) fun e2=>
 .leaf (.inl (x1.1,x1.2.1,u1.1,(i64.wrap ((i64.wrap (u1.2.1*(256:Int)))+(i64.wrap (e2.1)))),(i64.wrap (u1.2.2.1+(1:Int))),()))) (
 .leaf (.inr (x1.2.1,u1.1,u1.2.1,())))
def Amy (a0:YBs) (a1:YI) (a2:YI):Tree (YI×YI×(Bool×Unit)):=
 .br (decide (a2.1<(1:Int))) (
 .leaf (((0:Int),()),((0:Int),()),(false,()))) (
 .br (decide (a2.1>(6:Int))) (
 .leaf (((0:Int),()),((0:Int),()),(false,()))) (
 .br (decide (a1.1<(0:Int))) (
 .leaf (((0:Int),()),((0:Int),()),(false,()))) (
 .br (decide (a1.1>(i64.wrap ((a0.1.length:Int)-a2.1)))) (
 .leaf (((0:Int),()),((0:Int),()),(false,()))) (
 .ob (Ay M5 (a0.1,a1.1,a2.1,(0:Int),(0:Int),())) fun o3=>
 .leaf ((o3.2.2.1,()),((i64.wrap (o3.1+o3.2.1)),()),(true,()))))))
def Ang (a0:YBs) (a1:YI) (a2:YI):Option (YI×YI×(Bool×Unit)):=(Amy a0 a1 a2).val
def Ari (a0:YI) (a1:YI):Tree (YI):=
 .br (decide (a1.1<(1:Int))) (
 .leaf ((i64.wrap ((BitVec.ofInt (i64.bits) (a0.1) &&& BitVec.ofInt (i64.bits) ((4294967295:Int))).toNat:Nat)),())) (
 .br (decide (a1.1>(31:Int))) (
 .leaf ((i64.wrap ((BitVec.ofInt (i64.bits) (a0.1) &&& BitVec.ofInt (i64.bits) ((4294967295:Int))).toNat:Nat)),())) (
 .chk (decide ((0:Int)≤a1.1)) <|
 .chk (decide ((0:Int)≤(i64.wrap ((32:Int)-a1.1)))) <|
 .leaf ((i64.wrap ((BitVec.ofInt (i64.bits) ((i64.wrap ((BitVec.ofInt (i64.bits) ((Int.fdiv (i64.wrap ((BitVec.ofInt (i64.bits) (a0.1) &&& BitVec.ofInt (i64.bits) ((4294967295:Int))).toNat:Nat)) (2^(min (a1.1).toNat i64.bits)))) ||| BitVec.ofInt (i64.bits) ((i64.wrap ((i64.wrap ((BitVec.ofInt (i64.bits) (a0.1) &&& BitVec.ofInt (i64.bits) ((4294967295:Int))).toNat:Nat))*2^(min ((i64.wrap ((32:Int)-a1.1))).toNat i64.bits))))).toNat:Nat))) &&& BitVec.ofInt (i64.bits) ((4294967295:Int))).toNat:Nat)),())))
def Ip (a0:YI) (a1:YI):Option (YI):=(Ari a0 a1).val
def Hs (x1:(List YB)×(List YI)×Int×Unit):Option (((List YB)×(List YI)×Int×Unit)⊕(((List YI)×Unit))):=
 Tree.val (α:=((List YB)×(List YI)×Int×Unit)⊕(((List YI)×Unit))) <|
 .br (decide (x1.2.2.1<(16:Int))) (
 .ob (Ang (x1.1,()) ((i64.wrap ((4:Int)*x1.2.2.1)),()) ((4:Int),())) fun r2=>
 .chk (decide (x1.2.1.length+[r2.1].length≤4294967296)) <|
 .leaf (.inl (x1.1,(x1.2.1++[r2.1]),(i64.wrap (x1.2.2.1+(1:Int))),()))) (
 .leaf (.inr (x1.2.1,())))
def Gr (x4:(List YI)×Int×Unit):Option (((List YI)×Int×Unit)⊕(((List YI)×Unit))):=
 Tree.val (α:=((List YI)×Int×Unit)⊕(((List YI)×Unit))) <|
 .br (decide (x4.2.1<(64:Int))) (
 .ob (idx x4.1 (i64.wrap (x4.2.1-(15:Int)))) fun e5=>
 .ob (idx x4.1 (i64.wrap (x4.2.1-(2:Int)))) fun e6=>
 .ob (Ip e5 ((7:Int),())) fun r7=>
 .ob (Ip e5 ((18:Int),())) fun r8=>
 .ob (Ip e6 ((17:Int),())) fun r9=>
 .ob (Ip e6 ((19:Int),())) fun r10=>
 .ob (idx x4.1 (i64.wrap (x4.2.1-(7:Int)))) fun e11=>
 .ob (idx x4.1 (i64.wrap (x4.2.1-(16:Int)))) fun e12=>
 .chk (decide (x4.1.length+[((i64.wrap ((BitVec.ofInt (i64.bits) ((i64.wrap ((i64.wrap ((i64.wrap (e11.1+e12.1))+(i64.wrap ((BitVec.ofInt (i64.bits) ((i64.wrap ((BitVec.ofInt (i64.bits) (r7.1) ^^^ BitVec.ofInt (i64.bits) (r8.1)).toNat:Nat))) ^^^ BitVec.ofInt (i64.bits) ((Int.fdiv e5.1 (2^(min ((3:Int)).toNat i64.bits))))).toNat:Nat))))+(i64.wrap ((BitVec.ofInt (i64.bits) ((i64.wrap ((BitVec.ofInt (i64.bits) (r9.1) ^^^ BitVec.ofInt (i64.bits) (r10.1)).toNat:Nat))) ^^^ BitVec.ofInt (i64.bits) ((Int.fdiv e6.1 (2^(min ((10:Int)).toNat i64.bits))))).toNat:Nat))))) &&& BitVec.ofInt (i64.bits) ((4294967295:Int))).toNat:Nat)),())].length≤4294967296)) <|
 .leaf (.inl ((x4.1++[((i64.wrap ((BitVec.ofInt (i64.bits) ((i64.wrap ((i64.wrap ((i64.wrap (e11.1+e12.1))+(i64.wrap ((BitVec.ofInt (i64.bits) ((i64.wrap ((BitVec.ofInt (i64.bits) (r7.1) ^^^ BitVec.ofInt (i64.bits) (r8.1)).toNat:Nat))) ^^^ BitVec.ofInt (i64.bits) ((Int.fdiv e5.1 (2^(min ((3:Int)).toNat i64.bits))))).toNat:Nat))))+(i64.wrap ((BitVec.ofInt (i64.bits) ((i64.wrap ((BitVec.ofInt (i64.bits) (r9.1) ^^^ BitVec.ofInt (i64.bits) (r10.1)).toNat:Nat))) ^^^ BitVec.ofInt (i64.bits) ((Int.fdiv e6.1 (2^(min ((10:Int)).toNat i64.bits))))).toNat:Nat))))) &&& BitVec.ofInt (i64.bits) ((4294967295:Int))).toNat:Nat)),())]),(i64.wrap (x4.2.1+(1:Int))),()))) (
 .leaf (.inr (x4.1,())))
def Qd (a0:YBs):Tree (((List YI)×Unit)):=
 .br ((a0.1.length:Int) != (64:Int)) (
 .leaf (([]:List YI),())) (
 .ob (Ay Hs (a0.1,([]:List YI),(0:Int),())) fun o3=>
 .ob (Ay Gr (o3.1,(16:Int),())) fun o13=>
 .leaf o13)
def W3 (a0:YBs):Option (((List YI)×Unit)):=(Qd a0).val
def F2 (x12:(List YI)×(List YI)×(List YI)×(List YI)×Int×Int×Int×Int×Int×Int×Int×Int×Int×Unit):Option (((List YI)×(List YI)×(List YI)×(List YI)×Int×Int×Int×Int×Int×Int×Int×Int×Int×Unit)⊕(((List YI)×(List YI)×Int×Int×Int×Int×Int×Int×Int×Int×Unit))):=
 letI u1:=x12.2.2;letI u2:=u1.2.2;letI u3:=u2.2.2;letI u4:=u3.2.2;letI u5:=u4.2.2;Tree.val (α:=((List YI)×(List YI)×(List YI)×(List YI)×Int×Int×Int×Int×Int×Int×Int×Int×Int×Unit)⊕(((List YI)×(List YI)×Int×Int×Int×Int×Int×Int×Int×Int×Unit))) <|
 .br (decide (u5.2.2.1<(64:Int))) (
 .ob (Ip (u4.1,()) ((6:Int),())) fun r13=>
 .ob (Ip (u4.1,()) ((11:Int),())) fun r14=>
 .ob (Ip (u4.1,()) ((25:Int),())) fun r15=>
 .ob (idx u1.1 u5.2.2.1) fun e16=>
 .ob (idx u1.2.1 u5.2.2.1) fun e17=>
 .ob (Ip (u2.1,()) ((2:Int),())) fun r18=>
 .ob (Ip (u2.1,()) ((13:Int),())) fun r19=>
 .ob (Ip (u2.1,()) ((22:Int),())) fun r20=>
 .leaf (.inl (x12.1,x12.2.1,u1.1,u1.2.1,(i64.wrap ((BitVec.ofInt (i64.bits) ((i64.wrap ((i64.wrap ((BitVec.ofInt (i64.bits) ((i64.wrap ((i64.wrap ((i64.wrap ((i64.wrap (u5.2.1+(i64.wrap ((BitVec.ofInt (i64.bits) ((i64.wrap ((BitVec.ofInt (i64.bits) (r13.1) ^^^ BitVec.ofInt (i64.bits) (r14.1)).toNat:Nat))) ^^^ BitVec.ofInt (i64.bits) (r15.1)).toNat:Nat))))+(i64.wrap ((BitVec.ofInt (i64.bits) ((i64.wrap ((BitVec.ofInt (i64.bits) (u4.1) &&& BitVec.ofInt (i64.bits) (u4.2.1)).toNat:Nat))) ^^^ BitVec.ofInt (i64.bits) ((i64.wrap ((BitVec.ofInt (i64.bits) ((i64.wrap ((BitVec.ofInt (i64.bits) (u4.1) ^^^ BitVec.ofInt (i64.bits) ((4294967295:Int))).toNat:Nat))) &&& BitVec.ofInt (i64.bits) (u5.1)).toNat:Nat)))).toNat:Nat))))+e16.1))+e17.1))) &&& BitVec.ofInt (i64.bits) ((4294967295:Int))).toNat:Nat))+(i64.wrap ((BitVec.ofInt (i64.bits) ((i64.wrap ((i64.wrap ((BitVec.ofInt (i64.bits) ((i64.wrap ((BitVec.ofInt (i64.bits) (r18.1) ^^^ BitVec.ofInt (i64.bits) (r19.1)).toNat:Nat))) ^^^ BitVec.ofInt (i64.bits) (r20.1)).toNat:Nat))+(i64.wrap ((BitVec.ofInt (i64.bits) ((i64.wrap ((BitVec.ofInt (i64.bits) ((i64.wrap ((BitVec.ofInt (i64.bits) (u2.1) &&& BitVec.ofInt (i64.bits) (u2.2.1)).toNat:Nat))) ^^^ BitVec.ofInt (i64.bits) ((i64.wrap ((BitVec.ofInt (i64.bits) (u2.1) &&& BitVec.ofInt (i64.bits) (u3.1)).toNat:Nat)))).toNat:Nat))) ^^^ BitVec.ofInt (i64.bits) ((i64.wrap ((BitVec.ofInt (i64.bits) (u2.2.1) &&& BitVec.ofInt (i64.bits) (u3.1)).toNat:Nat)))).toNat:Nat))))) &&& BitVec.ofInt (i64.bits) ((4294967295:Int))).toNat:Nat))))) &&& BitVec.ofInt (i64.bits) ((4294967295:Int))).toNat:Nat)),u2.1,u2.2.1,u3.1,(i64.wrap ((BitVec.ofInt (i64.bits) ((i64.wrap (u3.2.1+(i64.wrap ((BitVec.ofInt (i64.bits) ((i64.wrap ((i64.wrap ((i64.wrap ((i64.wrap (u5.2.1+(i64.wrap ((BitVec.ofInt (i64.bits) ((i64.wrap ((BitVec.ofInt (i64.bits) (r13.1) ^^^ BitVec.ofInt (i64.bits) (r14.1)).toNat:Nat))) ^^^ BitVec.ofInt (i64.bits) (r15.1)).toNat:Nat))))+(i64.wrap ((BitVec.ofInt (i64.bits) ((i64.wrap ((BitVec.ofInt (i64.bits) (u4.1) &&& BitVec.ofInt (i64.bits) (u4.2.1)).toNat:Nat))) ^^^ BitVec.ofInt (i64.bits) ((i64.wrap ((BitVec.ofInt (i64.bits) ((i64.wrap ((BitVec.ofInt (i64.bits) (u4.1) ^^^ BitVec.ofInt (i64.bits) ((4294967295:Int))).toNat:Nat))) &&& BitVec.ofInt (i64.bits) (u5.1)).toNat:Nat)))).toNat:Nat))))+e16.1))+e17.1))) &&& BitVec.ofInt (i64.bits) ((4294967295:Int))).toNat:Nat))))) &&& BitVec.ofInt (i64.bits) ((4294967295:Int))).toNat:Nat)),u4.1,u4.2.1,u5.1,(i64.wrap (u5.2.2.1+(1:Int))),()))) (
 .leaf (.inr (x12.1,x12.2.1,u2.1,u2.2.1,u3.1,u3.2.1,u4.1,u4.2.1,u5.1,u5.2.1,())))
def Fl (x22:(List YI)×(List YI)×(List YI)×Int×Unit):Option (((List YI)×(List YI)×(List YI)×Int×Unit)⊕(((List YI)×Unit))):=
 letI u1:=x22.2.2.2;Tree.val (α:=((List YI)×(List YI)×(List YI)×Int×Unit)⊕(((List YI)×Unit))) <|
 .br (decide (u1.1<(8:Int))) (
 .ob (idx x22.1 u1.1) fun e23=>
 .ob (idx x22.2.2.1 u1.1) fun e24=>
 .ob (idx x22.2.1 u1.1) fun e25=>
 let q26:=(x22.2.1.set (u1.1).toNat ((i64.wrap ((BitVec.ofInt (i64.bits) ((i64.wrap (e23.1+e24.1))) &&& BitVec.ofInt (i64.bits) ((4294967295:Int))).toNat:Nat)),()))
 .leaf (.inl (x22.1,q26,x22.2.2.1,(i64.wrap (u1.1+(1:Int))),()))) (
 .leaf (.inr (x22.2.1,())))
def Qe (a0:(List YI)×Unit) (a1:YBs):Tree (((List YI)×Unit)):=
 .chk (decide (([]:List YI).length+a0.1.length≤4294967296)) <|
 .ob (Abc a0) fun r1=>
 .br (!r1.1) (
 .leaf ((([]:List YI)++a0.1),())) (
 .br ((a1.1.length:Int) != (64:Int)) (
 .leaf ((([]:List YI)++a0.1),())) (
 .ob A05 fun r2=>
 .ob (W3 a1) fun r3=>
 .ob (idx a0.1 (0:Int)) fun e4=>
 .ob (idx a0.1 (1:Int)) fun e5=>
 .ob (idx a0.1 (2:Int)) fun e6=>
 .ob (idx a0.1 (3:Int)) fun e7=>
 .ob (idx a0.1 (4:Int)) fun e8=>
 .ob (idx a0.1 (5:Int)) fun e9=>
 .ob (idx a0.1 (6:Int)) fun e10=>
 .ob (idx a0.1 (7:Int)) fun e11=>
 .ob (Ay F2 (a0.1,(([]:List YI)++a0.1),r2.1,r3.1,e4.1,e5.1,e6.1,e7.1,e8.1,e9.1,e10.1,e11.1,(0:Int),())) fun o21=>letI u1:=o21.2.2.2;letI u2:=u1.2.2.2;
 .ob (Ay Fl (o21.1,o21.2.1,[(o21.2.2.1,()),(u1.1,()),(u1.2.1,()),(u1.2.2.1,()),(u2.1,()),(u2.2.1,()),(u2.2.2.1,()),(u2.2.2.2.1,())],(0:Int),())) fun o27=>
 .leaf o27))
def Qx (a0:(List YI)×Unit) (a1:YBs):Option (((List YI)×Unit)):=(Qe a0 a1).val
def Lg (x1:Kk):Option (Kk⊕(YBs)):=
 Tree.val (α:=Kk⊕(YBs)) <|
 .br (decide (x1.2.2.1<(8:Int))) (
 .ob (idx x1.1 x1.2.2.1) fun e2=>
 .ob (F5 (x1.2.1,()) e2 ((4:Int),())) fun r3=>
 .leaf (.inl (x1.1,r3.1,(i64.wrap (x1.2.2.1+(1:Int))),()))) (
 .leaf (.inr (x1.2.1,())))
def Ahw (a0:(List YI)×Unit):Tree (YBs):=
 .ob (Ay Lg (a0.1,([]:List YB),(0:Int),())) fun o4=>
 .leaf o4
def Ai6 (a0:(List YI)×Unit):Option (YBs):=(Ahw a0).val
def Pi (x3:(List YB)×(List YI)×Int×Unit):Option (((List YB)×(List YI)×Int×Unit)⊕(((List YI)×Unit))):=
 letI u1:=x3.2.2;Tree.val (α:=((List YB)×(List YI)×Int×Unit)⊕(((List YI)×Unit))) <|
 .br (decide (u1.1<(x3.1.length:Int))) (
 .chk (decide ((0:Int)≤u1.1)) <|
 .chk (decide (u1.1≤(i64.wrap (u1.1+(64:Int))))) <|
 .chk (decide ((i64.wrap (u1.1+(64:Int)))≤(x3.1.length:Int))) <|
 .ob (Qx (x3.2.1,()) (((x3.1.take ((i64.wrap (u1.1+(64:Int)))).toNat).drop (u1.1).toNat),())) fun r4=>
 .leaf (.inl (x3.1,r4.1,(i64.wrap (u1.1+(64:Int))),()))) (
 .leaf (.inr (x3.2.1,())))
def Ark (a0:YBs):Tree (YBs):=
 .br (decide ((a0.1.length:Int)>(1048576:Int))) (
 .leaf (([]:List YB),())) (
 .chk (decide (([]:List YB).length+a0.1.length≤4294967296)) <|
 .ob (Asc ((a0.1.length:Int),())) fun r1=>
 .chk (decide ((([]:List YB)++a0.1).length+r1.1.length≤4294967296)) <|
 .ob Att fun r2=>
 .ob (Ay Pi (((([]:List YB)++a0.1)++r1.1),r2.1,(0:Int),())) fun o5=>
 .ob (Ai6 o5) fun r6=>
 .leaf r6)
def Aco (a0:YBs):Option (YBs):=(Ark a0).val
def M6 (x2:YBs):Option (YBs⊕(YBs)):=
 Tree.val (α:=YBs⊕(YBs)) <|
 .br (decide ((x2.1.length:Int)<(64:Int))) (
 .chk (decide (x2.1.length+[((0:Int),())].length≤4294967296)) <|
 .leaf (.inl ((x2.1++[((0:Int),())]),()))) (
 .leaf (.inr x2))
def Wb (a0:YBs):Tree (YBs):=
 .br (decide ((a0.1.length:Int)>(1048576:Int))) (
 .leaf (([]:List YB),())) (
 .chk (decide (([]:List YB).length+a0.1.length≤4294967296)) <|
 .br (decide ((a0.1.length:Int)>(64:Int))) (
 .ob (Aco a0) fun r1=>
 .ob (Ay M6 r1) fun o3=>
 .leaf o3) (
 .ob (Ay M6 ((([]:List YB)++a0.1),())) fun o4=>
 .leaf o4))
def W4 (a0:YBs):Option (YBs):=(Wb a0).val
def M7 (x2:(List YB)×(List YB)×(List YB)×(List YB)×Int×Unit):Option (((List YB)×(List YB)×(List YB)×(List YB)×Int×Unit)⊕(((List YB)×(List YB)×(List YB)×Unit))):=
 letI u1:=x2.2.2.2;Tree.val (α:=((List YB)×(List YB)×(List YB)×(List YB)×Int×Unit)⊕(((List YB)×(List YB)×(List YB)×Unit))) <|
 .br (decide (u1.2.1<(64:Int))) (
 .ob (idx x2.2.1 u1.2.1) fun e3=>
 .chk (decide (x2.2.2.1.length+[((u8.wrap ((BitVec.ofInt (u8.bits) (e3.1) ^^^ BitVec.ofInt (u8.bits) ((54:Int))).toNat:Nat)),())].length≤4294967296)) <|
 .ob (idx x2.2.1 u1.2.1) fun e4=>
 .chk (decide (x2.2.2.2.1.length+[((u8.wrap ((BitVec.ofInt (u8.bits) (e4.1) ^^^ BitVec.ofInt (u8.bits) ((92:Int))).toNat:Nat)),())].length≤4294967296)) <|
 .leaf (.inl (x2.1,x2.2.1,(x2.2.2.1++[((u8.wrap ((BitVec.ofInt (u8.bits) (e3.1) ^^^ BitVec.ofInt (u8.bits) ((54:Int))).toNat:Nat)),())]),(u1.1++[((u8.wrap ((BitVec.ofInt (u8.bits) (e4.1) ^^^ BitVec.ofInt (u8.bits) ((92:Int))).toNat:Nat)),())]),(i64.wrap (u1.2.1+(1:Int))),()))) (
 .leaf (.inr (x2.1,x2.2.2.1,u1.1,())))
def Am1 (a0:YBs) (a1:YBs):Tree (YBs):=
 .br (decide ((a0.1.length:Int)>(1048576:Int))) (
 .leaf (([]:List YB),())) (
 .br (decide ((a1.1.length:Int)>(1048512:Int))) (
 .leaf (([]:List YB),())) (
 .ob (W4 a0) fun r1=>
 .ob (Ay M7 (a1.1,r1.1,([]:List YB),([]:List YB),(0:Int),())) fun o5=>
 .chk (decide (o5.2.1.length+o5.1.length≤4294967296)) <|
 .ob (Aco ((o5.2.1++o5.1),())) fun r6=>
 .chk (decide (o5.2.2.1.length+r6.1.length≤4294967296)) <|
 .ob (Aco ((o5.2.2.1++r6.1),())) fun r7=>
 .leaf r7))
def Sd (a0:YBs) (a1:YBs):Option (YBs):=(Am1 a0 a1).val
def Tc (a0:YBs) (a1:YBs):Tree (YBs):=
 .ob (Sd a0 a1) fun r1=>
 .leaf r1
def Tn (a0:YBs) (a1:YBs):Option (YBs):=(Tc a0 a1).val
def Jj (x2:(List YB)×(List YB)×Int×(List YB)×(List YB)×Int×Unit):Option (((List YB)×(List YB)×Int×(List YB)×(List YB)×Int×Unit)⊕((Int×(List YB)×Unit))):=
 letI u1:=x2.2.2;letI u2:=u1.2.2;Tree.val (α:=((List YB)×(List YB)×Int×(List YB)×(List YB)×Int×Unit)⊕((Int×(List YB)×Unit))) <|
 .br (decide ((x2.2.2.2.1.length:Int)<u1.1)) (
 .chk (decide (([]:List YB).length+x2.2.2.2.2.1.length≤4294967296)) <|
 .chk (decide ((([]:List YB)++u2.1).length+x2.2.1.length≤4294967296)) <|
 .chk (decide (((([]:List YB)++u2.1)++x2.2.1).length+[((u8.wrap (u2.2.1)),())].length≤4294967296)) <|
 .ob (Sd (x2.1,()) ((((([]:List YB)++u2.1)++x2.2.1)++[((u8.wrap (u2.2.1)),())]),())) fun r3=>
 .chk (decide (x2.2.2.2.1.length+r3.1.length≤4294967296)) <|
 .leaf (.inl (x2.1,x2.2.1,u1.1,(u1.2.1++r3.1),r3.1,(i64.wrap (u2.2.1+(1:Int))),()))) (
 .leaf (.inr (u1.1,u1.2.1,())))
def Adr (a0:YBs) (a1:YBs) (a2:YI):Tree (YBs×(Bool×Unit)):=
 .ob (Bm a2 ((0:Int),()) ((8160:Int),())) fun r1=>
 .br (!r1.1) (
 .leaf ((([]:List YB),()),(false,()))) (
 .br (decide ((a1.1.length:Int)>(100:Int))) (
 .leaf ((([]:List YB),()),(false,()))) (
 .br (decide ((a0.1.length:Int)>(1048576:Int))) (
 .leaf ((([]:List YB),()),(false,()))) (
 .ob (Ay Jj (a0.1,a1.1,a2.1,([]:List YB),([]:List YB),(1:Int),())) fun o4=>
 .chk (decide ((0:Int)≤o4.1)) <|
 .chk (decide (o4.1≤(o4.2.1.length:Int))) <|
 .chk (decide (([]:List YB).length+((o4.2.1.take (o4.1).toNat).drop ((0:Int)).toNat).length≤4294967296)) <|
 .leaf (((([]:List YB)++((o4.2.1.take (o4.1).toNat).drop ((0:Int)).toNat)),()),(true,())))))
def Afa (a0:YBs) (a1:YBs) (a2:YI):Option (YBs×(Bool×Unit)):=(Adr a0 a1 a2).val
def Ads (a0:YBs) (a1:ByteArray×Unit):Tree (YBs):=
 .chk (decide (a1.1.size≤4294967296)) <|
 .ob (Afa a0 ((Qy a1.1),()) ((32:Int),())) fun r1=>
 .leaf r1.1
def Cs (a0:YBs) (a1:ByteArray×Unit):Option (YBs):=(Ads a0 a1).val
def Um (a0:YBs):Tree (YBs):=
 .ob (Pm a0) fun r1=>
 .br (!r1.1) (
 .leaf (([]:List YB),())) (
 .ob (Tn ([((114:Int),()),((111:Int),()),((97:Int),()),((109:Int),())],()) a0) fun r2=>
 .ob (Cs r2 ((Cy [102,105,110,105,115,104]),())) fun r3=>
 .leaf r3)
def Ux (a0:YBs):Option (YBs):=(Um a0).val
def Un (a0:YI) (a1:YBs) (a2:YBs) (a3:YI) (a4:YBs):Tree (YBs):=
 .ob (Bm a0 ((1:Int),()) ((9:Int),())) fun r1=>
 .br (!r1.1) (
 .leaf (([]:List YB),())) (
 .br ((a1.1.length:Int) != (12:Int)) (
 .leaf (([]:List YB),())) (
 .br ((a2.1.length:Int) != (12:Int)) (
 .leaf (([]:List YB),())) (
 .ob (Bm a3 ((0:Int),()) ((1000000:Int),())) fun r2=>
 .br (!r2.1) (
 .leaf (([]:List YB),())) (
 .br ((a4.1.length:Int) != (16:Int)) (
 .leaf (([]:List YB),())) (
 .chk (decide ([((102:Int),()),((u8.wrap (a0.1)),())].length+a1.1.length≤4294967296)) <|
 .chk (decide (([((102:Int),()),((u8.wrap (a0.1)),())]++a1.1).length+a2.1.length≤4294967296)) <|
 .ob (F5 ((([((102:Int),()),((u8.wrap (a0.1)),())]++a1.1)++a2.1),()) a3 ((4:Int),())) fun r3=>
 .chk (decide (r3.1.length+a4.1.length≤4294967296)) <|
 .leaf ((r3.1++a4.1),()))))))
def Uy (a0:YI) (a1:YBs) (a2:YBs) (a3:YI) (a4:YBs):Option (YBs):=(Un a0 a1 a2 a3 a4).val
def Aro (a0:YBs) (a1:YBs):Tree (YBs):=
 .ob (Sd a0 a1) fun r1=>
 .br (decide ((r1.1.length:Int)<(16:Int))) (
 .leaf (([]:List YB),())) (
 .chk (decide ((16:Int)≤(r1.1.length:Int))) <|
 .chk (decide (([]:List YB).length+((r1.1.take ((16:Int)).toNat).drop ((0:Int)).toNat).length≤4294967296)) <|
 .leaf ((([]:List YB)++((r1.1.take ((16:Int)).toNat).drop ((0:Int)).toNat)),()))
def Acp (a0:YBs) (a1:YBs):Option (YBs):=(Aro a0 a1).val
def Ahz (a0:YBs) (a1:YI) (a2:YBs) (a3:YBs) (a4:YI) (a5:YBs):Tree (YBs):=
 .ob (Ux a0) fun r1=>
 .ob (Uy a1 a2 a3 a4 a5) fun r2=>
 .br ((r1.1.length:Int)==(0:Int)) (
 .leaf (([]:List YB),())) (
 .br ((r2.1.length:Int)==(0:Int)) (
 .leaf (([]:List YB),())) (
 .ob (Acp r1 r2) fun r3=>
 .leaf r3))
def Zo (a0:YBs) (a1:YI) (a2:YBs) (a3:YBs) (a4:YI) (a5:YBs):Option (YBs):=(Ahz a0 a1 a2 a3 a4 a5).val
def Adu (a0:Aq):Tree (Aq):=
 letI u1:=a0.2.2.2;letI u2:=u1.2.2.2;.chk (decide (([]:List YB).length+a0.2.2.1.length≤4294967296)) <|
 .chk (decide (([]:List YB).length+a0.2.2.2.1.length≤4294967296)) <|
 .chk (decide (([]:List YB).length+a0.2.2.2.2.2.1.length≤4294967296)) <|
 .chk (decide (([]:List YB).length+a0.2.2.2.2.2.2.1.length≤4294967296)) <|
 .chk (decide (([]:List YB).length+a0.2.2.2.2.2.2.2.2.2.1.length≤4294967296)) <|
 .chk (decide (([]:List YB).length+a0.2.2.2.2.2.2.2.2.2.2.1.length≤4294967296)) <|
 .leaf (a0.1,a0.2.1,(([]:List YB)++a0.2.2.1),(([]:List YB)++u1.1),u1.2.1,(([]:List YB)++u1.2.2.1),(([]:List YB)++u2.1),u2.2.1,u2.2.2.1,(([]:List YB)++u2.2.2.2.1),(([]:List YB)++u2.2.2.2.2.1),())
def Vh (a0:Aq):Option (Aq):=(Adu a0).val
def Qg (a0:YBs) (a1:YI) (a2:Aq):Tree (Aq×(Bool×Unit)):=
 .ob (Ll a2) fun r1=>
 .br (!r1.1) (
 .leaf (((0:Int),(0:Int),([]:List YB),([]:List YB),(0:Int),([]:List YB),([]:List YB),(0:Int),(0:Int),([]:List YB),([]:List YB),()),(false,()))) (
 .br (a2.1 != (2:Int)) (
 .leaf (((0:Int),(0:Int),([]:List YB),([]:List YB),(0:Int),([]:List YB),([]:List YB),(0:Int),(0:Int),([]:List YB),([]:List YB),()),(false,()))) (
 .ob (Zo a0 a1 (a2.2.2.1,()) (a2.2.2.2.1,()) (a2.2.2.2.2.1,()) (a2.2.2.2.2.2.1,())) fun r2=>
 .br ((r2.1.length:Int)==(0:Int)) (
 .leaf (((0:Int),(0:Int),([]:List YB),([]:List YB),(0:Int),([]:List YB),([]:List YB),(0:Int),(0:Int),([]:List YB),([]:List YB),()),(false,()))) (
 .ob (Vh a2) fun r3=>letI u1:=r3.2.2.2;letI u2:=u1.2.2.2.2;
 .leaf (((3:Int),a1.1,r3.2.2.1,u1.1,u1.2.1,u1.2.2.1,r2.1,u2.1,u2.2.1,u2.2.2.1,u2.2.2.2.1,()),(true,())))))
def Jz (a0:YBs) (a1:YI) (a2:Aq):Option (Aq×(Bool×Unit)):=(Qg a0 a1 a2).val
def Ah1 (a0:Az) (a1:(List YI)×Unit):Tree (YI×Az):=
 .ob (Bn a0 ((a1.1.length:Int),())) fun r1=>
 .ob (idx a1.1 r1.1.1) fun e2=>
 .leaf (e2,(a0.1,r1.2.2.1,r1.2.2.2.1,()))
def B6 (a0:Az) (a1:(List YI)×Unit):Option (YI×Az):=(Ah1 a0 a1).val
def We (a0:YI):Tree (Bu):=
 .ob (Bm a0 ((0:Int),()) ((255:Int),())) fun r1=>
 .br (!r1.1) (
 .leaf ((0:Int),(0:Int),())) (
 .leaf ((i64.wrap ((167772160:Int)+a0.1)),(i64.wrap ((7000:Int)+a0.1)),()))
def G4 (a0:YI):Option (Bu):=(We a0).val
def Adv (a0:Bu):Tree ((Bool×Unit)):=
 .ob (Bm (a0.1,()) ((0:Int),()) ((4294967295:Int),())) fun r1=>
 .br r1.1 (
 .ob (Bm (a0.2.1,()) ((0:Int),()) ((65535:Int),())) fun r2=>
 .leaf r2) (
 .leaf (false,()))
def Iw (a0:Bu):Option ((Bool×Unit)):=(Adv a0).val
def Aao (a0:YBs) (a1:YBs) (a2:YBs):Tree (YBs):=
 .ob (Pm a0) fun r1=>
 .br (!r1.1) (
 .leaf (([]:List YB),())) (
 .br ((a1.1.length:Int) != (12:Int)) (
 .leaf (([]:List YB),())) (
 .br ((a2.1.length:Int) != (12:Int)) (
 .leaf (([]:List YB),())) (
 .chk (decide (([]:List YB).length+a1.1.length≤4294967296)) <|
 .chk (decide ((([]:List YB)++a1.1).length+a2.1.length≤4294967296)) <|
 .ob (Tn (((([]:List YB)++a1.1)++a2.1),()) a0) fun r2=>
 .leaf r2)))
def Abd (a0:YBs) (a1:YBs) (a2:YBs):Option (YBs):=(Aao a0 a1 a2).val
def Wg (a0:YBs):Tree (YBs):=
 .br ((a0.1.length:Int) != (32:Int)) (
 .leaf (([]:List YB),())) (
 .ob (Cs a0 ((Cy [101,112,111,99,104]),())) fun r1=>
 .leaf r1)
def W5 (a0:YBs):Option (YBs):=(Wg a0).val
def Lh (x2:Int×(List YB)×Int×Unit):Option ((Int×(List YB)×Int×Unit)⊕(YBs)):=
 Tree.val (α:=(Int×(List YB)×Int×Unit)⊕(YBs)) <|
 .br (decide (x2.2.2.1<x2.1)) (
 .ob (Cs (x2.2.1,()) ((Cy [114,101,107,101,121]),())) fun r3=>
 .leaf (.inl (x2.1,r3.1,(i64.wrap (x2.2.2.1+(1:Int))),()))) (
 .leaf (.inr (x2.2.1,())))
def Ah3 (a0:YBs) (a1:YI):Tree (YBs):=
 .ob (Bm a1 ((0:Int),()) ((64:Int),())) fun r1=>
 .br (!r1.1) (
 .leaf (([]:List YB),())) (
 .chk (decide (([]:List YB).length+a0.1.length≤4294967296)) <|
 .ob (Ay Lh (a1.1,(([]:List YB)++a0.1),(0:Int),())) fun o4=>
 .leaf o4)
def Ai7 (a0:YBs) (a1:YI):Option (YBs):=(Ah3 a0 a1).val
def Wh (a0:YBs) (a1:YBs) (a2:YBs) (a3:YI):Tree (YBs):=
 .ob (Abd a0 a1 a2) fun r1=>
 .ob (W5 r1) fun r2=>
 .br ((r2.1.length:Int)==(0:Int)) (
 .leaf r2) (
 .ob (Ai7 r2 a3) fun r3=>
 .leaf r3)
def W6 (a0:YBs) (a1:YBs) (a2:YBs) (a3:YI):Option (YBs):=(Wh a0 a1 a2 a3).val
def Jk (x1:Int×Int×(List YI)×Int×(List YI)×Unit):Option ((Int×Int×(List YI)×Int×(List YI)×Unit)⊕((Int×(List YI)×Int×(List YI)×Unit))):=
 letI u1:=x1.2.2;Tree.val (α:=(Int×Int×(List YI)×Int×(List YI)×Unit)⊕((Int×(List YI)×Int×(List YI)×Unit))) <|
 .br (decide (x1.1<(32:Int))) (
 .chk (decide (x1.2.2.2.2.1.length+[((0:Int),())].length≤4294967296)) <|
 .leaf (.inl ((i64.wrap (x1.1+(1:Int))),x1.2.1,u1.1,u1.2.1,(u1.2.2.1++[((0:Int),())]),()))) (
 .leaf (.inr (x1.2.1,u1.1,u1.2.1,u1.2.2.1,())))
def Adx:Tree (B8):=
 .ob (Ay Jk ((0:Int),(0:Int),([]:List YI),(-1:Int),([]:List YI),())) fun o2=>
 .leaf (o2.2.2.1,o2.2.2.2.1,())
def Vi:Option (B8):=(Adx).val
def Ts (a0:YI) (a1:YBs):Tree (YEp):=
 .ob (Bm a0 ((0:Int),()) ((4294967295:Int),())) fun r1=>
 .br (!r1.1) (
 .leaf ((0:Int),([]:List YB),(0:Int),(0:Int),([]:List YI),())) (
 .br ((a1.1.length:Int) != (32:Int)) (
 .leaf ((0:Int),([]:List YB),(0:Int),(0:Int),([]:List YI),())) (
 .chk (decide (([]:List YB).length+a1.1.length≤4294967296)) <|
 .ob Vi fun r2=>
 .leaf (a0.1,(([]:List YB)++a1.1),(0:Int),r2.1,r2.2.1,())))
def Dz (a0:YI) (a1:YBs):Option (YEp):=(Ts a0 a1).val
def Te (a0:YI) (a1:YBs) (a2:YBs):Tree (Aj):=
 .ob (Bm a0 ((0:Int),()) ((1:Int),())) fun r1=>
 .br (!r1.1) (
 .leaf ((0:Int),([]:List YB),(0:Int),([]:List YB),(0:Int),(0:Int),([]:List YI),(0:Int),([]:List YB),(0:Int),(0:Int),([]:List YI),false,(0:Int),([]:List YB),())) (
 .br ((a1.1.length:Int) != (12:Int)) (
 .leaf ((0:Int),([]:List YB),(0:Int),([]:List YB),(0:Int),(0:Int),([]:List YI),(0:Int),([]:List YB),(0:Int),(0:Int),([]:List YI),false,(0:Int),([]:List YB),())) (
 .br ((a2.1.length:Int) != (32:Int)) (
 .leaf ((0:Int),([]:List YB),(0:Int),([]:List YB),(0:Int),(0:Int),([]:List YI),(0:Int),([]:List YB),(0:Int),(0:Int),([]:List YI),false,(0:Int),([]:List YB),())) (
 .chk (decide (([]:List YB).length+a1.1.length≤4294967296)) <|
 .ob (Dz ((0:Int),()) a2) fun r2=>
 .leaf (a0.1,(([]:List YB)++a1.1),r2.1,r2.2.1,r2.2.2.1,r2.2.2.2.1,r2.2.2.2.2.1,(0:Int),([]:List YB),(0:Int),(0:Int),([]:List YI),false,(0:Int),([]:List YB),()))))
def Ho (a0:YI) (a1:YBs) (a2:YBs):Option (Aj):=(Te a0 a1 a2).val
def Ah6 (a0:Bu):Tree (A9):=
 .leaf (a0.1,a0.2.1,([]:List Al),())
def Mi (a0:Bu):Option (A9):=(Ah6 a0).val
def Tf (a0:YBs) (a1:YI) (a2:Bu) (a3:Aq):Tree (Bd):=
 letI u1:=a3.2.2;.ob (Pm a0) fun r1=>
 .br (!r1.1) (
 .leaf ((0:Int),([]:List YB),([]:List YB),(0:Int),([]:List YB),(0:Int),([]:List YB),(0:Int),(0:Int),([]:List YI),(0:Int),([]:List YB),(0:Int),(0:Int),([]:List YI),false,(0:Int),([]:List YB),(0:Int),(0:Int),([]:List Al),(0:Int),(0:Int),false,())) (
 .ob (Bm a1 ((0:Int),()) ((1000000:Int),())) fun r2=>
 .br (!r2.1) (
 .leaf ((0:Int),([]:List YB),([]:List YB),(0:Int),([]:List YB),(0:Int),([]:List YB),(0:Int),(0:Int),([]:List YI),(0:Int),([]:List YB),(0:Int),(0:Int),([]:List YI),false,(0:Int),([]:List YB),(0:Int),(0:Int),([]:List Al),(0:Int),(0:Int),false,())) (
 .ob (Iw a2) fun r3=>
 .br (!r3.1) (
 .leaf ((0:Int),([]:List YB),([]:List YB),(0:Int),([]:List YB),(0:Int),([]:List YB),(0:Int),(0:Int),([]:List YI),(0:Int),([]:List YB),(0:Int),(0:Int),([]:List YI),false,(0:Int),([]:List YB),(0:Int),(0:Int),([]:List Al),(0:Int),(0:Int),false,())) (
 .ob (Ll a3) fun r4=>
 .br (!r4.1) (
 .leaf ((0:Int),([]:List YB),([]:List YB),(0:Int),([]:List YB),(0:Int),([]:List YB),(0:Int),(0:Int),([]:List YI),(0:Int),([]:List YB),(0:Int),(0:Int),([]:List YI),false,(0:Int),([]:List YB),(0:Int),(0:Int),([]:List Al),(0:Int),(0:Int),false,())) (
 .br (a3.1 != (3:Int)) (
 .leaf ((0:Int),([]:List YB),([]:List YB),(0:Int),([]:List YB),(0:Int),([]:List YB),(0:Int),(0:Int),([]:List YI),(0:Int),([]:List YB),(0:Int),(0:Int),([]:List YI),false,(0:Int),([]:List YB),(0:Int),(0:Int),([]:List Al),(0:Int),(0:Int),false,())) (
 .chk (decide (([]:List YB).length+a3.2.2.1.length≤4294967296)) <|
 .chk (decide (([]:List YB).length+a3.2.2.2.1.length≤4294967296)) <|
 .ob (W6 a0 (u1.1,()) (u1.2.1,()) ((0:Int),())) fun r5=>
 .ob (Ho ((1:Int),()) (u1.2.1,()) r5) fun r6=>letI u2:=r6.2.2.2;letI u3:=u2.2.2.2;letI u4:=u3.2.2.2.2;
 .ob (Mi a2) fun r7=>
 .leaf (a3.2.1,(([]:List YB)++u1.1),(([]:List YB)++u1.2.1),r6.1,r6.2.1,r6.2.2.1,u2.1,u2.2.1,u2.2.2.1,u3.1,u3.2.1,u3.2.2.1,u3.2.2.2.1,u4.1,u4.2.1,u4.2.2.1,u4.2.2.2.1,u4.2.2.2.2.1,r7.1,r7.2.1,r7.2.2.1,u1.2.2.1,a1.1,false,()))))))
def N5 (a0:YBs) (a1:YI) (a2:Bu) (a3:Aq):Option (Bd):=(Tf a0 a1 a2 a3).val
def Adz (a0:Az) (a1:YI):Tree ((Bool×Unit)×Az):=
 .ob (Bn a0 a1) fun r1=>
 .leaf (((r1.1.1==(0:Int)),()),(a0.1,r1.2.2.1,r1.2.2.2.1,()))
def Ap (a0:Az) (a1:YI):Option ((Bool×Unit)×Az):=(Adz a0 a1).val
def Qh (x3:(List YI)×Int×Int×(List YB)×Int×Int×Unit):Option (((List YI)×Int×Int×(List YB)×Int×Int×Unit)⊕(((List YI)×(List YB)×Int×Int×Unit))):=
 letI u1:=x3.2.2.2;Tree.val (α:=((List YI)×Int×Int×(List YB)×Int×Int×Unit)⊕(((List YI)×(List YB)×Int×Int×Unit))) <|
 .br (decide (x3.2.2.1>(0:Int))) (
 .ob (Ap (u1.1,u1.2.1,u1.2.2.1,()) ((6:Int),())) fun r4=>
 .br r4.1.1 (
 .ob (B6 (u1.1,r4.2.2.1,r4.2.2.2.1,()) ([((1:Int),()),((32:Int),()),((900:Int),()),((1023:Int),()),((1024:Int),()),((1025:Int),()),((3000:Int),())],())) fun r5=>
 .ob (Bn (u1.1,r5.2.2.1,r5.2.2.2.1,()) ((40:Int),())) fun r6=>
 .ob (B6 (u1.1,r6.2.2.1,r6.2.2.2.1,()) ([((0:Int),()),((0:Int),()),((20:Int),()),((1000:Int),())],())) fun r7=>
 .chk (decide (x3.1.length+[((i64.wrap ((i64.wrap ((i64.wrap (x3.2.1+r5.1.1))+r6.1.1))-r7.1.1)),())].length≤4294967296)) <|
 .leaf (.inl ((x3.1++[((i64.wrap ((i64.wrap ((i64.wrap (x3.2.1+r5.1.1))+r6.1.1))-r7.1.1)),())]),(i64.wrap (x3.2.1+r5.1.1)),(i64.wrap (x3.2.2.1-(1:Int))),u1.1,r7.2.2.1,r7.2.2.2.1,()))) (
 .ob (Bn (u1.1,r4.2.2.1,r4.2.2.2.1,()) ((40:Int),())) fun r8=>
 .ob (B6 (u1.1,r8.2.2.1,r8.2.2.2.1,()) ([((0:Int),()),((0:Int),()),((20:Int),()),((1000:Int),())],())) fun r9=>
 .chk (decide (x3.1.length+[((i64.wrap ((i64.wrap (x3.2.1+r8.1.1))-r9.1.1)),())].length≤4294967296)) <|
 .leaf (.inl ((x3.1++[((i64.wrap ((i64.wrap (x3.2.1+r8.1.1))-r9.1.1)),())]),x3.2.1,(i64.wrap (x3.2.2.1-(1:Int))),u1.1,r9.2.2.1,r9.2.2.2.1,())))) (
 .leaf (.inr (x3.1,u1.1,u1.2.1,u1.2.2.1,())))
def Ad0 (a0:Az) (a1:YI):Tree (((List YI)×Unit)×Az):=
 .ob (B6 a0 ([((0:Int),()),((0:Int),()),((0:Int),()),((1000:Int),()),((5000:Int),()),((281474976710000:Int),())],())) fun r1=>
 .ob (Bn (a0.1,r1.2.2.1,r1.2.2.2.1,()) ((i64.wrap (a1.1+(1:Int))),())) fun r2=>
 .ob (Ay Qh (([]:List YI),r1.1.1,r2.1.1,a0.1,r2.2.2.1,r2.2.2.2.1,())) fun o10=>
 .ob (Ap (o10.2.1,o10.2.2.1,o10.2.2.2.1,()) ((5:Int),())) fun r11=>
 .br r11.1.1 (
 .ob (B6 (o10.2.1,r11.2.2.1,r11.2.2.2.1,()) ([((-1:Int),()),((281474976710655:Int),()),((281474976710656:Int),())],())) fun r12=>
 .chk (decide (o10.1.length+[r12.1].length≤4294967296)) <|
 .leaf (((o10.1++[r12.1]),()),(o10.2.1,r12.2.2.1,r12.2.2.2.1,()))) (
 .leaf ((o10.1,()),(o10.2.1,r11.2.2.1,r11.2.2.2.1,())))
def Afb (a0:Az) (a1:YI):Option (((List YI)×Unit)×Az):=(Ad0 a0 a1).val
def Aov (a0:B8):Tree (B8):=
 .chk (decide (([]:List YI).length+a0.2.1.length≤4294967296)) <|
 .leaf (a0.1,(([]:List YI)++a0.2.1),())
def Afc (a0:B8):Option (B8):=(Aov a0).val
def Ah8 (a0:B8) (a1:YI):Tree ((Bool×Unit)):=
 .chk (decide ((0:Int)≤a1.1)) <|
 .chk (decide ((0:Int)≤(a1.1%(1024:Int)))) <|
 .ob (idx a0.2.1 ((a1.1%(1024:Int))/(32:Int))) fun e1=>
 .chk (decide ((0:Int)≤(a1.1%(1024:Int)))) <|
 .chk (decide ((0:Int)≤((a1.1%(1024:Int))%(32:Int)))) <|
 .leaf (((i64.wrap ((BitVec.ofInt (i64.bits) ((Int.fdiv e1.1 (2^(min (((a1.1%(1024:Int))%(32:Int))).toNat i64.bits)))) &&& BitVec.ofInt (i64.bits) ((1:Int))).toNat:Nat))==(1:Int)),())
def T5 (a0:B8) (a1:YI):Option ((Bool×Unit)):=(Ah8 a0 a1).val
def Jb (x2:Int×Int×(List YI)×Unit):Option ((Int×Int×(List YI)×Unit)⊕((Bool×Unit)⊕B8)):=
 Tree.val (α:=(Int×Int×(List YI)×Unit)⊕((Bool×Unit)⊕B8)) <|
 .br (decide (x2.1<(32:Int))) (
 .ob (idx x2.2.2.1 x2.1) fun e3=>
 .ob (Bm e3 ((0:Int),()) ((4294967295:Int),())) fun r4=>
 .br (!r4.1) (
 .leaf (.inr (.inl (false,())))) (
 .leaf (.inl ((i64.wrap (x2.1+(1:Int))),x2.2.1,x2.2.2.1,())))) (
 .leaf (.inr (.inr (x2.2.1,x2.2.2.1,()))))
def Gj (x9:Int×Int×(List YI)×Unit):Option ((Int×Int×(List YI)×Unit)⊕((Bool×Unit)⊕(Unit))):=
 Tree.val (α:=(Int×Int×(List YI)×Unit)⊕((Bool×Unit)⊕(Unit))) <|
 .br (decide (x9.1<(1024:Int))) (
 .ob (T5 (x9.2.1,x9.2.2.1,()) (x9.1,())) fun r10=>
 .br r10.1 (
 .leaf (.inr (.inl (false,())))) (
 .leaf (.inl ((i64.wrap (x9.1+(1:Int))),x9.2.1,x9.2.2.1,())))) (
 .leaf (.inr (.inr ())))
def Zi (a0:B8):Tree ((Bool×Unit)):=
 .br ((a0.2.1.length:Int) != (32:Int)) (
 .leaf (false,())) (
 .ob (Bm (a0.1,()) ((-1:Int),()) ((281474976710655:Int),())) fun r1=>
 .br (!r1.1) (
 .leaf (false,())) (
 .ob (Ay Jb ((0:Int),a0.1,a0.2.1,())) fun o5=>
 .sm o5 (fun o6=>
 .leaf o6) (fun o7=>
 .br (decide (o7.1≥(0:Int))) (
 .ob (T5 o7 (o7.1,())) fun r8=>
 .br (!r8.1) (
 .leaf (false,())) (
 .ob (Ay Gj ((i64.wrap (o7.1+(1:Int))),o7.1,o7.2.1,())) fun o11=>
 .sm o11 (fun o12=>
 .leaf o12) (fun o13=>
 .leaf (true,())))) (
 .ob (Ay Gj ((i64.wrap (o7.1+(1:Int))),o7.1,o7.2.1,())) fun o14=>
 .sm o14 (fun o15=>
 .leaf o15) (fun o16=>
 .leaf (true,()))))))
def Zp (a0:B8):Option ((Bool×Unit)):=(Zi a0).val
def Aaq (a0:YI):Tree (YI):=
 .br (decide (a0.1<(1024:Int))) (
 .leaf ((0:Int),())) (
 .leaf ((i64.wrap ((i64.wrap (a0.1-(1024:Int)))+(1:Int))),()))
def Al3 (a0:YI):Option (YI):=(Aaq a0).val
def Ad1 (a0:B8) (a1:YI):Tree ((Bool×Unit)):=
 .ob (Zp a0) fun r1=>
 .br (!r1.1) (
 .leaf (false,())) (
 .ob (Bm a1 ((0:Int),()) ((281474976710655:Int),())) fun r2=>
 .br (!r2.1) (
 .leaf (false,())) (
 .br (decide (a1.1>a0.1)) (
 .leaf (true,())) (
 .ob (Al3 (a0.1,())) fun r3=>
 .br (decide (a1.1≥r3.1)) (
 .ob (T5 a0 a1) fun r4=>
 .leaf ((!r4.1),())) (
 .leaf (false,())))))
def Vj (a0:B8) (a1:YI):Option ((Bool×Unit)):=(Ad1 a0 a1).val
def Jl (x3:Int×Int×Int×Int×(List YI)×Int×(List YI)×Int×(List YI)×Unit):Option ((Int×Int×Int×Int×(List YI)×Int×(List YI)×Int×(List YI)×Unit)⊕((Int×Int×(List YI)×Int×(List YI)×Int×(List YI)×Unit))):=
 letI u1:=x3.2.2;letI u2:=u1.2.2;letI u3:=u2.2.2;Tree.val (α:=(Int×Int×Int×Int×(List YI)×Int×(List YI)×Int×(List YI)×Unit)⊕((Int×Int×(List YI)×Int×(List YI)×Int×(List YI)×Unit))) <|
 .br (decide (u1.1≤x3.1)) (
 .br (decide (x3.2.1<(1024:Int))) (
 .chk (decide ((0:Int)≤u1.1)) <|
 .chk (decide ((0:Int)≤(u1.1%(1024:Int)))) <|
 .chk (decide ((0:Int)≤(u1.1%(1024:Int)))) <|
 .ob (idx u3.2.2.1 ((u1.1%(1024:Int))/(32:Int))) fun e4=>
 .chk (decide ((0:Int)≤(u1.1%(1024:Int)))) <|
 .chk (decide ((0:Int)≤((u1.1%(1024:Int))%(32:Int)))) <|
 .ob (idx u3.2.2.1 ((u1.1%(1024:Int))/(32:Int))) fun e5=>
 let q6:=(x3.2.2.2.2.2.2.2.2.1.set (((u1.1%(1024:Int))/(32:Int))).toNat ((i64.wrap ((BitVec.ofInt (i64.bits) (e4.1) &&& ~~~ BitVec.ofInt (i64.bits) ((i64.wrap ((1:Int)*2^(min (((u1.1%(1024:Int))%(32:Int))).toNat i64.bits))))).toNat:Nat)),()))
 .leaf (.inl (x3.1,(i64.wrap (x3.2.1+(1:Int))),(i64.wrap (u1.1+(1:Int))),u1.2.1,u2.1,u2.2.1,u3.1,u3.2.1,q6,()))) (
 .leaf (.inr (x3.1,u1.2.1,u2.1,u2.2.1,u3.1,u3.2.1,u3.2.2.1,())))) (
 .leaf (.inr (x3.1,u1.2.1,u2.1,u2.2.1,u3.1,u3.2.1,u3.2.2.1,())))
def Ad2 (a0:B8) (a1:YI):Tree (B8×(Bool×Unit)):=
 .ob (Afc a0) fun r1=>
 .ob (Vj a0 a1) fun r2=>
 .br (!r2.1) (
 .leaf (r1,(false,()))) (
 .ob (Ay Jl (a1.1,(0:Int),(i64.wrap (a0.1+(1:Int))),a0.1,a0.2.1,(0:Int),([]:List YI),r1.1,r1.2.1,())) fun o7=>letI u1:=o7.2.2.2.2.2;
 .chk (decide ((0:Int)≤o7.1)) <|
 .chk (decide ((0:Int)≤(o7.1%(1024:Int)))) <|
 .chk (decide ((0:Int)≤(o7.1%(1024:Int)))) <|
 .ob (idx u1.2.1 ((o7.1%(1024:Int))/(32:Int))) fun e8=>
 .chk (decide ((0:Int)≤(o7.1%(1024:Int)))) <|
 .chk (decide ((0:Int)≤((o7.1%(1024:Int))%(32:Int)))) <|
 .ob (idx u1.2.1 ((o7.1%(1024:Int))/(32:Int))) fun e9=>
 let q10:=(o7.2.2.2.2.2.2.1.set (((o7.1%(1024:Int))/(32:Int))).toNat ((i64.wrap ((BitVec.ofInt (i64.bits) (e8.1) ||| BitVec.ofInt (i64.bits) ((i64.wrap ((1:Int)*2^(min (((o7.1%(1024:Int))%(32:Int))).toNat i64.bits))))).toNat:Nat)),()))
 .br (decide (o7.1>o7.2.1)) (
 .leaf ((o7.1,q10,()),(true,()))) (
 .leaf ((u1.1,q10,()),(true,()))))
def Qz (a0:B8) (a1:YI):Option (B8×(Bool×Unit)):=(Ad2 a0 a1).val
def Nu (x2:(List YI)×Int×Int×(List YI)×Int×(List YI)×Unit):Option (((List YI)×Int×Int×(List YI)×Int×(List YI)×Unit)⊕((Int×(List YI)×Int×(List YI)×Unit))):=
 letI u1:=x2.2.2.2;Tree.val (α:=((List YI)×Int×Int×(List YI)×Int×(List YI)×Unit)⊕((Int×(List YI)×Int×(List YI)×Unit))) <|
 .br (decide (x2.2.1<(x2.1.length:Int))) (
 .ob (idx x2.1 x2.2.1) fun e3=>
 .ob (Qz (u1.2.1,u1.2.2.1,()) e3) fun r4=>
 .leaf (.inl (x2.1,(i64.wrap (x2.2.1+(1:Int))),x2.2.2.1,u1.1,r4.1.1,r4.1.2.1,()))) (
 .leaf (.inr (x2.2.2.1,u1.1,u1.2.1,u1.2.2.1,())))
def Zj (a0:(List YI)×Unit):Tree (B8):=
 .ob Vi fun r1=>
 .ob (Ay Nu (a0.1,(0:Int),(0:Int),([]:List YI),r1.1,r1.2.1,())) fun o5=>
 .leaf (o5.2.2.1,o5.2.2.2.1,())
def T6 (a0:(List YI)×Unit):Option (B8):=(Zj a0).val
def Va (a0:Az):Tree (B8×Az):=
 .ob (Afb a0 ((12:Int),())) fun r1=>
 .ob (T6 r1.1) fun r2=>
 .leaf (r2,(a0.1,r1.2.2.1,r1.2.2.2.1,()))
def Q0 (a0:Az):Option (B8×Az):=(Va a0).val
def Tg (a0:Az) (a1:YI):Tree (Aj×Az):=
 .ob (Dw a0 ((12:Int),())) fun r1=>
 .ob (Dw (a0.1,r1.2.2.1,r1.2.2.2.1,()) ((32:Int),())) fun r2=>
 .ob (Ho a1 r1.1 r2.1) fun r3=>letI u1:=r3.2.2.2;letI u2:=u1.2.2;letI u3:=u2.2.2;letI u4:=u3.2.2;letI u5:=u4.2.2;letI u6:=u5.2.2.2;
 .ob (B6 (a0.1,r2.2.2.1,r2.2.2.2.1,()) ([((0:Int),()),((0:Int),()),((3:Int),()),((281474976709656:Int),()),((281474976710656:Int),())],())) fun r4=>
 .ob (Ap (a0.1,r4.2.2.1,r4.2.2.2.1,()) ((3:Int),())) fun r5=>
 .br r5.1.1 (
 .ob (Q0 (a0.1,r5.2.2.1,r5.2.2.2.1,())) fun r6=>
 .ob (Ap (a0.1,r6.2.2.1,r6.2.2.2.1,()) ((2:Int),())) fun r7=>letI u7:=r7.2.2;
 .br r7.1.1 (
 .ob (B6 (a0.1,u7.1,u7.2.1,()) ([((1:Int),()),((1:Int),()),((2:Int),()),((4294967295:Int),())],())) fun r8=>
 .ob (Cs (u1.1,()) ((Cy [114,101,107,101,121]),())) fun r9=>
 .ob (Dz r8.1 r9) fun r10=>letI u8:=r10.2.2;letI u9:=u8.2.2;
 .ob (B6 (a0.1,r8.2.2.1,r8.2.2.2.1,()) ([((-1:Int),()),((0:Int),()),((5:Int),()),((7:Int),()),((1000005:Int),())],())) fun r11=>letI u10:=r11.2.2;
 .br (a1.1==(0:Int)) (
 .br (decide (r11.1.1<(0:Int))) (
 .br (a1.1==(0:Int)) (
 .br (decide (r10.1<(4294967295:Int))) (
 .ob (Ap (a0.1,u10.1,u10.2.1,()) ((2:Int),())) fun r12=>
 .br r12.1.1 (
 .ob (Cs (r10.2.1,()) ((Cy [114,101,107,101,121]),())) fun r13=>
 .leaf ((r3.1,r3.2.1,r10.1,r10.2.1,u8.1,u8.2.1,u9.1,(i64.wrap (r10.1-(1:Int))),u1.1,r4.1.1,r6.1.1,r6.1.2.1,true,(5:Int),r13.1,()),(a0.1,r12.2.2.1,r12.2.2.2.1,()))) (
 .leaf ((r3.1,r3.2.1,r10.1,r10.2.1,u8.1,u8.2.1,u9.1,(i64.wrap (r10.1-(1:Int))),u1.1,r4.1.1,r6.1.1,r6.1.2.1,true,(5:Int),u6.1,()),(a0.1,r12.2.2.1,r12.2.2.2.1,())))) (
 .leaf ((r3.1,r3.2.1,r10.1,r10.2.1,u8.1,u8.2.1,u9.1,(i64.wrap (r10.1-(1:Int))),u1.1,r4.1.1,r6.1.1,r6.1.2.1,true,(5:Int),u6.1,()),(a0.1,u10.1,u10.2.1,())))) (
 .leaf ((r3.1,r3.2.1,r10.1,r10.2.1,u8.1,u8.2.1,u9.1,(i64.wrap (r10.1-(1:Int))),u1.1,r4.1.1,r6.1.1,r6.1.2.1,true,(5:Int),u6.1,()),(a0.1,u10.1,u10.2.1,())))) (
 .br (a1.1==(0:Int)) (
 .br (decide (r10.1<(4294967295:Int))) (
 .ob (Ap (a0.1,u10.1,u10.2.1,()) ((2:Int),())) fun r14=>
 .br r14.1.1 (
 .ob (Cs (r10.2.1,()) ((Cy [114,101,107,101,121]),())) fun r15=>
 .leaf ((r3.1,r3.2.1,r10.1,r10.2.1,u8.1,u8.2.1,u9.1,(i64.wrap (r10.1-(1:Int))),u1.1,r4.1.1,r6.1.1,r6.1.2.1,true,r11.1.1,r15.1,()),(a0.1,r14.2.2.1,r14.2.2.2.1,()))) (
 .leaf ((r3.1,r3.2.1,r10.1,r10.2.1,u8.1,u8.2.1,u9.1,(i64.wrap (r10.1-(1:Int))),u1.1,r4.1.1,r6.1.1,r6.1.2.1,true,r11.1.1,u6.1,()),(a0.1,r14.2.2.1,r14.2.2.2.1,())))) (
 .leaf ((r3.1,r3.2.1,r10.1,r10.2.1,u8.1,u8.2.1,u9.1,(i64.wrap (r10.1-(1:Int))),u1.1,r4.1.1,r6.1.1,r6.1.2.1,true,r11.1.1,u6.1,()),(a0.1,u10.1,u10.2.1,())))) (
 .leaf ((r3.1,r3.2.1,r10.1,r10.2.1,u8.1,u8.2.1,u9.1,(i64.wrap (r10.1-(1:Int))),u1.1,r4.1.1,r6.1.1,r6.1.2.1,true,r11.1.1,u6.1,()),(a0.1,u10.1,u10.2.1,()))))) (
 .br (a1.1==(0:Int)) (
 .br (decide (r10.1<(4294967295:Int))) (
 .ob (Ap (a0.1,u10.1,u10.2.1,()) ((2:Int),())) fun r16=>
 .br r16.1.1 (
 .ob (Cs (r10.2.1,()) ((Cy [114,101,107,101,121]),())) fun r17=>
 .leaf ((r3.1,r3.2.1,r10.1,r10.2.1,u8.1,u8.2.1,u9.1,(i64.wrap (r10.1-(1:Int))),u1.1,r4.1.1,r6.1.1,r6.1.2.1,true,r11.1.1,r17.1,()),(a0.1,r16.2.2.1,r16.2.2.2.1,()))) (
 .leaf ((r3.1,r3.2.1,r10.1,r10.2.1,u8.1,u8.2.1,u9.1,(i64.wrap (r10.1-(1:Int))),u1.1,r4.1.1,r6.1.1,r6.1.2.1,true,r11.1.1,u6.1,()),(a0.1,r16.2.2.1,r16.2.2.2.1,())))) (
 .leaf ((r3.1,r3.2.1,r10.1,r10.2.1,u8.1,u8.2.1,u9.1,(i64.wrap (r10.1-(1:Int))),u1.1,r4.1.1,r6.1.1,r6.1.2.1,true,r11.1.1,u6.1,()),(a0.1,u10.1,u10.2.1,())))) (
 .leaf ((r3.1,r3.2.1,r10.1,r10.2.1,u8.1,u8.2.1,u9.1,(i64.wrap (r10.1-(1:Int))),u1.1,r4.1.1,r6.1.1,r6.1.2.1,true,r11.1.1,u6.1,()),(a0.1,u10.1,u10.2.1,()))))) (
 .br (a1.1==(0:Int)) (
 .br (decide (r3.2.2.1<(4294967295:Int))) (
 .ob (Ap (a0.1,u7.1,u7.2.1,()) ((2:Int),())) fun r18=>
 .br r18.1.1 (
 .ob (Cs (u1.1,()) ((Cy [114,101,107,101,121]),())) fun r19=>
 .leaf ((r3.1,r3.2.1,r3.2.2.1,u1.1,r4.1.1,r6.1.1,r6.1.2.1,u3.1,u3.2.1,u4.1,u4.2.1,u5.1,u5.2.1,u5.2.2.1,r19.1,()),(a0.1,r18.2.2.1,r18.2.2.2.1,()))) (
 .leaf ((r3.1,r3.2.1,r3.2.2.1,u1.1,r4.1.1,r6.1.1,r6.1.2.1,u3.1,u3.2.1,u4.1,u4.2.1,u5.1,u5.2.1,u5.2.2.1,u6.1,()),(a0.1,r18.2.2.1,r18.2.2.2.1,())))) (
 .leaf ((r3.1,r3.2.1,r3.2.2.1,u1.1,r4.1.1,r6.1.1,r6.1.2.1,u3.1,u3.2.1,u4.1,u4.2.1,u5.1,u5.2.1,u5.2.2.1,u6.1,()),(a0.1,u7.1,u7.2.1,())))) (
 .leaf ((r3.1,r3.2.1,r3.2.2.1,u1.1,r4.1.1,r6.1.1,r6.1.2.1,u3.1,u3.2.1,u4.1,u4.2.1,u5.1,u5.2.1,u5.2.2.1,u6.1,()),(a0.1,u7.1,u7.2.1,()))))) (
 .ob (Ap (a0.1,r5.2.2.1,r5.2.2.2.1,()) ((2:Int),())) fun r20=>letI u11:=r20.2.2;
 .br r20.1.1 (
 .ob (B6 (a0.1,u11.1,u11.2.1,()) ([((1:Int),()),((1:Int),()),((2:Int),()),((4294967295:Int),())],())) fun r21=>
 .ob (Cs (u1.1,()) ((Cy [114,101,107,101,121]),())) fun r22=>
 .ob (Dz r21.1 r22) fun r23=>letI u12:=r23.2.2;letI u13:=u12.2.2;
 .ob (B6 (a0.1,r21.2.2.1,r21.2.2.2.1,()) ([((-1:Int),()),((0:Int),()),((5:Int),()),((7:Int),()),((1000005:Int),())],())) fun r24=>letI u14:=r24.2.2;
 .br (a1.1==(0:Int)) (
 .br (decide (r24.1.1<(0:Int))) (
 .br (a1.1==(0:Int)) (
 .br (decide (r23.1<(4294967295:Int))) (
 .ob (Ap (a0.1,u14.1,u14.2.1,()) ((2:Int),())) fun r25=>
 .br r25.1.1 (
 .ob (Cs (r23.2.1,()) ((Cy [114,101,107,101,121]),())) fun r26=>
 .leaf ((r3.1,r3.2.1,r23.1,r23.2.1,u12.1,u12.2.1,u13.1,(i64.wrap (r23.1-(1:Int))),u1.1,r4.1.1,u2.1,u2.2.1,true,(5:Int),r26.1,()),(a0.1,r25.2.2.1,r25.2.2.2.1,()))) (
 .leaf ((r3.1,r3.2.1,r23.1,r23.2.1,u12.1,u12.2.1,u13.1,(i64.wrap (r23.1-(1:Int))),u1.1,r4.1.1,u2.1,u2.2.1,true,(5:Int),u6.1,()),(a0.1,r25.2.2.1,r25.2.2.2.1,())))) (
 .leaf ((r3.1,r3.2.1,r23.1,r23.2.1,u12.1,u12.2.1,u13.1,(i64.wrap (r23.1-(1:Int))),u1.1,r4.1.1,u2.1,u2.2.1,true,(5:Int),u6.1,()),(a0.1,u14.1,u14.2.1,())))) (
 .leaf ((r3.1,r3.2.1,r23.1,r23.2.1,u12.1,u12.2.1,u13.1,(i64.wrap (r23.1-(1:Int))),u1.1,r4.1.1,u2.1,u2.2.1,true,(5:Int),u6.1,()),(a0.1,u14.1,u14.2.1,())))) (
 .br (a1.1==(0:Int)) (
 .br (decide (r23.1<(4294967295:Int))) (
 .ob (Ap (a0.1,u14.1,u14.2.1,()) ((2:Int),())) fun r27=>
 .br r27.1.1 (
 .ob (Cs (r23.2.1,()) ((Cy [114,101,107,101,121]),())) fun r28=>
 .leaf ((r3.1,r3.2.1,r23.1,r23.2.1,u12.1,u12.2.1,u13.1,(i64.wrap (r23.1-(1:Int))),u1.1,r4.1.1,u2.1,u2.2.1,true,r24.1.1,r28.1,()),(a0.1,r27.2.2.1,r27.2.2.2.1,()))) (
 .leaf ((r3.1,r3.2.1,r23.1,r23.2.1,u12.1,u12.2.1,u13.1,(i64.wrap (r23.1-(1:Int))),u1.1,r4.1.1,u2.1,u2.2.1,true,r24.1.1,u6.1,()),(a0.1,r27.2.2.1,r27.2.2.2.1,())))) (
 .leaf ((r3.1,r3.2.1,r23.1,r23.2.1,u12.1,u12.2.1,u13.1,(i64.wrap (r23.1-(1:Int))),u1.1,r4.1.1,u2.1,u2.2.1,true,r24.1.1,u6.1,()),(a0.1,u14.1,u14.2.1,())))) (
 .leaf ((r3.1,r3.2.1,r23.1,r23.2.1,u12.1,u12.2.1,u13.1,(i64.wrap (r23.1-(1:Int))),u1.1,r4.1.1,u2.1,u2.2.1,true,r24.1.1,u6.1,()),(a0.1,u14.1,u14.2.1,()))))) (
 .br (a1.1==(0:Int)) (
 .br (decide (r23.1<(4294967295:Int))) (
 .ob (Ap (a0.1,u14.1,u14.2.1,()) ((2:Int),())) fun r29=>
 .br r29.1.1 (
 .ob (Cs (r23.2.1,()) ((Cy [114,101,107,101,121]),())) fun r30=>
 .leaf ((r3.1,r3.2.1,r23.1,r23.2.1,u12.1,u12.2.1,u13.1,(i64.wrap (r23.1-(1:Int))),u1.1,r4.1.1,u2.1,u2.2.1,true,r24.1.1,r30.1,()),(a0.1,r29.2.2.1,r29.2.2.2.1,()))) (
 .leaf ((r3.1,r3.2.1,r23.1,r23.2.1,u12.1,u12.2.1,u13.1,(i64.wrap (r23.1-(1:Int))),u1.1,r4.1.1,u2.1,u2.2.1,true,r24.1.1,u6.1,()),(a0.1,r29.2.2.1,r29.2.2.2.1,())))) (
 .leaf ((r3.1,r3.2.1,r23.1,r23.2.1,u12.1,u12.2.1,u13.1,(i64.wrap (r23.1-(1:Int))),u1.1,r4.1.1,u2.1,u2.2.1,true,r24.1.1,u6.1,()),(a0.1,u14.1,u14.2.1,())))) (
 .leaf ((r3.1,r3.2.1,r23.1,r23.2.1,u12.1,u12.2.1,u13.1,(i64.wrap (r23.1-(1:Int))),u1.1,r4.1.1,u2.1,u2.2.1,true,r24.1.1,u6.1,()),(a0.1,u14.1,u14.2.1,()))))) (
 .br (a1.1==(0:Int)) (
 .br (decide (r3.2.2.1<(4294967295:Int))) (
 .ob (Ap (a0.1,u11.1,u11.2.1,()) ((2:Int),())) fun r31=>
 .br r31.1.1 (
 .ob (Cs (u1.1,()) ((Cy [114,101,107,101,121]),())) fun r32=>
 .leaf ((r3.1,r3.2.1,r3.2.2.1,u1.1,r4.1.1,u2.1,u2.2.1,u3.1,u3.2.1,u4.1,u4.2.1,u5.1,u5.2.1,u5.2.2.1,r32.1,()),(a0.1,r31.2.2.1,r31.2.2.2.1,()))) (
 .leaf ((r3.1,r3.2.1,r3.2.2.1,u1.1,r4.1.1,u2.1,u2.2.1,u3.1,u3.2.1,u4.1,u4.2.1,u5.1,u5.2.1,u5.2.2.1,u6.1,()),(a0.1,r31.2.2.1,r31.2.2.2.1,())))) (
 .leaf ((r3.1,r3.2.1,r3.2.2.1,u1.1,r4.1.1,u2.1,u2.2.1,u3.1,u3.2.1,u4.1,u4.2.1,u5.1,u5.2.1,u5.2.2.1,u6.1,()),(a0.1,u11.1,u11.2.1,())))) (
 .leaf ((r3.1,r3.2.1,r3.2.2.1,u1.1,r4.1.1,u2.1,u2.2.1,u3.1,u3.2.1,u4.1,u4.2.1,u5.1,u5.2.1,u5.2.2.1,u6.1,()),(a0.1,u11.1,u11.2.1,())))))
def N6 (a0:Az) (a1:YI):Option (Aj×Az):=(Tg a0 a1).val
def F3 (x6:Int×Int×Int×Int×(List Al)×Int×Int×(List YB)×Int×Unit):Option ((Int×Int×Int×Int×(List Al)×Int×Int×(List YB)×Int×Unit)⊕((Bool×Unit)⊕(Int×Int×Int×(List Al)×Unit))):=
 letI u1:=x6.2.2;letI u2:=u1.2.2;Tree.val (α:=(Int×Int×Int×Int×(List Al)×Int×Int×(List YB)×Int×Unit)⊕((Bool×Unit)⊕(Int×Int×Int×(List Al)×Unit))) <|
 .br (decide (x6.2.1<x6.1)) (
 .ob (idx u2.1 x6.2.1) fun e7=>
 .br (and (e7.1==u2.2.1) (and (e7.2.1==u2.2.2.1) true)) (
 .leaf (.inr (.inl (false,())))) (
 .leaf (.inl (x6.1,(i64.wrap (x6.2.1+(1:Int))),u1.1,u1.2.1,u2.1,u2.2.1,u2.2.2.1,u2.2.2.2.1,u2.2.2.2.2.1,())))) (
 .leaf (.inr (.inr (x6.1,u1.1,u1.2.1,u2.1,()))))
def Ig (x2:Int×Int×Int×(List Al)×Unit):Option ((Int×Int×Int×(List Al)×Unit)⊕((Bool×Unit)⊕(Unit))):=
 Tree.val (α:=(Int×Int×Int×(List Al)×Unit)⊕((Bool×Unit)⊕(Unit))) <|
 .br (decide (x2.1<(x2.2.2.2.1.length:Int))) (
 .ob (idx x2.2.2.2.1 x2.1) fun e3=>
 .ob (Iw (e3.1,e3.2.1,())) fun r4=>
 .br (!r4.1) (
 .leaf (.inr (.inl (false,())))) (
 .br ((e3.2.2.1.length:Int) != (12:Int)) (
 .leaf (.inr (.inl (false,())))) (
 .ob (Bm (e3.2.2.2.1,()) ((0:Int),()) ((1000006:Int),())) fun r5=>
 .br (!r5.1) (
 .leaf (.inr (.inl (false,())))) (
 .br (and (e3.1==x2.2.1) (and (e3.2.1==x2.2.2.1) true)) (
 .leaf (.inr (.inl (false,())))) (
 .ob (Ay F3 (x2.1,(0:Int),x2.2.1,x2.2.2.1,x2.2.2.2.1,e3.1,e3.2.1,e3.2.2.1,e3.2.2.2.1,())) fun o8=>
 .sm o8 (fun o9=>
 .leaf (.inr (.inl o9))) (fun o10=>
 .leaf (.inl ((i64.wrap (o10.1+(1:Int))),o10.2.1,o10.2.2.1,o10.2.2.2.1,())))))))) (
 .leaf (.inr (.inr ())))
def Th (a0:A9):Tree ((Bool×Unit)):=
 .ob (Iw (a0.1,a0.2.1,())) fun r1=>
 .br (!r1.1) (
 .leaf (false,())) (
 .br (decide ((a0.2.2.1.length:Int)>(3:Int))) (
 .leaf (false,())) (
 .ob (Ay Ig ((0:Int),a0.1,a0.2.1,a0.2.2.1,())) fun o11=>
 .sm o11 (fun o12=>
 .leaf o12) (fun o13=>
 .leaf (true,()))))
def Lm (a0:A9):Option ((Bool×Unit)):=(Th a0).val
def Aau (a0:Al):Tree (Al):=
 .chk (decide (([]:List YB).length+a0.2.2.1.length≤4294967296)) <|
 .leaf (a0.1,a0.2.1,(([]:List YB)++a0.2.2.1),a0.2.2.2.1,())
def Ln (a0:Al):Option (Al):=(Aau a0).val
def Ih (x1:Int×Int×Int×(List Al)×Int×Int×(List Al)×Int×Int×(List Al)×Unit):Option ((Int×Int×Int×(List Al)×Int×Int×(List Al)×Int×Int×(List Al)×Unit)⊕((Int×Int×(List Al)×Int×Int×(List Al)×Unit))):=
 letI u1:=x1.2.2.2;letI u2:=u1.2.2;letI u3:=u2.2.2;Tree.val (α:=(Int×Int×Int×(List Al)×Int×Int×(List Al)×Int×Int×(List Al)×Unit)⊕((Int×Int×(List Al)×Int×Int×(List Al)×Unit))) <|
 .br (decide (x1.1<(x1.2.2.2.1.length:Int))) (
 .ob (idx u1.1 x1.1) fun e2=>
 .ob (Ln e2) fun r3=>
 .chk (decide (x1.2.2.2.2.2.2.2.2.2.1.length+[r3].length≤4294967296)) <|
 .leaf (.inl ((i64.wrap (x1.1+(1:Int))),x1.2.1,x1.2.2.1,u1.1,u1.2.1,u2.1,u2.2.1,u3.1,u3.2.1,(u3.2.2.1++[r3]),()))) (
 .leaf (.inr (u1.2.1,u2.1,u2.2.1,u3.1,u3.2.1,u3.2.2.1,())))
def Aaw (a0:A9):Tree (A9):=
 .ob (Ay Ih ((0:Int),a0.1,a0.2.1,a0.2.2.1,(0:Int),(0:Int),([]:List Al),a0.1,a0.2.1,([]:List Al),())) fun o4=>
 .leaf (o4.2.2.2.1,o4.2.2.2.2.1,o4.2.2.2.2.2.1,())
def C5 (a0:A9):Option (A9):=(Aaw a0).val
def Ht (x5:Int×Int×Int×Int×(List Al)×Int×Int×(List Al)×Int×Int×(List Al)×Unit):Option ((Int×Int×Int×Int×(List Al)×Int×Int×(List Al)×Int×Int×(List Al)×Unit)⊕((Int×Int×(List Al)×Int×Int×(List Al)×Unit))):=
 letI u1:=x5.2.2;letI u2:=u1.2.2;letI u3:=u2.2.2;letI u4:=u3.2.2;Tree.val (α:=(Int×Int×Int×Int×(List Al)×Int×Int×(List Al)×Int×Int×(List Al)×Unit)⊕((Int×Int×(List Al)×Int×Int×(List Al)×Unit))) <|
 .br (decide (x5.2.1<(x5.2.2.2.2.1.length:Int))) (
 .ob (idx u2.1 x5.2.1) fun e6=>
 .br (decide (e6.2.2.2.1≥x5.1)) (
 .ob (idx u2.1 x5.2.1) fun e7=>
 .ob (Ln e7) fun r8=>
 .chk (decide (x5.2.2.2.2.2.2.2.2.2.2.1.length+[r8].length≤4294967296)) <|
 .leaf (.inl (x5.1,(i64.wrap (x5.2.1+(1:Int))),u1.1,u1.2.1,u2.1,u2.2.1,u3.1,u3.2.1,u4.1,u4.2.1,(u4.2.2.1++[r8]),()))) (
 .leaf (.inl (x5.1,(i64.wrap (x5.2.1+(1:Int))),u1.1,u1.2.1,u2.1,u2.2.1,u3.1,u3.2.1,u4.1,u4.2.1,u4.2.2.1,())))) (
 .leaf (.inr (u2.2.1,u3.1,u3.2.1,u4.1,u4.2.1,u4.2.2.1,())))
def Wj (a0:A9) (a1:YI):Tree (A9):=
 .ob (Lm a0) fun r1=>
 .br (!r1.1) (
 .ob (C5 a0) fun r2=>
 .leaf r2) (
 .ob (Bm a1 ((0:Int),()) ((1000000:Int),())) fun r3=>
 .br (!r3.1) (
 .ob (C5 a0) fun r4=>
 .leaf r4) (
 .ob (Ay Ht (a1.1,(0:Int),a0.1,a0.2.1,a0.2.2.1,(0:Int),(0:Int),([]:List Al),a0.1,a0.2.1,([]:List Al),())) fun o9=>
 .leaf (o9.2.2.2.1,o9.2.2.2.2.1,o9.2.2.2.2.2.1,())))
def W7 (a0:A9) (a1:YI):Option (A9):=(Wj a0 a1).val
def Lj (x10:Int×(List YB)×Int×Int×Int×(List Al)×Int×Int×Int×Int×(List Al)×Int×Int×(List Al)×Unit):Option ((Int×(List YB)×Int×Int×Int×(List Al)×Int×Int×Int×Int×(List Al)×Int×Int×(List Al)×Unit)⊕((Bool×Int×Int×(List Al)×Unit)⊕(Int×(List YB)×Int×Int×(List Al)×Int×Int×Int×Int×(List Al)×Int×Int×(List Al)×Unit))):=
 letI u1:=x10.2.2;letI u2:=u1.2.2;letI u3:=u2.2.2;letI u4:=u3.2.2;letI u5:=u4.2.2;letI u6:=u5.2.2;Tree.val (α:=(Int×(List YB)×Int×Int×Int×(List Al)×Int×Int×Int×Int×(List Al)×Int×Int×(List Al)×Unit)⊕((Bool×Int×Int×(List Al)×Unit)⊕(Int×(List YB)×Int×Int×(List Al)×Int×Int×Int×Int×(List Al)×Int×Int×(List Al)×Unit))) <|
 .br (decide (u1.1<(x10.2.2.2.2.2.2.2.2.2.2.2.2.2.1.length:Int))) (
 .ob (idx u6.2.1 u1.1) fun e11=>
 .br (and (e11.1==u3.1) (and (e11.2.1==u3.2.1) true)) (
 .ob (C5 (u1.2.1,u2.1,u2.2.1,())) fun r12=>
 .leaf (.inr (.inl (false,r12.1,r12.2.1,r12.2.2.1,())))) (
 .leaf (.inl (x10.1,x10.2.1,(i64.wrap (u1.1+(1:Int))),u1.2.1,u2.1,u2.2.1,u3.1,u3.2.1,u4.1,u4.2.1,u5.1,u5.2.1,u6.1,u6.2.1,())))) (
 .leaf (.inr (.inr (x10.1,x10.2.1,u1.2.1,u2.1,u2.2.1,u3.1,u3.2.1,u4.1,u4.2.1,u5.1,u5.2.1,u6.1,u6.2.1,()))))
def Aig (a0:A9) (a1:YI) (a2:Bu) (a3:YBs):Tree (A9×(Bool×Unit)):=
 .ob (Lm a0) fun r1=>
 .br (!r1.1) (
 .ob (C5 a0) fun r2=>
 .leaf (r2,(false,()))) (
 .ob (Bm a1 ((0:Int),()) ((1000000:Int),())) fun r3=>
 .br (!r3.1) (
 .ob (C5 a0) fun r4=>
 .leaf (r4,(false,()))) (
 .ob (Iw a2) fun r5=>
 .br (!r5.1) (
 .ob (C5 a0) fun r6=>
 .leaf (r6,(false,()))) (
 .br ((a3.1.length:Int) != (12:Int)) (
 .ob (C5 a0) fun r7=>
 .leaf (r7,(false,()))) (
 .br (and (a2.1==a0.1) (and (a2.2.1==a0.2.1) true)) (
 .ob (C5 a0) fun r8=>
 .leaf (r8,(false,()))) (
 .ob (W7 a0 a1) fun r9=>
 .ob (Ay Lj (a1.1,a3.1,(0:Int),a0.1,a0.2.1,a0.2.2.1,a2.1,a2.2.1,(0:Int),(0:Int),([]:List Al),r9.1,r9.2.1,r9.2.2.1,())) fun o13=>
 .sm o13 (fun o14=>
 .leaf ((o14.2.1,o14.2.2.1,o14.2.2.2.1,()),(o14.1,()))) (fun o15=>letI u1:=o15.2.2;letI u2:=u1.2.2.2;letI u3:=u2.2.2.2.2.2;
 .br ((o15.2.2.2.2.2.2.2.2.2.2.2.2.1.length:Int)==(3:Int)) (
 .ob (C5 (u1.1,u1.2.1,u1.2.2.1,())) fun r16=>
 .leaf (r16,(false,()))) (
 .chk (decide (([]:List YB).length+o15.2.1.length≤4294967296)) <|
 .chk (decide (o15.2.2.2.2.2.2.2.2.2.2.2.2.1.length+[(u2.1,u2.2.1,(([]:List YB)++o15.2.1),(i64.wrap (o15.1+(6:Int))),())].length≤4294967296)) <|
 .leaf ((u3.1,u3.2.1,(u3.2.2.1++[(u2.1,u2.2.1,(([]:List YB)++o15.2.1),(i64.wrap (o15.1+(6:Int))),())]),()),(true,())))))))))
def Df (a0:A9) (a1:YI) (a2:Bu) (a3:YBs):Option (A9×(Bool×Unit)):=(Aig a0 a1 a2 a3).val
def Om (x6:Int×Int×(List YB)×Int×Int×Int×Int×(List Al)×Int×Int×(List Al)×Unit):Option ((Int×Int×(List YB)×Int×Int×Int×Int×(List Al)×Int×Int×(List Al)×Unit)⊕(((List YB)×Int×Int×Int×Int×(List Al)×Int×Int×(List Al)×Unit))):=
 letI u1:=x6.2.2;letI u2:=u1.2.2;letI u3:=u2.2.2;letI u4:=u3.2.2;Tree.val (α:=(Int×Int×(List YB)×Int×Int×Int×Int×(List Al)×Int×Int×(List Al)×Unit)⊕(((List YB)×Int×Int×Int×Int×(List Al)×Int×Int×(List Al)×Unit))) <|
 .br (decide (x6.2.1>(0:Int))) (
 .ob (Bn (u1.1,u1.2.1,u2.1,()) ((7:Int),())) fun r7=>
 .ob (G4 r7.1) fun r8=>
 .ob (Dw (u1.1,r7.2.2.1,r7.2.2.2.1,()) ((12:Int),())) fun r9=>
 .ob (Df (u4.1,u4.2.1,u4.2.2.1,()) (x6.1,()) r8 r9.1) fun r10=>
 .ob (Bn (u1.1,r9.2.2.1,r9.2.2.2.1,()) ((3:Int),())) fun r11=>
 .leaf (.inl ((i64.wrap (x6.1+r11.1.1)),(i64.wrap (x6.2.1-(1:Int))),u1.1,r11.2.2.1,r11.2.2.2.1,u2.2.1,u3.1,u3.2.1,r10.1.1,r10.1.2.1,r10.1.2.2.1,()))) (
 .leaf (.inr (u1.1,u1.2.1,u2.1,u2.2.1,u3.1,u3.2.1,u4.1,u4.2.1,u4.2.2.1,())))
def Ti (a0:Az):Tree (A9×Az):=
 .ob (Bn a0 ((5:Int),())) fun r1=>
 .ob (G4 r1.1) fun r2=>
 .ob (Mi r2) fun r3=>
 .ob (Bn (a0.1,r1.2.2.1,r1.2.2.2.1,()) ((6:Int),())) fun r4=>
 .ob (Bn (a0.1,r4.2.2.1,r4.2.2.2.1,()) ((5:Int),())) fun r5=>
 .ob (Ay Om (r4.1.1,r5.1.1,a0.1,r5.2.2.1,r5.2.2.2.1,(0:Int),(0:Int),([]:List Al),r3.1,r3.2.1,r3.2.2.1,())) fun o12=>letI u1:=o12.2.2.2.2.2.2;
 .leaf ((u1.1,u1.2.1,u1.2.2.1,()),(o12.1,o12.2.1,o12.2.2.1,()))
def Lo (a0:Az):Option (A9×Az):=(Ti a0).val
def Tj (a0:Az):Tree (Bd×Az):=
 .ob (Dw a0 ((16:Int),())) fun r1=>
 .ob (Bn (a0.1,r1.2.2.1,r1.2.2.2.1,()) ((2:Int),())) fun r2=>
 .ob (La (a0.1,r2.2.2.1,r2.2.2.2.1,())) fun r3=>
 .ob (Jz r1.1 ((i64.wrap ((1:Int)+r2.1.1)),()) r3.1) fun r4=>
 .ob (Dw (a0.1,r3.2.2.1,r3.2.2.2.1,()) ((16:Int),())) fun r5=>
 .ob (B6 (a0.1,r5.2.2.1,r5.2.2.2.1,()) ([((0:Int),()),((5:Int),()),((90:Int),())],())) fun r6=>
 .ob (Bn (a0.1,r6.2.2.1,r6.2.2.2.1,()) ((5:Int),())) fun r7=>
 .ob (G4 ((i64.wrap ((1:Int)+r7.1.1)),())) fun r8=>
 .ob (N5 r5.1 r6.1 r8 r4.1) fun r9=>letI u1:=r9.2.2.2;letI u2:=u1.2.2.2;letI u3:=u2.2.2.2;letI u4:=u3.2.2.2;letI u5:=u4.2.2.2;letI u6:=u5.2.2.2;letI u7:=u6.2.2.2;
 .ob (Ap (a0.1,r7.2.2.1,r7.2.2.2.1,()) ((2:Int),())) fun r10=>
 .br r10.1.1 (
 .ob (N6 (a0.1,r10.2.2.1,r10.2.2.2.1,()) ((1:Int),())) fun r11=>letI u8:=r11.1.2.2;letI u9:=u8.2.2;letI u10:=u9.2.2;letI u11:=u10.2.2;letI u12:=u11.2.2;letI u13:=u12.2.2;
 .ob (Ap (a0.1,r11.2.2.1,r11.2.2.2.1,()) ((2:Int),())) fun r12=>
 .br r12.1.1 (
 .ob (Lo (a0.1,r12.2.2.1,r12.2.2.2.1,())) fun r13=>
 .leaf ((r9.1,r9.2.1,r11.1.2.1,r11.1.1,r11.1.2.1,u8.1,u8.2.1,u9.1,u9.2.1,u10.1,u10.2.1,u11.1,u11.2.1,u12.1,u12.2.1,u13.1,u13.2.1,u13.2.2.1,r13.1.1,r13.1.2.1,r13.1.2.2.1,u7.1,u7.2.1,u7.2.2.1,()),(a0.1,r13.2.2.1,r13.2.2.2.1,()))) (
 .leaf ((r9.1,r9.2.1,r11.1.2.1,r11.1.1,r11.1.2.1,u8.1,u8.2.1,u9.1,u9.2.1,u10.1,u10.2.1,u11.1,u11.2.1,u12.1,u12.2.1,u13.1,u13.2.1,u13.2.2.1,u6.1,u6.2.1,u6.2.2.1,u7.1,u7.2.1,u7.2.2.1,()),(a0.1,r12.2.2.1,r12.2.2.2.1,())))) (
 .ob (Ap (a0.1,r10.2.2.1,r10.2.2.2.1,()) ((2:Int),())) fun r14=>
 .br r14.1.1 (
 .ob (Lo (a0.1,r14.2.2.1,r14.2.2.2.1,())) fun r15=>
 .leaf ((r9.1,r9.2.1,r9.2.2.1,u1.1,u1.2.1,u1.2.2.1,u2.1,u2.2.1,u2.2.2.1,u3.1,u3.2.1,u3.2.2.1,u4.1,u4.2.1,u4.2.2.1,u5.1,u5.2.1,u5.2.2.1,r15.1.1,r15.1.2.1,r15.1.2.2.1,u7.1,u7.2.1,u7.2.2.1,()),(a0.1,r15.2.2.1,r15.2.2.2.1,()))) (
 .leaf (r9,(a0.1,r14.2.2.1,r14.2.2.2.1,()))))
def N7 (a0:Az):Option (Bd×Az):=(Tj a0).val
def Ad3 (a0:Az):Tree (YI×YBs×Az):=
 .ob (Bn a0 ((6:Int),())) fun r1=>letI u1:=r1.2.2;
 .br (r1.1.1==(0:Int)) (
 .ob (Bn (a0.1,u1.1,u1.2.1,()) ((2:Int),())) fun r2=>
 .ob (Dw (a0.1,r2.2.2.1,r2.2.2.2.1,()) ((12:Int),())) fun r3=>
 .leaf (((i64.wrap ((5:Int)+r2.1.1)),()),r3.1,(a0.1,r3.2.2.1,r3.2.2.2.1,()))) (
 .br (r1.1.1==(1:Int)) (
 .ob (Bn (a0.1,u1.1,u1.2.1,()) ((2:Int),())) fun r4=>
 .ob (Dw (a0.1,r4.2.2.1,r4.2.2.2.1,()) ((4:Int),())) fun r5=>
 .leaf (((i64.wrap ((7:Int)+r4.1.1)),()),r5.1,(a0.1,r5.2.2.1,r5.2.2.2.1,()))) (
 .ob (B6 (a0.1,u1.1,u1.2.1,()) ([((0:Int),()),((1:Int),()),((3:Int),()),((12:Int),()),((33:Int),()),((40:Int),())],())) fun r6=>
 .ob (Dw (a0.1,r6.2.2.1,r6.2.2.2.1,()) r6.1) fun r7=>
 .leaf (((4:Int),()),r7.1,(a0.1,r7.2.2.1,r7.2.2.2.1,()))))
def Afd (a0:Az):Option (YI×YBs×Az):=(Ad3 a0).val
def Ad5 (a0:YI) (a1:YBs) (a2:YI) (a3:YI):Tree (YBs):=
 .ob (Bm a0 ((0:Int),()) ((1:Int),())) fun r1=>
 .br (!r1.1) (
 .leaf (([]:List YB),())) (
 .br ((a1.1.length:Int) != (12:Int)) (
 .leaf (([]:List YB),())) (
 .ob (Bm a2 ((0:Int),()) ((4294967295:Int),())) fun r2=>
 .br (!r2.1) (
 .leaf (([]:List YB),())) (
 .ob (Bm a3 ((0:Int),()) ((281474976710655:Int),())) fun r3=>
 .br (!r3.1) (
 .leaf (([]:List YB),())) (
 .chk (decide ([((u8.wrap (a0.1)),())].length+a1.1.length≤4294967296)) <|
 .ob (F5 (([((u8.wrap (a0.1)),())]++a1.1),()) a2 ((4:Int),())) fun r4=>
 .ob (F5 r4 a3 ((6:Int),())) fun r5=>
 .leaf r5))))
def Nb (a0:YI) (a1:YBs) (a2:YI) (a3:YI):Option (YBs):=(Ad5 a0 a1 a2 a3).val
def Aax (a0:YBs) (a1:YBs) (a2:YI):Tree (YBs):=
 .ob (Bm a2 ((0:Int),()) ((6:Int),())) fun r1=>
 .br (!r1.1) (
 .leaf (([]:List YB),())) (
 .br (decide ((a1.1.length:Int)>(100:Int))) (
 .leaf (([]:List YB),())) (
 .chk (decide ([((115:Int),())].length+a1.1.length≤4294967296)) <|
 .ob (F5 (([((115:Int),())]++a1.1),()) a2 ((4:Int),())) fun r2=>
 .ob (Sd a0 r2) fun r3=>
 .leaf r3))
def Abe (a0:YBs) (a1:YBs) (a2:YI):Option (YBs):=(Aax a0 a1 a2).val
def Jm (x2:(List YB)×(List YB)×Int×(List YB)×Int×Unit):Option (((List YB)×(List YB)×Int×(List YB)×Int×Unit)⊕((Int×(List YB)×Unit))):=
 letI u1:=x2.2.2;Tree.val (α:=((List YB)×(List YB)×Int×(List YB)×Int×Unit)⊕((Int×(List YB)×Unit))) <|
 .br (decide ((x2.2.2.2.1.length:Int)<u1.1)) (
 .ob (Abe (x2.1,()) (x2.2.1,()) (u1.2.2.1,())) fun r3=>
 .chk (decide (x2.2.2.2.1.length+r3.1.length≤4294967296)) <|
 .leaf (.inl (x2.1,x2.2.1,u1.1,(u1.2.1++r3.1),(i64.wrap (u1.2.2.1+(1:Int))),()))) (
 .leaf (.inr (u1.1,u1.2.1,())))
def Ad6 (a0:YBs) (a1:YBs) (a2:YI):Tree (YBs):=
 .ob (Bm a2 ((0:Int),()) ((200:Int),())) fun r1=>
 .br (!r1.1) (
 .leaf (([]:List YB),())) (
 .br (decide ((a1.1.length:Int)>(100:Int))) (
 .leaf (([]:List YB),())) (
 .br (decide ((a0.1.length:Int)>(1048576:Int))) (
 .leaf (([]:List YB),())) (
 .ob (Ay Jm (a0.1,a1.1,a2.1,([]:List YB),(0:Int),())) fun o4=>
 .chk (decide ((0:Int)≤o4.1)) <|
 .chk (decide (o4.1≤(o4.2.1.length:Int))) <|
 .chk (decide (([]:List YB).length+((o4.2.1.take (o4.1).toNat).drop ((0:Int)).toNat).length≤4294967296)) <|
 .leaf ((([]:List YB)++((o4.2.1.take (o4.1).toNat).drop ((0:Int)).toNat)),()))))
def Afe (a0:YBs) (a1:YBs) (a2:YI):Option (YBs):=(Ad6 a0 a1 a2).val
def Pj (x2:(List YB)×(List YB)×(List YB)×Int×Unit):Option (((List YB)×(List YB)×(List YB)×Int×Unit)⊕(YBs)):=
 letI u1:=x2.2.2;Tree.val (α:=((List YB)×(List YB)×(List YB)×Int×Unit)⊕(YBs)) <|
 .br (decide (u1.2.1<(x2.1.length:Int))) (
 .ob (idx x2.1 u1.2.1) fun e3=>
 .ob (idx u1.1 u1.2.1) fun e4=>
 .chk (decide (x2.2.1.length+[((u8.wrap ((BitVec.ofInt (u8.bits) (e3.1) ^^^ BitVec.ofInt (u8.bits) (e4.1)).toNat:Nat)),())].length≤4294967296)) <|
 .leaf (.inl (x2.1,(x2.2.1++[((u8.wrap ((BitVec.ofInt (u8.bits) (e3.1) ^^^ BitVec.ofInt (u8.bits) (e4.1)).toNat:Nat)),())]),u1.1,(i64.wrap (u1.2.1+(1:Int))),()))) (
 .leaf (.inr (x2.2.1,())))
def Arq (a0:YBs) (a1:YBs) (a2:YBs):Tree (YBs):=
 .br (decide ((a2.1.length:Int)>(200:Int))) (
 .leaf (([]:List YB),())) (
 .br (decide ((a1.1.length:Int)>(100:Int))) (
 .leaf (([]:List YB),())) (
 .br (decide ((a0.1.length:Int)>(1048576:Int))) (
 .leaf (([]:List YB),())) (
 .ob (Afe a0 a1 ((a2.1.length:Int),())) fun r1=>
 .ob (Ay Pj (a2.1,([]:List YB),r1.1,(0:Int),())) fun o5=>
 .leaf o5)))
def Akl (a0:YBs) (a1:YBs) (a2:YBs):Option (YBs):=(Arq a0 a1 a2).val
def Wk (a0:YI) (a1:Aq):Tree (YBs):=
 letI u1:=a1.2.2.2.2.2.2.2;.ob (Bm a0 ((0:Int),()) ((1:Int),())) fun r1=>
 .br (!r1.1) (
 .leaf (([]:List YB),())) (
 .ob (Ll a1) fun r2=>
 .br (!r2.1) (
 .leaf (([]:List YB),())) (
 .ob (Kl (a1.1,())) fun r3=>
 .br (!r3.1) (
 .leaf (([]:List YB),())) (
 .ob (Nb a0 (a1.2.2.2.1,()) (u1.1,()) (u1.2.1,())) fun r4=>
 .chk (decide ([((116:Int),())].length+r4.1.length≤4294967296)) <|
 .chk (decide (([((116:Int),())]++r4.1).length+[((u8.wrap (a1.1)),())].length≤4294967296)) <|
 .chk (decide ((([((116:Int),())]++r4.1)++[((u8.wrap (a1.1)),())]).length+a1.2.2.2.2.2.2.2.2.2.1.length≤4294967296)) <|
 .leaf (((([((116:Int),())]++r4.1)++[((u8.wrap (a1.1)),())])++u1.2.2.1),()))))
def H1 (a0:YI) (a1:Aq):Option (YBs):=(Wk a0 a1).val
def Kj (x5:(List YB)×Int×Int×Int×Int×(List YB)×(List YB)×Int×(List YB)×(List YB)×Int×Int×(List YB)×(List YB)×Int×Int×(List YB)×(List YB)×Int×(List YB)×(List YB)×Int×Int×(List YB)×(List YB)×Unit):Option (((List YB)×Int×Int×Int×Int×(List YB)×(List YB)×Int×(List YB)×(List YB)×Int×Int×(List YB)×(List YB)×Int×Int×(List YB)×(List YB)×Int×(List YB)×(List YB)×Int×Int×(List YB)×(List YB)×Unit)⊕(((List YB)×Int×Int×Int×(List YB)×(List YB)×Int×(List YB)×(List YB)×Int×Int×(List YB)×(List YB)×Int×Int×(List YB)×(List YB)×Int×(List YB)×(List YB)×Int×Int×(List YB)×(List YB)×Unit))):=
 letI u1:=x5.2.2;letI u2:=u1.2.2;letI u3:=u2.2.2;letI u4:=u3.2.2;letI u5:=u4.2.2;letI u6:=u5.2.2;letI u7:=u6.2.2;letI u8:=u7.2.2;letI u9:=u8.2.2;letI u10:=u9.2.2;letI u11:=u10.2.2;Tree.val (α:=((List YB)×Int×Int×Int×Int×(List YB)×(List YB)×Int×(List YB)×(List YB)×Int×Int×(List YB)×(List YB)×Int×Int×(List YB)×(List YB)×Int×(List YB)×(List YB)×Int×Int×(List YB)×(List YB)×Unit)⊕(((List YB)×Int×Int×Int×(List YB)×(List YB)×Int×(List YB)×(List YB)×Int×Int×(List YB)×(List YB)×Int×Int×(List YB)×(List YB)×Int×(List YB)×(List YB)×Int×Int×(List YB)×(List YB)×Unit))) <|
 .br (decide (u1.1<(16:Int))) (
 .chk (decide (x5.2.2.2.2.2.2.2.2.2.2.2.2.2.2.2.2.2.2.2.2.2.2.2.2.1.length+[((0:Int),())].length≤4294967296)) <|
 .leaf (.inl (x5.1,x5.2.1,(i64.wrap (u1.1+(1:Int))),u1.2.1,u2.1,u2.2.1,u3.1,u3.2.1,u4.1,u4.2.1,u5.1,u5.2.1,u6.1,u6.2.1,u7.1,u7.2.1,u8.1,u8.2.1,u9.1,u9.2.1,u10.1,u10.2.1,u11.1,u11.2.1,(u11.2.2.1++[((0:Int),())]),()))) (
 .leaf (.inr (x5.1,x5.2.1,u1.2.1,u2.1,u2.2.1,u3.1,u3.2.1,u4.1,u4.2.1,u5.1,u5.2.1,u6.1,u6.2.1,u7.1,u7.2.1,u8.1,u8.2.1,u9.1,u9.2.1,u10.1,u10.2.1,u11.1,u11.2.1,u11.2.2.1,())))
def Ad7 (a0:YBs) (a1:YI) (a2:YBs) (a3:YI) (a4:YI) (a5:YI) (a6:YBs):Tree (Aq×(Bool×Unit)):=
 .ob (Nb a1 a2 a3 a4) fun r1=>
 .br ((a0.1.length:Int) != (32:Int)) (
 .leaf (((0:Int),(0:Int),([]:List YB),([]:List YB),(0:Int),([]:List YB),([]:List YB),(0:Int),(0:Int),([]:List YB),([]:List YB),()),(false,()))) (
 .br ((r1.1.length:Int)==(0:Int)) (
 .leaf (((0:Int),(0:Int),([]:List YB),([]:List YB),(0:Int),([]:List YB),([]:List YB),(0:Int),(0:Int),([]:List YB),([]:List YB),()),(false,()))) (
 .ob (Kl a5) fun r2=>
 .br (!r2.1) (
 .leaf (((0:Int),(0:Int),([]:List YB),([]:List YB),(0:Int),([]:List YB),([]:List YB),(0:Int),(0:Int),([]:List YB),([]:List YB),()),(false,()))) (
 .ob (Qw a5 ((a6.1.length:Int),())) fun r3=>
 .br (!r3.1) (
 .leaf (((0:Int),(0:Int),([]:List YB),([]:List YB),(0:Int),([]:List YB),([]:List YB),(0:Int),(0:Int),([]:List YB),([]:List YB),()),(false,()))) (
 .chk (decide (([]:List YB).length+a2.1.length≤4294967296)) <|
 .ob (Akl a0 r1 a6) fun r4=>
 .ob (Ay Kj (a0.1,a1.1,(0:Int),(0:Int),(0:Int),([]:List YB),([]:List YB),(0:Int),([]:List YB),([]:List YB),(0:Int),(0:Int),([]:List YB),([]:List YB),a5.1,(0:Int),([]:List YB),(([]:List YB)++a2.1),(0:Int),([]:List YB),([]:List YB),a3.1,a4.1,r4.1,([]:List YB),())) fun o6=>letI u1:=o6.2.2.2.2.2.2.2.2.2.2.2.2.2;letI u2:=u1.2.2;letI u3:=u2.2.2;letI u4:=u3.2.2;letI u5:=u4.2.2;
 .ob (H1 (o6.2.1,()) (u1.1,u1.2.1,u2.1,u2.2.1,u3.1,u3.2.1,u4.1,u4.2.1,u5.1,u5.2.1,u5.2.2.1,())) fun r7=>
 .ob (Acp (o6.1,()) r7) fun r8=>
 .leaf ((u1.1,u1.2.1,u2.1,u2.2.1,u3.1,u3.2.1,u4.1,u4.2.1,u5.1,u5.2.1,r8.1,()),(true,()))))))
def Bh (a0:YBs) (a1:YI) (a2:YBs) (a3:YI) (a4:YI) (a5:YI) (a6:YBs):Option (Aq×(Bool×Unit)):=(Ad7 a0 a1 a2 a3 a4 a5 a6).val
def Ad9 (a0:Az) (a1:YBs):Tree (YBs×Az):=
 .chk (decide (([]:List YB).length+a1.1.length≤4294967296)) <|
 .ob (Bn a0 ((8:Int),())) fun r1=>letI u1:=r1.2.2;
 .br (r1.1.1==(0:Int)) (
 .br (decide (((([]:List YB)++a1.1).length:Int)>(0:Int))) (
 .ob (Bn (a0.1,u1.1,u1.2.1,()) (((([]:List YB)++a1.1).length:Int),())) fun r2=>
 .ob (idx (([]:List YB)++a1.1) r2.1.1) fun e3=>
 .ob (Bn (a0.1,r2.2.2.1,r2.2.2.2.1,()) ((255:Int),())) fun r4=>
 .ob (idx (([]:List YB)++a1.1) r2.1.1) fun e5=>
 let q6:=((([]:List YB)++a1.1).set (r2.1.1).toNat ((u8.wrap ((BitVec.ofInt (u8.bits) (e3.1) ^^^ BitVec.ofInt (u8.bits) ((u8.wrap ((i64.wrap ((1:Int)+r4.1.1)))))).toNat:Nat)),()))
 .leaf ((q6,()),(a0.1,r4.2.2.1,r4.2.2.2.1,()))) (
 .leaf (((([]:List YB)++a1.1),()),(a0.1,u1.1,u1.2.1,())))) (
 .br (r1.1.1==(1:Int)) (
 .br (decide (((([]:List YB)++a1.1).length:Int)>(0:Int))) (
 .ob (Bn (a0.1,u1.1,u1.2.1,()) (((([]:List YB)++a1.1).length:Int),())) fun r7=>
 .chk (decide ((0:Int)≤r7.1.1)) <|
 .chk (decide (r7.1.1≤((([]:List YB)++a1.1).length:Int))) <|
 .leaf (((((([]:List YB)++a1.1).take (r7.1.1).toNat).drop ((0:Int)).toNat),()),(a0.1,r7.2.2.1,r7.2.2.2.1,()))) (
 .leaf (((([]:List YB)++a1.1),()),(a0.1,u1.1,u1.2.1,())))) (
 .br (r1.1.1==(2:Int)) (
 .ob (Hg (a0.1,u1.1,u1.2.1,())) fun r8=>
 .chk (decide ((([]:List YB)++a1.1).length+[((u8.wrap (r8.1.1)),())].length≤4294967296)) <|
 .leaf ((((([]:List YB)++a1.1)++[((u8.wrap (r8.1.1)),())]),()),(a0.1,r8.2.2.1,r8.2.2.2.1,()))) (
 .leaf (((([]:List YB)++a1.1),()),(a0.1,u1.1,u1.2.1,())))))
def Km (a0:Az) (a1:YBs):Option (YBs×Az):=(Ad9 a0 a1).val
def Aea (a0:Az) (a1:Aq):Tree (Aq×Az):=
 .ob (Vh a1) fun r1=>letI u1:=r1.2.2;letI u2:=u1.2.2;letI u3:=u2.2.2;letI u4:=u3.2.2;letI u5:=u4.2.2;
 .ob (Bn a0 ((14:Int),())) fun r2=>letI u6:=r2.2.2;
 .br (r2.1.1==(0:Int)) (
 .ob (B6 (a0.1,u6.1,u6.2.1,()) ([((1:Int),()),((-1:Int),()),((7:Int),())],())) fun r3=>
 .leaf ((r1.1,r1.2.1,u1.1,u1.2.1,u2.1,u2.2.1,u3.1,u3.2.1,(i64.wrap (u4.1+r3.1.1)),u4.2.1,u5.1,()),(a0.1,r3.2.2.1,r3.2.2.2.1,()))) (
 .br (r2.1.1==(1:Int)) (
 .ob (B6 (a0.1,u6.1,u6.2.1,()) ([((1:Int),()),((-1:Int),())],())) fun r4=>
 .leaf ((r1.1,r1.2.1,u1.1,u1.2.1,u2.1,u2.2.1,u3.1,(i64.wrap (u3.2.1+r4.1.1)),u4.1,u4.2.1,u5.1,()),(a0.1,r4.2.2.1,r4.2.2.2.1,()))) (
 .br (r2.1.1==(2:Int)) (
 .ob (Km (a0.1,u6.1,u6.2.1,()) (u1.2.1,())) fun r5=>
 .leaf ((r1.1,r1.2.1,u1.1,r5.1.1,u2.1,u2.2.1,u3.1,u3.2.1,u4.1,u4.2.1,u5.1,()),(a0.1,r5.2.2.1,r5.2.2.2.1,()))) (
 .br (r2.1.1==(3:Int)) (
 .ob (Km (a0.1,u6.1,u6.2.1,()) (u4.2.1,())) fun r6=>
 .leaf ((r1.1,r1.2.1,u1.1,u1.2.1,u2.1,u2.2.1,u3.1,u3.2.1,u4.1,r6.1.1,u5.1,()),(a0.1,r6.2.2.1,r6.2.2.2.1,()))) (
 .br (r2.1.1==(4:Int)) (
 .ob (Km (a0.1,u6.1,u6.2.1,()) (u4.2.1,())) fun r7=>
 .leaf ((r1.1,r1.2.1,u1.1,u1.2.1,u2.1,u2.2.1,u3.1,u3.2.1,u4.1,r7.1.1,u5.1,()),(a0.1,r7.2.2.1,r7.2.2.2.1,()))) (
 .br (r2.1.1==(5:Int)) (
 .ob (Km (a0.1,u6.1,u6.2.1,()) (u5.1,())) fun r8=>
 .leaf ((r1.1,r1.2.1,u1.1,u1.2.1,u2.1,u2.2.1,u3.1,u3.2.1,u4.1,u4.2.1,r8.1.1,()),(a0.1,r8.2.2.1,r8.2.2.2.1,()))) (
 .br (r2.1.1==(6:Int)) (
 .ob (Km (a0.1,u6.1,u6.2.1,()) (u5.1,())) fun r9=>
 .leaf ((r1.1,r1.2.1,u1.1,u1.2.1,u2.1,u2.2.1,u3.1,u3.2.1,u4.1,u4.2.1,r9.1.1,()),(a0.1,r9.2.2.1,r9.2.2.2.1,()))) (
 .br (r2.1.1==(7:Int)) (
 .ob (Bn (a0.1,u6.1,u6.2.1,()) ((10:Int),())) fun r10=>
 .leaf ((r10.1.1,r1.2.1,u1.1,u1.2.1,u2.1,u2.2.1,u3.1,u3.2.1,u4.1,u4.2.1,u5.1,()),(a0.1,r10.2.2.1,r10.2.2.2.1,()))) (
 .leaf (r1,(a0.1,u6.1,u6.2.1,()))))))))))
def Bk (a0:Az) (a1:Aq):Option (Aq×Az):=(Aea a0 a1).val
def Wl (a0:Az) (a1:Aj):Tree (Aq×Az):=
 letI u1:=a1.2.2;letI u2:=u1.2.2.2;letI u3:=u2.2.2;letI u4:=u3.2.2.2;letI u5:=u4.2.2.2.2;.ob (Afd a0) fun r1=>letI u6:=r1.2.2.2;
 .br u4.2.2.1 (
 .ob (Ap (a0.1,u6.1,u6.2.1,()) ((3:Int),())) fun r2=>letI u7:=r2.2.2;
 .br r2.1.1 (
 .br (decide ((a1.2.2.2.2.2.2.2.2.2.2.2.2.2.2.1.length:Int)>(0:Int))) (
 .ob (Ap (a0.1,u7.1,u7.2.1,()) ((2:Int),())) fun r3=>
 .br r3.1.1 (
 .ob (Dz ((i64.wrap (u1.1+(1:Int))),()) (u5.1,())) fun r4=>
 .ob (B6 (a0.1,r3.2.2.1,r3.2.2.2.1,()) ([((1:Int),()),((1:Int),()),((2:Int),()),((0:Int),()),((-1:Int),()),((5:Int),())],())) fun r5=>
 .br (decide ((i64.wrap (r4.2.2.2.1+r5.1.1))<(0:Int))) (
 .ob (Ap (a0.1,r5.2.2.1,r5.2.2.2.1,()) ((10:Int),())) fun r6=>
 .br r6.1.1 (
 .ob (Bh (r4.2.1,()) (a1.1,()) (a1.2.1,()) (r4.1,()) ((0:Int),()) r1.1 r1.2.1) fun r7=>
 .ob (Ap (a0.1,r6.2.2.1,r6.2.2.2.1,()) ((5:Int),())) fun r8=>
 .br r8.1.1 (
 .ob (Bk (a0.1,r8.2.2.1,r8.2.2.2.1,()) r7.1) fun r9=>
 .leaf (r9.1,(a0.1,r9.2.2.1,r9.2.2.2.1,()))) (
 .leaf (r7.1,(a0.1,r8.2.2.1,r8.2.2.2.1,())))) (
 .ob (Bh (r4.2.1,()) ((i64.wrap ((1:Int)-a1.1)),()) (a1.2.1,()) (r4.1,()) ((0:Int),()) r1.1 r1.2.1) fun r10=>
 .ob (Ap (a0.1,r6.2.2.1,r6.2.2.2.1,()) ((5:Int),())) fun r11=>
 .br r11.1.1 (
 .ob (Bk (a0.1,r11.2.2.1,r11.2.2.2.1,()) r10.1) fun r12=>
 .leaf (r12.1,(a0.1,r12.2.2.1,r12.2.2.2.1,()))) (
 .leaf (r10.1,(a0.1,r11.2.2.1,r11.2.2.2.1,()))))) (
 .ob (Ap (a0.1,r5.2.2.1,r5.2.2.2.1,()) ((10:Int),())) fun r13=>
 .br r13.1.1 (
 .ob (Bh (r4.2.1,()) (a1.1,()) (a1.2.1,()) (r4.1,()) ((i64.wrap (r4.2.2.2.1+r5.1.1)),()) r1.1 r1.2.1) fun r14=>
 .ob (Ap (a0.1,r13.2.2.1,r13.2.2.2.1,()) ((5:Int),())) fun r15=>
 .br r15.1.1 (
 .ob (Bk (a0.1,r15.2.2.1,r15.2.2.2.1,()) r14.1) fun r16=>
 .leaf (r16.1,(a0.1,r16.2.2.1,r16.2.2.2.1,()))) (
 .leaf (r14.1,(a0.1,r15.2.2.1,r15.2.2.2.1,())))) (
 .ob (Bh (r4.2.1,()) ((i64.wrap ((1:Int)-a1.1)),()) (a1.2.1,()) (r4.1,()) ((i64.wrap (r4.2.2.2.1+r5.1.1)),()) r1.1 r1.2.1) fun r17=>
 .ob (Ap (a0.1,r13.2.2.1,r13.2.2.2.1,()) ((5:Int),())) fun r18=>
 .br r18.1.1 (
 .ob (Bk (a0.1,r18.2.2.1,r18.2.2.2.1,()) r17.1) fun r19=>
 .leaf (r19.1,(a0.1,r19.2.2.1,r19.2.2.2.1,()))) (
 .leaf (r17.1,(a0.1,r18.2.2.1,r18.2.2.2.1,())))))) (
 .ob (B6 (a0.1,r3.2.2.1,r3.2.2.2.1,()) ([((1:Int),()),((1:Int),()),((2:Int),()),((0:Int),()),((-1:Int),()),((5:Int),())],())) fun r20=>
 .br (decide ((i64.wrap (u4.1+r20.1.1))<(0:Int))) (
 .ob (Ap (a0.1,r20.2.2.1,r20.2.2.2.1,()) ((10:Int),())) fun r21=>
 .br r21.1.1 (
 .ob (Bh (u3.2.1,()) (a1.1,()) (a1.2.1,()) (u3.1,()) ((0:Int),()) r1.1 r1.2.1) fun r22=>
 .ob (Ap (a0.1,r21.2.2.1,r21.2.2.2.1,()) ((5:Int),())) fun r23=>
 .br r23.1.1 (
 .ob (Bk (a0.1,r23.2.2.1,r23.2.2.2.1,()) r22.1) fun r24=>
 .leaf (r24.1,(a0.1,r24.2.2.1,r24.2.2.2.1,()))) (
 .leaf (r22.1,(a0.1,r23.2.2.1,r23.2.2.2.1,())))) (
 .ob (Bh (u3.2.1,()) ((i64.wrap ((1:Int)-a1.1)),()) (a1.2.1,()) (u3.1,()) ((0:Int),()) r1.1 r1.2.1) fun r25=>
 .ob (Ap (a0.1,r21.2.2.1,r21.2.2.2.1,()) ((5:Int),())) fun r26=>
 .br r26.1.1 (
 .ob (Bk (a0.1,r26.2.2.1,r26.2.2.2.1,()) r25.1) fun r27=>
 .leaf (r27.1,(a0.1,r27.2.2.1,r27.2.2.2.1,()))) (
 .leaf (r25.1,(a0.1,r26.2.2.1,r26.2.2.2.1,()))))) (
 .ob (Ap (a0.1,r20.2.2.1,r20.2.2.2.1,()) ((10:Int),())) fun r28=>
 .br r28.1.1 (
 .ob (Bh (u3.2.1,()) (a1.1,()) (a1.2.1,()) (u3.1,()) ((i64.wrap (u4.1+r20.1.1)),()) r1.1 r1.2.1) fun r29=>
 .ob (Ap (a0.1,r28.2.2.1,r28.2.2.2.1,()) ((5:Int),())) fun r30=>
 .br r30.1.1 (
 .ob (Bk (a0.1,r30.2.2.1,r30.2.2.2.1,()) r29.1) fun r31=>
 .leaf (r31.1,(a0.1,r31.2.2.1,r31.2.2.2.1,()))) (
 .leaf (r29.1,(a0.1,r30.2.2.1,r30.2.2.2.1,())))) (
 .ob (Bh (u3.2.1,()) ((i64.wrap ((1:Int)-a1.1)),()) (a1.2.1,()) (u3.1,()) ((i64.wrap (u4.1+r20.1.1)),()) r1.1 r1.2.1) fun r32=>
 .ob (Ap (a0.1,r28.2.2.1,r28.2.2.2.1,()) ((5:Int),())) fun r33=>
 .br r33.1.1 (
 .ob (Bk (a0.1,r33.2.2.1,r33.2.2.2.1,()) r32.1) fun r34=>
 .leaf (r34.1,(a0.1,r34.2.2.1,r34.2.2.2.1,()))) (
 .leaf (r32.1,(a0.1,r33.2.2.1,r33.2.2.2.1,()))))))) (
 .ob (B6 (a0.1,u7.1,u7.2.1,()) ([((1:Int),()),((1:Int),()),((2:Int),()),((0:Int),()),((-1:Int),()),((5:Int),())],())) fun r35=>
 .br (decide ((i64.wrap (u4.1+r35.1.1))<(0:Int))) (
 .ob (Ap (a0.1,r35.2.2.1,r35.2.2.2.1,()) ((10:Int),())) fun r36=>
 .br r36.1.1 (
 .ob (Bh (u3.2.1,()) (a1.1,()) (a1.2.1,()) (u3.1,()) ((0:Int),()) r1.1 r1.2.1) fun r37=>
 .ob (Ap (a0.1,r36.2.2.1,r36.2.2.2.1,()) ((5:Int),())) fun r38=>
 .br r38.1.1 (
 .ob (Bk (a0.1,r38.2.2.1,r38.2.2.2.1,()) r37.1) fun r39=>
 .leaf (r39.1,(a0.1,r39.2.2.1,r39.2.2.2.1,()))) (
 .leaf (r37.1,(a0.1,r38.2.2.1,r38.2.2.2.1,())))) (
 .ob (Bh (u3.2.1,()) ((i64.wrap ((1:Int)-a1.1)),()) (a1.2.1,()) (u3.1,()) ((0:Int),()) r1.1 r1.2.1) fun r40=>
 .ob (Ap (a0.1,r36.2.2.1,r36.2.2.2.1,()) ((5:Int),())) fun r41=>
 .br r41.1.1 (
 .ob (Bk (a0.1,r41.2.2.1,r41.2.2.2.1,()) r40.1) fun r42=>
 .leaf (r42.1,(a0.1,r42.2.2.1,r42.2.2.2.1,()))) (
 .leaf (r40.1,(a0.1,r41.2.2.1,r41.2.2.2.1,()))))) (
 .ob (Ap (a0.1,r35.2.2.1,r35.2.2.2.1,()) ((10:Int),())) fun r43=>
 .br r43.1.1 (
 .ob (Bh (u3.2.1,()) (a1.1,()) (a1.2.1,()) (u3.1,()) ((i64.wrap (u4.1+r35.1.1)),()) r1.1 r1.2.1) fun r44=>
 .ob (Ap (a0.1,r43.2.2.1,r43.2.2.2.1,()) ((5:Int),())) fun r45=>
 .br r45.1.1 (
 .ob (Bk (a0.1,r45.2.2.1,r45.2.2.2.1,()) r44.1) fun r46=>
 .leaf (r46.1,(a0.1,r46.2.2.1,r46.2.2.2.1,()))) (
 .leaf (r44.1,(a0.1,r45.2.2.1,r45.2.2.2.1,())))) (
 .ob (Bh (u3.2.1,()) ((i64.wrap ((1:Int)-a1.1)),()) (a1.2.1,()) (u3.1,()) ((i64.wrap (u4.1+r35.1.1)),()) r1.1 r1.2.1) fun r47=>
 .ob (Ap (a0.1,r43.2.2.1,r43.2.2.2.1,()) ((5:Int),())) fun r48=>
 .br r48.1.1 (
 .ob (Bk (a0.1,r48.2.2.1,r48.2.2.2.1,()) r47.1) fun r49=>
 .leaf (r49.1,(a0.1,r49.2.2.1,r49.2.2.2.1,()))) (
 .leaf (r47.1,(a0.1,r48.2.2.1,r48.2.2.2.1,()))))))) (
 .br (decide ((a1.2.2.2.2.2.2.2.2.2.2.2.2.2.2.1.length:Int)>(0:Int))) (
 .ob (Ap (a0.1,u7.1,u7.2.1,()) ((2:Int),())) fun r50=>
 .br r50.1.1 (
 .ob (Dz ((i64.wrap (u1.1+(1:Int))),()) (u5.1,())) fun r51=>
 .ob (B6 (a0.1,r50.2.2.1,r50.2.2.2.1,()) ([((1:Int),()),((1:Int),()),((2:Int),()),((0:Int),()),((-1:Int),()),((5:Int),())],())) fun r52=>
 .br (decide ((i64.wrap (r51.2.2.2.1+r52.1.1))<(0:Int))) (
 .ob (Ap (a0.1,r52.2.2.1,r52.2.2.2.1,()) ((10:Int),())) fun r53=>
 .br r53.1.1 (
 .ob (Bh (r51.2.1,()) (a1.1,()) (a1.2.1,()) (r51.1,()) ((0:Int),()) r1.1 r1.2.1) fun r54=>
 .ob (Ap (a0.1,r53.2.2.1,r53.2.2.2.1,()) ((5:Int),())) fun r55=>
 .br r55.1.1 (
 .ob (Bk (a0.1,r55.2.2.1,r55.2.2.2.1,()) r54.1) fun r56=>
 .leaf (r56.1,(a0.1,r56.2.2.1,r56.2.2.2.1,()))) (
 .leaf (r54.1,(a0.1,r55.2.2.1,r55.2.2.2.1,())))) (
 .ob (Bh (r51.2.1,()) ((i64.wrap ((1:Int)-a1.1)),()) (a1.2.1,()) (r51.1,()) ((0:Int),()) r1.1 r1.2.1) fun r57=>
 .ob (Ap (a0.1,r53.2.2.1,r53.2.2.2.1,()) ((5:Int),())) fun r58=>
 .br r58.1.1 (
 .ob (Bk (a0.1,r58.2.2.1,r58.2.2.2.1,()) r57.1) fun r59=>
 .leaf (r59.1,(a0.1,r59.2.2.1,r59.2.2.2.1,()))) (
 .leaf (r57.1,(a0.1,r58.2.2.1,r58.2.2.2.1,()))))) (
 .ob (Ap (a0.1,r52.2.2.1,r52.2.2.2.1,()) ((10:Int),())) fun r60=>
 .br r60.1.1 (
 .ob (Bh (r51.2.1,()) (a1.1,()) (a1.2.1,()) (r51.1,()) ((i64.wrap (r51.2.2.2.1+r52.1.1)),()) r1.1 r1.2.1) fun r61=>
 .ob (Ap (a0.1,r60.2.2.1,r60.2.2.2.1,()) ((5:Int),())) fun r62=>
 .br r62.1.1 (
 .ob (Bk (a0.1,r62.2.2.1,r62.2.2.2.1,()) r61.1) fun r63=>
 .leaf (r63.1,(a0.1,r63.2.2.1,r63.2.2.2.1,()))) (
 .leaf (r61.1,(a0.1,r62.2.2.1,r62.2.2.2.1,())))) (
 .ob (Bh (r51.2.1,()) ((i64.wrap ((1:Int)-a1.1)),()) (a1.2.1,()) (r51.1,()) ((i64.wrap (r51.2.2.2.1+r52.1.1)),()) r1.1 r1.2.1) fun r64=>
 .ob (Ap (a0.1,r60.2.2.1,r60.2.2.2.1,()) ((5:Int),())) fun r65=>
 .br r65.1.1 (
 .ob (Bk (a0.1,r65.2.2.1,r65.2.2.2.1,()) r64.1) fun r66=>
 .leaf (r66.1,(a0.1,r66.2.2.1,r66.2.2.2.1,()))) (
 .leaf (r64.1,(a0.1,r65.2.2.1,r65.2.2.2.1,())))))) (
 .ob (B6 (a0.1,r50.2.2.1,r50.2.2.2.1,()) ([((1:Int),()),((1:Int),()),((2:Int),()),((0:Int),()),((-1:Int),()),((5:Int),())],())) fun r67=>
 .br (decide ((i64.wrap (u2.1+r67.1.1))<(0:Int))) (
 .ob (Ap (a0.1,r67.2.2.1,r67.2.2.2.1,()) ((10:Int),())) fun r68=>
 .br r68.1.1 (
 .ob (Bh (u1.2.1,()) (a1.1,()) (a1.2.1,()) (u1.1,()) ((0:Int),()) r1.1 r1.2.1) fun r69=>
 .ob (Ap (a0.1,r68.2.2.1,r68.2.2.2.1,()) ((5:Int),())) fun r70=>
 .br r70.1.1 (
 .ob (Bk (a0.1,r70.2.2.1,r70.2.2.2.1,()) r69.1) fun r71=>
 .leaf (r71.1,(a0.1,r71.2.2.1,r71.2.2.2.1,()))) (
 .leaf (r69.1,(a0.1,r70.2.2.1,r70.2.2.2.1,())))) (
 .ob (Bh (u1.2.1,()) ((i64.wrap ((1:Int)-a1.1)),()) (a1.2.1,()) (u1.1,()) ((0:Int),()) r1.1 r1.2.1) fun r72=>
 .ob (Ap (a0.1,r68.2.2.1,r68.2.2.2.1,()) ((5:Int),())) fun r73=>
 .br r73.1.1 (
 .ob (Bk (a0.1,r73.2.2.1,r73.2.2.2.1,()) r72.1) fun r74=>
 .leaf (r74.1,(a0.1,r74.2.2.1,r74.2.2.2.1,()))) (
 .leaf (r72.1,(a0.1,r73.2.2.1,r73.2.2.2.1,()))))) (
 .ob (Ap (a0.1,r67.2.2.1,r67.2.2.2.1,()) ((10:Int),())) fun r75=>
 .br r75.1.1 (
 .ob (Bh (u1.2.1,()) (a1.1,()) (a1.2.1,()) (u1.1,()) ((i64.wrap (u2.1+r67.1.1)),()) r1.1 r1.2.1) fun r76=>
 .ob (Ap (a0.1,r75.2.2.1,r75.2.2.2.1,()) ((5:Int),())) fun r77=>
 .br r77.1.1 (
 .ob (Bk (a0.1,r77.2.2.1,r77.2.2.2.1,()) r76.1) fun r78=>
 .leaf (r78.1,(a0.1,r78.2.2.1,r78.2.2.2.1,()))) (
 .leaf (r76.1,(a0.1,r77.2.2.1,r77.2.2.2.1,())))) (
 .ob (Bh (u1.2.1,()) ((i64.wrap ((1:Int)-a1.1)),()) (a1.2.1,()) (u1.1,()) ((i64.wrap (u2.1+r67.1.1)),()) r1.1 r1.2.1) fun r79=>
 .ob (Ap (a0.1,r75.2.2.1,r75.2.2.2.1,()) ((5:Int),())) fun r80=>
 .br r80.1.1 (
 .ob (Bk (a0.1,r80.2.2.1,r80.2.2.2.1,()) r79.1) fun r81=>
 .leaf (r81.1,(a0.1,r81.2.2.1,r81.2.2.2.1,()))) (
 .leaf (r79.1,(a0.1,r80.2.2.1,r80.2.2.2.1,()))))))) (
 .ob (B6 (a0.1,u7.1,u7.2.1,()) ([((1:Int),()),((1:Int),()),((2:Int),()),((0:Int),()),((-1:Int),()),((5:Int),())],())) fun r82=>
 .br (decide ((i64.wrap (u2.1+r82.1.1))<(0:Int))) (
 .ob (Ap (a0.1,r82.2.2.1,r82.2.2.2.1,()) ((10:Int),())) fun r83=>
 .br r83.1.1 (
 .ob (Bh (u1.2.1,()) (a1.1,()) (a1.2.1,()) (u1.1,()) ((0:Int),()) r1.1 r1.2.1) fun r84=>
 .ob (Ap (a0.1,r83.2.2.1,r83.2.2.2.1,()) ((5:Int),())) fun r85=>
 .br r85.1.1 (
 .ob (Bk (a0.1,r85.2.2.1,r85.2.2.2.1,()) r84.1) fun r86=>
 .leaf (r86.1,(a0.1,r86.2.2.1,r86.2.2.2.1,()))) (
 .leaf (r84.1,(a0.1,r85.2.2.1,r85.2.2.2.1,())))) (
 .ob (Bh (u1.2.1,()) ((i64.wrap ((1:Int)-a1.1)),()) (a1.2.1,()) (u1.1,()) ((0:Int),()) r1.1 r1.2.1) fun r87=>
 .ob (Ap (a0.1,r83.2.2.1,r83.2.2.2.1,()) ((5:Int),())) fun r88=>
 .br r88.1.1 (
 .ob (Bk (a0.1,r88.2.2.1,r88.2.2.2.1,()) r87.1) fun r89=>
 .leaf (r89.1,(a0.1,r89.2.2.1,r89.2.2.2.1,()))) (
 .leaf (r87.1,(a0.1,r88.2.2.1,r88.2.2.2.1,()))))) (
 .ob (Ap (a0.1,r82.2.2.1,r82.2.2.2.1,()) ((10:Int),())) fun r90=>
 .br r90.1.1 (
 .ob (Bh (u1.2.1,()) (a1.1,()) (a1.2.1,()) (u1.1,()) ((i64.wrap (u2.1+r82.1.1)),()) r1.1 r1.2.1) fun r91=>
 .ob (Ap (a0.1,r90.2.2.1,r90.2.2.2.1,()) ((5:Int),())) fun r92=>
 .br r92.1.1 (
 .ob (Bk (a0.1,r92.2.2.1,r92.2.2.2.1,()) r91.1) fun r93=>
 .leaf (r93.1,(a0.1,r93.2.2.1,r93.2.2.2.1,()))) (
 .leaf (r91.1,(a0.1,r92.2.2.1,r92.2.2.2.1,())))) (
 .ob (Bh (u1.2.1,()) ((i64.wrap ((1:Int)-a1.1)),()) (a1.2.1,()) (u1.1,()) ((i64.wrap (u2.1+r82.1.1)),()) r1.1 r1.2.1) fun r94=>
 .ob (Ap (a0.1,r90.2.2.1,r90.2.2.2.1,()) ((5:Int),())) fun r95=>
 .br r95.1.1 (
 .ob (Bk (a0.1,r95.2.2.1,r95.2.2.2.1,()) r94.1) fun r96=>
 .leaf (r96.1,(a0.1,r96.2.2.1,r96.2.2.2.1,()))) (
 .leaf (r94.1,(a0.1,r95.2.2.1,r95.2.2.2.1,())))))))) (
 .br (decide ((a1.2.2.2.2.2.2.2.2.2.2.2.2.2.2.1.length:Int)>(0:Int))) (
 .ob (Ap (a0.1,u6.1,u6.2.1,()) ((2:Int),())) fun r97=>
 .br r97.1.1 (
 .ob (Dz ((i64.wrap (u1.1+(1:Int))),()) (u5.1,())) fun r98=>
 .ob (B6 (a0.1,r97.2.2.1,r97.2.2.2.1,()) ([((1:Int),()),((1:Int),()),((2:Int),()),((0:Int),()),((-1:Int),()),((5:Int),())],())) fun r99=>
 .br (decide ((i64.wrap (r98.2.2.2.1+r99.1.1))<(0:Int))) (
 .ob (Ap (a0.1,r99.2.2.1,r99.2.2.2.1,()) ((10:Int),())) fun r100=>
 .br r100.1.1 (
 .ob (Bh (r98.2.1,()) (a1.1,()) (a1.2.1,()) (r98.1,()) ((0:Int),()) r1.1 r1.2.1) fun r101=>
 .ob (Ap (a0.1,r100.2.2.1,r100.2.2.2.1,()) ((5:Int),())) fun r102=>
 .br r102.1.1 (
 .ob (Bk (a0.1,r102.2.2.1,r102.2.2.2.1,()) r101.1) fun r103=>
 .leaf (r103.1,(a0.1,r103.2.2.1,r103.2.2.2.1,()))) (
 .leaf (r101.1,(a0.1,r102.2.2.1,r102.2.2.2.1,())))) (
 .ob (Bh (r98.2.1,()) ((i64.wrap ((1:Int)-a1.1)),()) (a1.2.1,()) (r98.1,()) ((0:Int),()) r1.1 r1.2.1) fun r104=>
 .ob (Ap (a0.1,r100.2.2.1,r100.2.2.2.1,()) ((5:Int),())) fun r105=>
 .br r105.1.1 (
 .ob (Bk (a0.1,r105.2.2.1,r105.2.2.2.1,()) r104.1) fun r106=>
 .leaf (r106.1,(a0.1,r106.2.2.1,r106.2.2.2.1,()))) (
 .leaf (r104.1,(a0.1,r105.2.2.1,r105.2.2.2.1,()))))) (
 .ob (Ap (a0.1,r99.2.2.1,r99.2.2.2.1,()) ((10:Int),())) fun r107=>
 .br r107.1.1 (
 .ob (Bh (r98.2.1,()) (a1.1,()) (a1.2.1,()) (r98.1,()) ((i64.wrap (r98.2.2.2.1+r99.1.1)),()) r1.1 r1.2.1) fun r108=>
 .ob (Ap (a0.1,r107.2.2.1,r107.2.2.2.1,()) ((5:Int),())) fun r109=>
 .br r109.1.1 (
 .ob (Bk (a0.1,r109.2.2.1,r109.2.2.2.1,()) r108.1) fun r110=>
 .leaf (r110.1,(a0.1,r110.2.2.1,r110.2.2.2.1,()))) (
 .leaf (r108.1,(a0.1,r109.2.2.1,r109.2.2.2.1,())))) (
 .ob (Bh (r98.2.1,()) ((i64.wrap ((1:Int)-a1.1)),()) (a1.2.1,()) (r98.1,()) ((i64.wrap (r98.2.2.2.1+r99.1.1)),()) r1.1 r1.2.1) fun r111=>
 .ob (Ap (a0.1,r107.2.2.1,r107.2.2.2.1,()) ((5:Int),())) fun r112=>
 .br r112.1.1 (
 .ob (Bk (a0.1,r112.2.2.1,r112.2.2.2.1,()) r111.1) fun r113=>
 .leaf (r113.1,(a0.1,r113.2.2.1,r113.2.2.2.1,()))) (
 .leaf (r111.1,(a0.1,r112.2.2.1,r112.2.2.2.1,())))))) (
 .ob (B6 (a0.1,r97.2.2.1,r97.2.2.2.1,()) ([((1:Int),()),((1:Int),()),((2:Int),()),((0:Int),()),((-1:Int),()),((5:Int),())],())) fun r114=>
 .br (decide ((i64.wrap (u2.1+r114.1.1))<(0:Int))) (
 .ob (Ap (a0.1,r114.2.2.1,r114.2.2.2.1,()) ((10:Int),())) fun r115=>
 .br r115.1.1 (
 .ob (Bh (u1.2.1,()) (a1.1,()) (a1.2.1,()) (u1.1,()) ((0:Int),()) r1.1 r1.2.1) fun r116=>
 .ob (Ap (a0.1,r115.2.2.1,r115.2.2.2.1,()) ((5:Int),())) fun r117=>
 .br r117.1.1 (
 .ob (Bk (a0.1,r117.2.2.1,r117.2.2.2.1,()) r116.1) fun r118=>
 .leaf (r118.1,(a0.1,r118.2.2.1,r118.2.2.2.1,()))) (
 .leaf (r116.1,(a0.1,r117.2.2.1,r117.2.2.2.1,())))) (
 .ob (Bh (u1.2.1,()) ((i64.wrap ((1:Int)-a1.1)),()) (a1.2.1,()) (u1.1,()) ((0:Int),()) r1.1 r1.2.1) fun r119=>
 .ob (Ap (a0.1,r115.2.2.1,r115.2.2.2.1,()) ((5:Int),())) fun r120=>
 .br r120.1.1 (
 .ob (Bk (a0.1,r120.2.2.1,r120.2.2.2.1,()) r119.1) fun r121=>
 .leaf (r121.1,(a0.1,r121.2.2.1,r121.2.2.2.1,()))) (
 .leaf (r119.1,(a0.1,r120.2.2.1,r120.2.2.2.1,()))))) (
 .ob (Ap (a0.1,r114.2.2.1,r114.2.2.2.1,()) ((10:Int),())) fun r122=>
 .br r122.1.1 (
 .ob (Bh (u1.2.1,()) (a1.1,()) (a1.2.1,()) (u1.1,()) ((i64.wrap (u2.1+r114.1.1)),()) r1.1 r1.2.1) fun r123=>
 .ob (Ap (a0.1,r122.2.2.1,r122.2.2.2.1,()) ((5:Int),())) fun r124=>
 .br r124.1.1 (
 .ob (Bk (a0.1,r124.2.2.1,r124.2.2.2.1,()) r123.1) fun r125=>
 .leaf (r125.1,(a0.1,r125.2.2.1,r125.2.2.2.1,()))) (
 .leaf (r123.1,(a0.1,r124.2.2.1,r124.2.2.2.1,())))) (
 .ob (Bh (u1.2.1,()) ((i64.wrap ((1:Int)-a1.1)),()) (a1.2.1,()) (u1.1,()) ((i64.wrap (u2.1+r114.1.1)),()) r1.1 r1.2.1) fun r126=>
 .ob (Ap (a0.1,r122.2.2.1,r122.2.2.2.1,()) ((5:Int),())) fun r127=>
 .br r127.1.1 (
 .ob (Bk (a0.1,r127.2.2.1,r127.2.2.2.1,()) r126.1) fun r128=>
 .leaf (r128.1,(a0.1,r128.2.2.1,r128.2.2.2.1,()))) (
 .leaf (r126.1,(a0.1,r127.2.2.1,r127.2.2.2.1,()))))))) (
 .ob (B6 (a0.1,u6.1,u6.2.1,()) ([((1:Int),()),((1:Int),()),((2:Int),()),((0:Int),()),((-1:Int),()),((5:Int),())],())) fun r129=>
 .br (decide ((i64.wrap (u2.1+r129.1.1))<(0:Int))) (
 .ob (Ap (a0.1,r129.2.2.1,r129.2.2.2.1,()) ((10:Int),())) fun r130=>
 .br r130.1.1 (
 .ob (Bh (u1.2.1,()) (a1.1,()) (a1.2.1,()) (u1.1,()) ((0:Int),()) r1.1 r1.2.1) fun r131=>
 .ob (Ap (a0.1,r130.2.2.1,r130.2.2.2.1,()) ((5:Int),())) fun r132=>
 .br r132.1.1 (
 .ob (Bk (a0.1,r132.2.2.1,r132.2.2.2.1,()) r131.1) fun r133=>
 .leaf (r133.1,(a0.1,r133.2.2.1,r133.2.2.2.1,()))) (
 .leaf (r131.1,(a0.1,r132.2.2.1,r132.2.2.2.1,())))) (
 .ob (Bh (u1.2.1,()) ((i64.wrap ((1:Int)-a1.1)),()) (a1.2.1,()) (u1.1,()) ((0:Int),()) r1.1 r1.2.1) fun r134=>
 .ob (Ap (a0.1,r130.2.2.1,r130.2.2.2.1,()) ((5:Int),())) fun r135=>
 .br r135.1.1 (
 .ob (Bk (a0.1,r135.2.2.1,r135.2.2.2.1,()) r134.1) fun r136=>
 .leaf (r136.1,(a0.1,r136.2.2.1,r136.2.2.2.1,()))) (
 .leaf (r134.1,(a0.1,r135.2.2.1,r135.2.2.2.1,()))))) (
 .ob (Ap (a0.1,r129.2.2.1,r129.2.2.2.1,()) ((10:Int),())) fun r137=>
 .br r137.1.1 (
 .ob (Bh (u1.2.1,()) (a1.1,()) (a1.2.1,()) (u1.1,()) ((i64.wrap (u2.1+r129.1.1)),()) r1.1 r1.2.1) fun r138=>
 .ob (Ap (a0.1,r137.2.2.1,r137.2.2.2.1,()) ((5:Int),())) fun r139=>
 .br r139.1.1 (
 .ob (Bk (a0.1,r139.2.2.1,r139.2.2.2.1,()) r138.1) fun r140=>
 .leaf (r140.1,(a0.1,r140.2.2.1,r140.2.2.2.1,()))) (
 .leaf (r138.1,(a0.1,r139.2.2.1,r139.2.2.2.1,())))) (
 .ob (Bh (u1.2.1,()) ((i64.wrap ((1:Int)-a1.1)),()) (a1.2.1,()) (u1.1,()) ((i64.wrap (u2.1+r129.1.1)),()) r1.1 r1.2.1) fun r141=>
 .ob (Ap (a0.1,r137.2.2.1,r137.2.2.2.1,()) ((5:Int),())) fun r142=>
 .br r142.1.1 (
 .ob (Bk (a0.1,r142.2.2.1,r142.2.2.2.1,()) r141.1) fun r143=>
 .leaf (r143.1,(a0.1,r143.2.2.1,r143.2.2.2.1,()))) (
 .leaf (r141.1,(a0.1,r142.2.2.1,r142.2.2.2.1,())))))))
def Q1 (a0:Az) (a1:Aj):Option (Aq×Az):=(Wl a0 a1).val
def Uo (a0:YI):Tree (YBs):=
 .ob (Bm a0 ((0:Int),()) ((4294967295:Int),())) fun r1=>
 .br (!r1.1) (
 .leaf (([]:List YB),())) (
 .ob (F5 (([]:List YB),()) a0 ((4:Int),())) fun r2=>
 .leaf r2)
def Ds (a0:YI):Option (YBs):=(Uo a0).val
def Aeb (a0:Az):Tree (Bu×Az):=
 .ob (Ap a0 ((3:Int),())) fun r1=>
 .br r1.1.1 (
 .ob (Bn (a0.1,r1.2.2.1,r1.2.2.2.1,()) ((16777216:Int),())) fun r2=>
 .ob (Hg (a0.1,r2.2.2.1,r2.2.2.2.1,())) fun r3=>
 .ob (Bn (a0.1,r3.2.2.1,r3.2.2.2.1,()) ((65536:Int),())) fun r4=>
 .leaf (((i64.wrap ((i64.wrap (r2.1.1*(256:Int)))+r3.1.1)),r4.1.1,()),(a0.1,r4.2.2.1,r4.2.2.2.1,()))) (
 .ob (Bn (a0.1,r1.2.2.1,r1.2.2.2.1,()) ((6:Int),())) fun r5=>
 .ob (G4 r5.1) fun r6=>
 .leaf (r6,(a0.1,r5.2.2.1,r5.2.2.2.1,())))
def Aff (a0:Az):Option (Bu×Az):=(Aeb a0).val
def Aij (a0:Az):Tree (YI×Az):=
 .ob (B6 a0 ([((-1:Int),()),((0:Int),()),((1:Int),()),((2:Int),()),((255:Int),()),((256:Int),()),((65535:Int),()),((2147483647:Int),()),((2147483648:Int),()),((4294967295:Int),()),((4294967296:Int),()),((-2147483648:Int),()),((9223372036854775807:Int),()),((-9223372036854775808:Int),())],())) fun r1=>
 .leaf (r1.1,(a0.1,r1.2.2.1,r1.2.2.2.1,()))
def Ai8 (a0:Az):Option (YI×Az):=(Aij a0).val
def Aik (a0:Az):Tree (Bu×Az):=
 .ob (Aff a0) fun r1=>
 .ob (Bn (a0.1,r1.2.2.1,r1.2.2.2.1,()) ((10:Int),())) fun r2=>letI u1:=r2.2.2;
 .br (r2.1.1==(0:Int)) (
 .ob (Ai8 (a0.1,u1.1,u1.2.1,())) fun r3=>
 .leaf ((r3.1.1,r1.1.2.1,()),(a0.1,r3.2.2.1,r3.2.2.2.1,()))) (
 .br (r2.1.1==(1:Int)) (
 .ob (B6 (a0.1,u1.1,u1.2.1,()) ([((-1:Int),()),((65535:Int),()),((65536:Int),()),((0:Int),())],())) fun r4=>
 .leaf ((r1.1.1,r4.1.1,()),(a0.1,r4.2.2.1,r4.2.2.2.1,()))) (
 .leaf (r1.1,(a0.1,u1.1,u1.2.1,()))))
def Eh (a0:Az):Option (Bu×Az):=(Aik a0).val
def Wm (a0:Az) (a1:Bd):Tree (Bu×Aq×Az):=
 letI u1:=a1.2.2;letI u2:=u1.2.2.2;letI u3:=u2.2.2.2;letI u4:=u3.2.2;letI u5:=u4.2.2.2;letI u6:=u5.2.2;letI u7:=u6.2.2.2;.ob (Ap a0 ((2:Int),())) fun r1=>
 .br r1.1.1 (
 .ob (Bn (a0.1,r1.2.2.1,r1.2.2.2.1,()) ((7:Int),())) fun r2=>
 .ob (G4 ((i64.wrap ((1:Int)+r2.1.1)),())) fun r3=>
 .ob (Q1 (a0.1,r2.2.2.1,r2.2.2.2.1,()) (u1.2.1,u1.2.2.1,u2.1,u2.2.1,u2.2.2.1,u3.1,u3.2.1,u4.1,u4.2.1,u4.2.2.1,u5.1,u5.2.1,u6.1,u6.2.1,u6.2.2.1,())) fun r4=>
 .ob (Bn (a0.1,r4.2.2.1,r4.2.2.2.1,()) ((5:Int),())) fun r5=>letI u8:=r5.2.2;
 .br (r5.1.1==(0:Int)) (
 .br (decide ((a1.2.2.2.2.2.2.2.2.2.2.2.2.2.2.2.2.2.2.2.2.1.length:Int)>(0:Int))) (
 .ob (Bn (a0.1,u8.1,u8.2.1,()) ((a1.2.2.2.2.2.2.2.2.2.2.2.2.2.2.2.2.2.2.2.2.1.length:Int),())) fun r6=>
 .ob (idx u7.2.2.1 r6.1.1) fun e7=>
 .ob (Bh (u2.2.1,()) ((0:Int),()) (u1.1,()) (u2.1,()) ((i64.wrap (u3.1+(1:Int))),()) ((6:Int),()) (e7.2.2.1,())) fun r8=>
 .ob (Ap (a0.1,r6.2.2.1,r6.2.2.2.1,()) ((12:Int),())) fun r9=>
 .br r9.1.1 (
 .ob (Eh (a0.1,r9.2.2.1,r9.2.2.2.1,())) fun r10=>
 .leaf (r10.1,r8.1,(a0.1,r10.2.2.1,r10.2.2.2.1,()))) (
 .leaf ((e7.1,e7.2.1,()),r8.1,(a0.1,r9.2.2.1,r9.2.2.2.1,())))) (
 .ob (Ap (a0.1,u8.1,u8.2.1,()) ((12:Int),())) fun r11=>
 .br r11.1.1 (
 .ob (Eh (a0.1,r11.2.2.1,r11.2.2.2.1,())) fun r12=>
 .leaf (r12.1,r4.1,(a0.1,r12.2.2.1,r12.2.2.2.1,()))) (
 .leaf (r3,r4.1,(a0.1,r11.2.2.1,r11.2.2.2.1,()))))) (
 .br (r5.1.1==(1:Int)) (
 .br u6.1 (
 .ob (Ap (a0.1,u8.1,u8.2.1,()) ((2:Int),())) fun r13=>
 .br r13.1.1 (
 .ob (Ds ((i64.wrap (u4.1+(1:Int))),())) fun r14=>
 .ob (Bh (u4.2.1,()) ((0:Int),()) (u1.1,()) (u4.1,()) ((i64.wrap (u5.1+(1:Int))),()) ((7:Int),()) r14) fun r15=>
 .ob (Ap (a0.1,r13.2.2.1,r13.2.2.2.1,()) ((12:Int),())) fun r16=>
 .br r16.1.1 (
 .ob (Eh (a0.1,r16.2.2.1,r16.2.2.2.1,())) fun r17=>
 .leaf (r17.1,r15.1,(a0.1,r17.2.2.1,r17.2.2.2.1,()))) (
 .leaf (r3,r15.1,(a0.1,r16.2.2.1,r16.2.2.2.1,())))) (
 .ob (Ds ((i64.wrap (u2.1+(1:Int))),())) fun r18=>
 .ob (Bh (u2.2.1,()) ((0:Int),()) (u1.1,()) (u2.1,()) ((i64.wrap (u3.1+(1:Int))),()) ((7:Int),()) r18) fun r19=>
 .ob (Ap (a0.1,r13.2.2.1,r13.2.2.2.1,()) ((12:Int),())) fun r20=>
 .br r20.1.1 (
 .ob (Eh (a0.1,r20.2.2.1,r20.2.2.2.1,())) fun r21=>
 .leaf (r21.1,r19.1,(a0.1,r21.2.2.1,r21.2.2.2.1,()))) (
 .leaf (r3,r19.1,(a0.1,r20.2.2.1,r20.2.2.2.1,()))))) (
 .ob (Ds ((i64.wrap (u2.1+(1:Int))),())) fun r22=>
 .ob (Bh (u2.2.1,()) ((0:Int),()) (u1.1,()) (u2.1,()) ((i64.wrap (u3.1+(1:Int))),()) ((7:Int),()) r22) fun r23=>
 .ob (Ap (a0.1,u8.1,u8.2.1,()) ((12:Int),())) fun r24=>
 .br r24.1.1 (
 .ob (Eh (a0.1,r24.2.2.1,r24.2.2.2.1,())) fun r25=>
 .leaf (r25.1,r23.1,(a0.1,r25.2.2.1,r25.2.2.2.1,()))) (
 .leaf (r3,r23.1,(a0.1,r24.2.2.1,r24.2.2.2.1,()))))) (
 .ob (Ap (a0.1,u8.1,u8.2.1,()) ((12:Int),())) fun r26=>
 .br r26.1.1 (
 .ob (Eh (a0.1,r26.2.2.1,r26.2.2.2.1,())) fun r27=>
 .leaf (r27.1,r4.1,(a0.1,r27.2.2.1,r27.2.2.2.1,()))) (
 .leaf (r3,r4.1,(a0.1,r26.2.2.1,r26.2.2.2.1,())))))) (
 .ob (Q1 (a0.1,r1.2.2.1,r1.2.2.2.1,()) (u1.2.1,u1.2.2.1,u2.1,u2.2.1,u2.2.2.1,u3.1,u3.2.1,u4.1,u4.2.1,u4.2.2.1,u5.1,u5.2.1,u6.1,u6.2.1,u6.2.2.1,())) fun r28=>
 .ob (Bn (a0.1,r28.2.2.1,r28.2.2.2.1,()) ((5:Int),())) fun r29=>letI u9:=r29.2.2;
 .br (r29.1.1==(0:Int)) (
 .br (decide ((a1.2.2.2.2.2.2.2.2.2.2.2.2.2.2.2.2.2.2.2.2.1.length:Int)>(0:Int))) (
 .ob (Bn (a0.1,u9.1,u9.2.1,()) ((a1.2.2.2.2.2.2.2.2.2.2.2.2.2.2.2.2.2.2.2.2.1.length:Int),())) fun r30=>
 .ob (idx u7.2.2.1 r30.1.1) fun e31=>
 .ob (Bh (u2.2.1,()) ((0:Int),()) (u1.1,()) (u2.1,()) ((i64.wrap (u3.1+(1:Int))),()) ((6:Int),()) (e31.2.2.1,())) fun r32=>
 .ob (Ap (a0.1,r30.2.2.1,r30.2.2.2.1,()) ((12:Int),())) fun r33=>
 .br r33.1.1 (
 .ob (Eh (a0.1,r33.2.2.1,r33.2.2.2.1,())) fun r34=>
 .leaf (r34.1,r32.1,(a0.1,r34.2.2.1,r34.2.2.2.1,()))) (
 .leaf ((e31.1,e31.2.1,()),r32.1,(a0.1,r33.2.2.1,r33.2.2.2.1,())))) (
 .ob (Ap (a0.1,u9.1,u9.2.1,()) ((12:Int),())) fun r35=>
 .br r35.1.1 (
 .ob (Eh (a0.1,r35.2.2.1,r35.2.2.2.1,())) fun r36=>
 .leaf (r36.1,r28.1,(a0.1,r36.2.2.1,r36.2.2.2.1,()))) (
 .leaf ((u7.1,u7.2.1,()),r28.1,(a0.1,r35.2.2.1,r35.2.2.2.1,()))))) (
 .br (r29.1.1==(1:Int)) (
 .br u6.1 (
 .ob (Ap (a0.1,u9.1,u9.2.1,()) ((2:Int),())) fun r37=>
 .br r37.1.1 (
 .ob (Ds ((i64.wrap (u4.1+(1:Int))),())) fun r38=>
 .ob (Bh (u4.2.1,()) ((0:Int),()) (u1.1,()) (u4.1,()) ((i64.wrap (u5.1+(1:Int))),()) ((7:Int),()) r38) fun r39=>
 .ob (Ap (a0.1,r37.2.2.1,r37.2.2.2.1,()) ((12:Int),())) fun r40=>
 .br r40.1.1 (
 .ob (Eh (a0.1,r40.2.2.1,r40.2.2.2.1,())) fun r41=>
 .leaf (r41.1,r39.1,(a0.1,r41.2.2.1,r41.2.2.2.1,()))) (
 .leaf ((u7.1,u7.2.1,()),r39.1,(a0.1,r40.2.2.1,r40.2.2.2.1,())))) (
 .ob (Ds ((i64.wrap (u2.1+(1:Int))),())) fun r42=>
 .ob (Bh (u2.2.1,()) ((0:Int),()) (u1.1,()) (u2.1,()) ((i64.wrap (u3.1+(1:Int))),()) ((7:Int),()) r42) fun r43=>
 .ob (Ap (a0.1,r37.2.2.1,r37.2.2.2.1,()) ((12:Int),())) fun r44=>
 .br r44.1.1 (
 .ob (Eh (a0.1,r44.2.2.1,r44.2.2.2.1,())) fun r45=>
 .leaf (r45.1,r43.1,(a0.1,r45.2.2.1,r45.2.2.2.1,()))) (
 .leaf ((u7.1,u7.2.1,()),r43.1,(a0.1,r44.2.2.1,r44.2.2.2.1,()))))) (
 .ob (Ds ((i64.wrap (u2.1+(1:Int))),())) fun r46=>
 .ob (Bh (u2.2.1,()) ((0:Int),()) (u1.1,()) (u2.1,()) ((i64.wrap (u3.1+(1:Int))),()) ((7:Int),()) r46) fun r47=>
 .ob (Ap (a0.1,u9.1,u9.2.1,()) ((12:Int),())) fun r48=>
 .br r48.1.1 (
 .ob (Eh (a0.1,r48.2.2.1,r48.2.2.2.1,())) fun r49=>
 .leaf (r49.1,r47.1,(a0.1,r49.2.2.1,r49.2.2.2.1,()))) (
 .leaf ((u7.1,u7.2.1,()),r47.1,(a0.1,r48.2.2.1,r48.2.2.2.1,()))))) (
 .ob (Ap (a0.1,u9.1,u9.2.1,()) ((12:Int),())) fun r50=>
 .br r50.1.1 (
 .ob (Eh (a0.1,r50.2.2.1,r50.2.2.2.1,())) fun r51=>
 .leaf (r51.1,r28.1,(a0.1,r51.2.2.1,r51.2.2.2.1,()))) (
 .leaf ((u7.1,u7.2.1,()),r28.1,(a0.1,r50.2.2.1,r50.2.2.2.1,()))))))
def W8 (a0:Az) (a1:Bd):Option (Bu×Aq×Az):=(Wm a0 a1).val
def Wn (a0:YBs):Tree (Bd×YI×Bu×Aq×YBs):=
 .ob (Ai5 a0) fun r1=>
 .ob (N7 r1) fun r2=>
 .ob (W8 (r1.1,r2.2.2.1,r2.2.2.2.1,()) r2.1) fun r3=>
 .ob (B6 (r1.1,r3.2.2.2.1,r3.2.2.2.2.1,()) ([((0:Int),()),((1:Int),()),((5:Int),()),((6:Int),()),((7:Int),()),((8:Int),()),((10:Int),())],())) fun r4=>
 .ob (Dw (r1.1,r4.2.2.1,r4.2.2.2.1,()) ((12:Int),())) fun r5=>
 .leaf (r2.1,r4.1,r3.1,r3.2.1,r5.1)
def W9 (a0:YBs):Option (Bd×YI×Bu×Aq×YBs):=(Wn a0).val
def Ain (a0:YBs):Tree (YBs):=
 .chk (decide (([]:List YB).length+a0.1.length≤4294967296)) <|
 .leaf ((([]:List YB)++a0.1),())
def Br (a0:YBs):Option (YBs):=(Ain a0).val
def Aaz (a0:B8):Tree (B8):=
 .chk (decide (([]:List YI).length+a0.2.1.length≤4294967296)) <|
 .leaf (a0.1,(([]:List YI)++a0.2.1),())
def To (a0:B8):Option (B8):=(Aaz a0).val
def Aec (a0:YEp):Tree (YEp):=
 .ob (Br (a0.2.1,())) fun r1=>
 .ob (To (a0.2.2.2.1,a0.2.2.2.2.1,())) fun r2=>
 .leaf (a0.1,r1.1,a0.2.2.1,r2.1,r2.2.1,())
def Nc (a0:YEp):Option (YEp):=(Aec a0).val
def Wo (a0:Aj):Tree (Aj):=
 letI u1:=a0.2.2.2;letI u2:=u1.2.2.2;letI u3:=u2.2.2.2.2;.ob (Br (a0.2.1,())) fun r1=>
 .ob (Br (u3.2.2.2.2.1,())) fun r2=>
 .ob (Nc (a0.2.2.1,u1.1,u1.2.1,u1.2.2.1,u2.1,())) fun r3=>
 .ob (Nc (u2.2.1,u2.2.2.1,u2.2.2.2.1,u3.1,u3.2.1,())) fun r4=>
 .leaf (a0.1,r1.1,r3.1,r3.2.1,r3.2.2.1,r3.2.2.2.1,r3.2.2.2.2.1,r4.1,r4.2.1,r4.2.2.1,r4.2.2.2.1,r4.2.2.2.2.1,u3.2.2.1,u3.2.2.2.1,r2.1,())
def Fo (a0:Aj):Option (Aj):=(Wo a0).val
def Gs (x1:(List Al)×Int×Int×Int×Int×(List Al)×Int×Int×(List Al)×Unit):Option (((List Al)×Int×Int×Int×Int×(List Al)×Int×Int×(List Al)×Unit)⊕((Int×Int×(List Al)×Int×Int×(List Al)×Unit))):=
 letI u1:=x1.2.2;letI u2:=u1.2.2;letI u3:=u2.2.2;Tree.val (α:=((List Al)×Int×Int×Int×Int×(List Al)×Int×Int×(List Al)×Unit)⊕((Int×Int×(List Al)×Int×Int×(List Al)×Unit))) <|
 .br (decide (u1.1<x1.2.1)) (
 .ob (idx x1.1 u1.1) fun e2=>
 .ob (Br (e2.2.2.1,())) fun r3=>
 .chk (decide (x1.2.2.2.2.2.2.2.2.1.length+[(e2.1,e2.2.1,r3.1,e2.2.2.2.1,())].length≤4294967296)) <|
 .leaf (.inl (x1.1,x1.2.1,(i64.wrap (u1.1+(1:Int))),u1.2.1,u2.1,u2.2.1,u3.1,u3.2.1,(u3.2.2.1++[(e2.1,e2.2.1,r3.1,e2.2.2.2.1,())]),()))) (
 .leaf (.inr (u1.2.1,u2.1,u2.2.1,u3.1,u3.2.1,u3.2.2.1,())))
def Up (a0:A9):Tree (A9):=
 .ob (Ay Gs (a0.2.2.1,(a0.2.2.1.length:Int),(0:Int),(0:Int),(0:Int),([]:List Al),a0.1,a0.2.1,([]:List Al),())) fun o4=>
 .leaf (o4.2.2.2.1,o4.2.2.2.2.1,o4.2.2.2.2.2.1,())
def Di (a0:A9):Option (A9):=(Up a0).val
def Wp (a0:Bd):Tree (Bd):=
 letI u1:=a0.2.2.2;letI u2:=u1.2.2.2;letI u3:=u2.2.2.2;letI u4:=u3.2.2.2;letI u5:=u4.2.2.2;letI u6:=u5.2.2.2.2;.ob (Br (a0.2.1,())) fun r1=>
 .ob (Br (a0.2.2.1,())) fun r2=>
 .ob (Fo (u1.1,u1.2.1,u1.2.2.1,u2.1,u2.2.1,u2.2.2.1,u3.1,u3.2.1,u3.2.2.1,u4.1,u4.2.1,u4.2.2.1,u5.1,u5.2.1,u5.2.2.1,())) fun r3=>letI u7:=r3.2.2.2;letI u8:=u7.2.2.2;letI u9:=u8.2.2.2.2;
 .ob (Di (u5.2.2.2.1,u6.1,u6.2.1,())) fun r4=>
 .leaf (a0.1,r1.1,r2.1,r3.1,r3.2.1,r3.2.2.1,u7.1,u7.2.1,u7.2.2.1,u8.1,u8.2.1,u8.2.2.1,u8.2.2.2.1,u9.1,u9.2.1,u9.2.2.1,u9.2.2.2.1,u9.2.2.2.2.1,r4.1,r4.2.1,r4.2.2.1,u6.2.2.1,u6.2.2.2.1,u6.2.2.2.2.1,())
def Xa (a0:Bd):Option (Bd):=(Wp a0).val
def Aed (a0:YI) (a1:YI) (a2:YI):Tree ((Bool×Unit)):=
 .br (decide (a0.1≥a1.1)) (
 .leaf ((decide (a0.1≤a2.1)),())) (
 .leaf (false,()))
def Be (a0:YI) (a1:YI) (a2:YI):Option ((Bool×Unit)):=(Aed a0 a1 a2).val
def Alo (a0:YBs):Tree ((Bool×Unit)):=
 .leaf (((a0.1.length:Int)==(12:Int)),())
def Dh (a0:YBs):Option ((Bool×Unit)):=(Alo a0).val
def Ag3 (a0:YBs) (a1:YBs):Tree ((Bool×Unit)):=
 .leaf ((decide ((Ls a0.1)=(Ls a1.1))),())
def D7 (a0:YBs) (a1:YBs):Option ((Bool×Unit)):=(Ag3 a0 a1).val
def Acd (x1:(List YI)×(List YI)×Int×Int×Unit):Option (((List YI)×(List YI)×Int×Int×Unit)⊕((Bool×Unit)⊕(Unit))):=
 letI u1:=x1.2.2;Tree.val (α:=((List YI)×(List YI)×Int×Int×Unit)⊕((Bool×Unit)⊕(Unit))) <|
 .br (decide (u1.2.1<u1.1)) (
 .ob (idx x1.2.1 u1.2.1) fun e2=>
 .ob (idx x1.1 u1.2.1) fun e3=>
 .br (e2.1 != e3.1) (
 .leaf (.inr (.inl (false,())))) (
 .leaf (.inl (x1.1,x1.2.1,u1.1,(i64.wrap (u1.2.1+(1:Int))),())))) (
 .leaf (.inr (.inr ())))
def Wq (a0:(List YI)×Unit) (a1:(List YI)×Unit):Tree ((Bool×Unit)):=
 .br ((a0.1.length:Int) != (a1.1.length:Int)) (
 .leaf (false,())) (
 .ob (Ay Acd (a1.1,a0.1,(a0.1.length:Int),(0:Int),())) fun o4=>
 .sm o4 (fun o5=>
 .leaf o5) (fun o6=>
 .leaf (true,())))
def Xb (a0:(List YI)×Unit) (a1:(List YI)×Unit):Option ((Bool×Unit)):=(Wq a0 a1).val
def Aef (a0:YEp) (a1:YEp):Tree ((Bool×Unit)):=
 .br (a0.1==a1.1) (
 .ob (D7 (a0.2.1,()) (a1.2.1,())) fun r1=>
 .br r1.1 (
 .br (a0.2.2.1==a1.2.2.1) (
 .br (a0.2.2.2.1==a1.2.2.2.1) (
 .ob (Xb (a0.2.2.2.2.1,()) (a1.2.2.2.2.1,())) fun r2=>
 .leaf r2) (
 .leaf (false,()))) (
 .leaf (false,()))) (
 .leaf (false,()))) (
 .leaf (false,()))
def Q2 (a0:YEp) (a1:YEp):Option ((Bool×Unit)):=(Aef a0 a1).val
def Sa (a0:Aj):Tree ((Bool×Unit)):=
 letI u1:=a0.2.2.2;letI u2:=u1.2.2.2;letI u3:=u2.2.2.2;.br (a0.1==(0:Int)) (
 .br ((a0.2.1.length:Int)==(0:Int)) (
 .ob (Q2 (a0.2.2.1,u1.1,u1.2.1,u1.2.2.1,u2.1,()) ((0:Int),([]:List YB),(0:Int),(0:Int),([]:List YI),())) fun r1=>
 .br r1.1 (
 .ob (Q2 (u2.2.1,u2.2.2.1,u3.1,u3.2.1,u3.2.2.1,()) ((0:Int),([]:List YB),(0:Int),(0:Int),([]:List YI),())) fun r2=>
 .br r2.1 (
 .br (!u3.2.2.2.1) (
 .br (u3.2.2.2.2.1==(0:Int)) (
 .leaf (((a0.2.2.2.2.2.2.2.2.2.2.2.2.2.2.1.length:Int)==(0:Int)),())) (
 .leaf (false,()))) (
 .leaf (false,()))) (
 .leaf (false,()))) (
 .leaf (false,()))) (
 .leaf (false,()))) (
 .leaf (false,()))
def Se (a0:Aj):Option ((Bool×Unit)):=(Sa a0).val
def Aeg (a0:YI):Tree ((Bool×Unit)):=
 .br (a0.1==(0:Int)) (
 .leaf (true,())) (
 .leaf ((a0.1==(1:Int)),()))
def Kn (a0:YI):Option ((Bool×Unit)):=(Aeg a0).val
def Jq (x1:(List YI)×Int×(List YI)×Int×Int×Unit):Option (((List YI)×Int×(List YI)×Int×Int×Unit)⊕((Bool×Unit)⊕((List YI)×Int×Unit))):=
 letI u1:=x1.2.2;Tree.val (α:=((List YI)×Int×(List YI)×Int×Int×Unit)⊕((Bool×Unit)⊕((List YI)×Int×Unit))) <|
 .br (decide (u1.2.2.1<u1.2.1)) (
 .ob (idx u1.1 u1.2.2.1) fun e2=>
 .ob (Be e2 ((0:Int),()) ((4294967295:Int),())) fun r3=>
 .br (!r3.1) (
 .leaf (.inr (.inl (false,())))) (
 .leaf (.inl (x1.1,x1.2.1,u1.1,u1.2.1,(i64.wrap (u1.2.2.1+(1:Int))),())))) (
 .leaf (.inr (.inr (x1.1,x1.2.1,()))))
def Wr (a0:(List YI)×Unit) (a1:YI):Tree ((Bool×Unit)):=
 .ob (Ay Jq (a0.1,a1.1,a0.1,(a0.1.length:Int),(0:Int),())) fun o4=>
 .sm o4 (fun o5=>
 .leaf o5) (fun o6=>
 .leaf (((o6.1.length:Int)==o6.2.1),()))
def Mj (a0:(List YI)×Unit) (a1:YI):Option ((Bool×Unit)):=(Wr a0 a1).val
def Aei (a0:B8) (a1:YI):Tree ((Bool×Unit)):=
 .chk (decide ((0:Int)≤a1.1)) <|
 .chk (decide ((0:Int)≤(a1.1%(1024:Int)))) <|
 .ob (idx a0.2.1 ((a1.1%(1024:Int))/(32:Int))) fun e1=>
 .chk (decide ((0:Int)≤a1.1)) <|
 .chk (decide ((0:Int)≤(a1.1%(32:Int)))) <|
 .leaf (((i64.wrap ((BitVec.ofInt (i64.bits) ((Int.fdiv e1.1 (2^(min ((a1.1%(32:Int))).toNat i64.bits)))) &&& BitVec.ofInt (i64.bits) ((1:Int))).toNat:Nat))==(1:Int)),())
def Q3 (a0:B8) (a1:YI):Option ((Bool×Unit)):=(Aei a0 a1).val
def Lk (x3:Int×Int×(List YI)×Unit):Option ((Int×Int×(List YI)×Unit)⊕((Bool×Unit)⊕B8)):=
 Tree.val (α:=(Int×Int×(List YI)×Unit)⊕((Bool×Unit)⊕B8)) <|
 .br (decide (x3.1<(1024:Int))) (
 .ob (Q3 (x3.2.1,x3.2.2.1,()) (x3.1,())) fun r4=>
 .br r4.1 (
 .leaf (.inr (.inl (false,())))) (
 .leaf (.inl ((i64.wrap (x3.1+(1:Int))),x3.2.1,x3.2.2.1,())))) (
 .leaf (.inr (.inr (x3.2.1,x3.2.2.1,()))))
def Ais (a0:B8):Tree ((Bool×Unit)):=
 .ob (Be (a0.1,()) ((-1:Int),()) ((281474976710655:Int),())) fun r1=>
 .br (!r1.1) (
 .leaf (false,())) (
 .ob (Mj (a0.2.1,()) ((32:Int),())) fun r2=>
 .br (!r2.1) (
 .leaf (false,())) (
 .ob (Ay Lk ((i64.wrap (a0.1+(1:Int))),a0.1,a0.2.1,())) fun o5=>
 .sm o5 (fun o6=>
 .leaf o6) (fun o7=>
 .br (o7.1==(-1:Int)) (
 .leaf (true,())) (
 .ob (Q3 o7 (o7.1,())) fun r8=>
 .leaf r8))))
def Zq (a0:B8):Option ((Bool×Unit)):=(Ais a0).val
def Am4 (a0:YEp):Tree ((Bool×Unit)):=
 .ob (Be (a0.1,()) ((0:Int),()) ((4294967295:Int),())) fun r1=>
 .br r1.1 (
 .br ((a0.2.1.length:Int)==(32:Int)) (
 .ob (Be (a0.2.2.1,()) ((0:Int),()) ((281474976710656:Int),())) fun r2=>
 .br r2.1 (
 .ob (Zq (a0.2.2.2.1,a0.2.2.2.2.1,())) fun r3=>
 .leaf r3) (
 .leaf (false,()))) (
 .leaf (false,()))) (
 .leaf (false,()))
def Sf (a0:YEp):Option ((Bool×Unit)):=(Am4 a0).val
def Ait (a0:Aj):Tree ((Bool×Unit)):=
 letI u1:=a0.2.2.2.2.2.2.2;letI u2:=u1.2.2;letI u3:=u2.2.2;.br (!u3.2.1) (
 .ob (Q2 (u1.1,u1.2.1,u2.1,u2.2.1,u3.1,()) ((0:Int),([]:List YB),(0:Int),(0:Int),([]:List YI),())) fun r1=>
 .br r1.1 (
 .leaf ((u3.2.2.1==(0:Int)),())) (
 .leaf (false,()))) (
 .ob (Sf (u1.1,u1.2.1,u2.1,u2.2.1,u3.1,())) fun r2=>
 .br (!r2.1) (
 .leaf (false,())) (
 .br (u1.1 != (i64.wrap (a0.2.2.1-(1:Int)))) (
 .leaf (false,())) (
 .ob (Be (u3.2.2.1,()) ((0:Int),()) ((1000005:Int),())) fun r3=>
 .br r3.1 (
 .leaf (true,())) (
 .br (u3.2.2.1==(-1:Int)) (
 .leaf ((a0.1==(1:Int)),())) (
 .leaf (false,()))))))
def Ai9 (a0:Aj):Option ((Bool×Unit)):=(Ait a0).val
def Aej (a0:Aj):Tree ((Bool×Unit)):=
 letI u1:=a0.2.2;.ob (Kn (a0.1,())) fun r1=>
 .br (!r1.1) (
 .leaf (false,())) (
 .ob (Dh (a0.2.1,())) fun r2=>
 .br (!r2.1) (
 .leaf (false,())) (
 .ob (Sf (u1.1,u1.2.1,u1.2.2.1,u1.2.2.2.1,u1.2.2.2.2.1,())) fun r3=>
 .br (!r3.1) (
 .leaf (false,())) (
 .ob (Ai9 a0) fun r4=>
 .br (!r4.1) (
 .leaf (false,())) (
 .br ((a0.2.2.2.2.2.2.2.2.2.2.2.2.2.2.1.length:Int)==(0:Int)) (
 .leaf (true,())) (
 .br (a0.1==(0:Int)) (
 .br ((a0.2.2.2.2.2.2.2.2.2.2.2.2.2.2.1.length:Int)==(32:Int)) (
 .leaf ((decide (u1.1<(4294967295:Int))),())) (
 .leaf (false,()))) (
 .leaf (false,())))))))
def Hh (a0:Aj):Option ((Bool×Unit)):=(Aej a0).val
def Aek (a0:Bu):Tree ((Bool×Unit)):=
 .ob (Be (a0.1,()) ((0:Int),()) ((4294967295:Int),())) fun r1=>
 .br r1.1 (
 .ob (Be (a0.2.1,()) ((0:Int),()) ((65535:Int),())) fun r2=>
 .leaf r2) (
 .leaf (false,()))
def Ix (a0:Bu):Option ((Bool×Unit)):=(Aek a0).val
def G3 (x7:(List Al)×Int×Int×(List Al)×Int×Int×Int×Int×(List Al)×Int×Int×(List YB)×Int×Unit):Option (((List Al)×Int×Int×(List Al)×Int×Int×Int×Int×(List Al)×Int×Int×(List YB)×Int×Unit)⊕((Bool×Unit)⊕((List Al)×Int×Int×Int×Int×(List Al)×Unit))):=
 letI u1:=x7.2.2;letI u2:=u1.2.2.2;letI u3:=u2.2.2;letI u4:=u3.2.2;Tree.val (α:=((List Al)×Int×Int×(List Al)×Int×Int×Int×Int×(List Al)×Int×Int×(List YB)×Int×Unit)⊕((Bool×Unit)⊕((List Al)×Int×Int×Int×Int×(List Al)×Unit))) <|
 .br (decide (u2.1<u1.2.2.1)) (
 .ob (idx u1.2.1 u2.1) fun e8=>
 .br (and (e8.1==u4.1) (and (e8.2.1==u4.2.1) true)) (
 .leaf (.inr (.inl (false,())))) (
 .leaf (.inl (x7.1,x7.2.1,u1.1,u1.2.1,u1.2.2.1,(i64.wrap (u2.1+(1:Int))),u2.2.1,u3.1,u3.2.1,u4.1,u4.2.1,u4.2.2.1,u4.2.2.2.1,())))) (
 .leaf (.inr (.inr (x7.1,x7.2.1,u1.1,u2.2.1,u3.1,u3.2.1,()))))
def Il (x2:(List Al)×Int×Int×Int×Int×(List Al)×Unit):Option (((List Al)×Int×Int×Int×Int×(List Al)×Unit)⊕((Bool×Unit)⊕(Unit))):=
 letI u1:=x2.2.2;Tree.val (α:=((List Al)×Int×Int×Int×Int×(List Al)×Unit)⊕((Bool×Unit)⊕(Unit))) <|
 .br (decide (u1.1<x2.2.1)) (
 .ob (idx x2.1 u1.1) fun e3=>
 .ob (Ix (e3.1,e3.2.1,())) fun r4=>
 .br (!r4.1) (
 .leaf (.inr (.inl (false,())))) (
 .br (and (e3.1==u1.2.1) (and (e3.2.1==u1.2.2.1) true)) (
 .leaf (.inr (.inl (false,())))) (
 .ob (Dh (e3.2.2.1,())) fun r5=>
 .br (!r5.1) (
 .leaf (.inr (.inl (false,())))) (
 .ob (Be (e3.2.2.2.1,()) ((0:Int),()) ((1000006:Int),())) fun r6=>
 .br (!r6.1) (
 .leaf (.inr (.inl (false,())))) (
 .chk (decide ((0:Int)≤u1.1)) <|
 .chk (decide (u1.1≤(x2.2.2.2.2.2.1.length:Int))) <|
 .ob (Ay G3 (x2.1,x2.2.1,u1.1,((x2.2.2.2.2.2.1.take (u1.1).toNat).drop ((0:Int)).toNat),(((x2.2.2.2.2.2.1.take (u1.1).toNat).drop ((0:Int)).toNat).length:Int),(0:Int),u1.2.1,u1.2.2.1,u1.2.2.2.1,e3.1,e3.2.1,e3.2.2.1,e3.2.2.2.1,())) fun o9=>
 .sm o9 (fun o10=>
 .leaf (.inr (.inl o10))) (fun o11=>
 .leaf (.inl (o11.1,o11.2.1,(i64.wrap (o11.2.2.1+(1:Int))),o11.2.2.2.1,o11.2.2.2.2.1,o11.2.2.2.2.2.1,())))))))) (
 .leaf (.inr (.inr ())))
def Tl (a0:A9):Tree ((Bool×Unit)):=
 .ob (Ix (a0.1,a0.2.1,())) fun r1=>
 .br (!r1.1) (
 .leaf (false,())) (
 .br (decide ((a0.2.2.1.length:Int)>(3:Int))) (
 .leaf (false,())) (
 .ob (Ay Il (a0.2.2.1,(a0.2.2.1.length:Int),(0:Int),a0.1,a0.2.1,a0.2.2.1,())) fun o12=>
 .sm o12 (fun o13=>
 .leaf o13) (fun o14=>
 .leaf (true,()))))
def Lp (a0:A9):Option ((Bool×Unit)):=(Tl a0).val
def Aem (a0:Bd):Tree ((Bool×Unit)):=
 letI u1:=a0.2.2;letI u2:=u1.2.2;letI u3:=u2.2.2;letI u4:=u3.2.2;letI u5:=u4.2.2;letI u6:=u5.2.2;letI u7:=u6.2.2;letI u8:=u7.2.2;letI u9:=u8.2.2;letI u10:=u9.2.2.2;.ob (Be (a0.1,()) ((1:Int),()) ((9:Int),())) fun r1=>
 .br (!r1.1) (
 .leaf (false,())) (
 .ob (Dh (a0.2.1,())) fun r2=>
 .br (!r2.1) (
 .leaf (false,())) (
 .ob (Dh (u1.1,())) fun r3=>
 .br (!r3.1) (
 .leaf (false,())) (
 .ob (Be (u10.1,()) ((0:Int),()) ((1000000:Int),())) fun r4=>
 .br (!r4.1) (
 .leaf (false,())) (
 .br u10.2.2.1 (
 .ob (Se (u1.2.1,u2.1,u2.2.1,u3.1,u3.2.1,u4.1,u4.2.1,u5.1,u5.2.1,u6.1,u6.2.1,u7.1,u7.2.1,u8.1,u8.2.1,())) fun r5=>
 .br r5.1 (
 .br (and (u9.1==(0:Int)) (and (u9.2.1==(0:Int)) true)) (
 .br ((a0.2.2.2.2.2.2.2.2.2.2.2.2.2.2.2.2.2.2.2.2.1.length:Int)==(0:Int)) (
 .leaf ((u10.2.1==(0:Int)),())) (
 .leaf (false,()))) (
 .leaf (false,()))) (
 .leaf (false,()))) (
 .ob (Hh (u1.2.1,u2.1,u2.2.1,u3.1,u3.2.1,u4.1,u4.2.1,u5.1,u5.2.1,u6.1,u6.2.1,u7.1,u7.2.1,u8.1,u8.2.1,())) fun r6=>
 .br r6.1 (
 .br (u1.2.1==(1:Int)) (
 .ob (D7 (u2.1,()) (u1.1,())) fun r7=>
 .br r7.1 (
 .ob (Lp (u9.1,u9.2.1,u9.2.2.1,())) fun r8=>
 .br r8.1 (
 .ob (Be (u10.2.1,()) ((0:Int),()) ((1000000:Int),())) fun r9=>
 .leaf r9) (
 .leaf (false,()))) (
 .leaf (false,()))) (
 .leaf (false,()))) (
 .leaf (false,())))))))
def Q4 (a0:Bd):Option ((Bool×Unit)):=(Aem a0).val
def Aen (a0:YI):Tree ((Bool×Unit)):=
 .ob (Be a0 ((4:Int),()) ((8:Int),())) fun r1=>
 .leaf r1
def Nd (a0:YI):Option ((Bool×Unit)):=(Aen a0).val
def Aeo (a0:YI) (a1:YI):Tree ((Bool×Unit)):=
 .br (a0.1==(4:Int)) (
 .leaf ((decide (a1.1≤(40:Int))),())) (
 .br (a0.1==(5:Int)) (
 .leaf ((a1.1==(12:Int)),())) (
 .br (a0.1==(6:Int)) (
 .leaf ((a1.1==(12:Int)),())) (
 .leaf ((a1.1==(4:Int)),()))))
def Afg (a0:YI) (a1:YI):Option ((Bool×Unit)):=(Aeo a0 a1).val
def Ur (a0:Aq) (a1:Aq):Tree ((Bool×Unit)):=
 letI u1:=a0.2.2.2;letI u2:=u1.2.2.2;letI u3:=a1.2.2.2;letI u4:=u3.2.2.2;.br (a0.1==a1.1) (
 .br (a0.2.1==a1.2.1) (
 .br (u1.2.1==u3.2.1) (
 .br (u2.2.1==u4.2.1) (
 .br (u2.2.2.1==u4.2.2.1) (
 .ob (D7 (a0.2.2.1,()) (a1.2.2.1,())) fun r1=>
 .br r1.1 (
 .ob (D7 (u1.1,()) (u3.1,())) fun r2=>
 .br r2.1 (
 .ob (D7 (u1.2.2.1,()) (u3.2.2.1,())) fun r3=>
 .br r3.1 (
 .ob (D7 (u2.1,()) (u4.1,())) fun r4=>
 .br r4.1 (
 .ob (D7 (u2.2.2.2.1,()) (u4.2.2.2.1,())) fun r5=>
 .br r5.1 (
 .ob (D7 (u2.2.2.2.2.1,()) (u4.2.2.2.2.1,())) fun r6=>
 .leaf r6) (
 .leaf (false,()))) (
 .leaf (false,()))) (
 .leaf (false,()))) (
 .leaf (false,()))) (
 .leaf (false,()))) (
 .leaf (false,()))) (
 .leaf (false,()))) (
 .leaf (false,()))) (
 .leaf (false,()))) (
 .leaf (false,()))
def Iq (a0:Aq) (a1:Aq):Option ((Bool×Unit)):=(Ur a0 a1).val
def Aa2 (a0:Aq):Tree ((Bool×Unit)):=
 letI u1:=a0.2.2;letI u2:=u1.2.2;letI u3:=u2.2.2.2;.br (a0.1==(1:Int)) (
 .ob (Be (a0.2.1,()) ((1:Int),()) ((9:Int),())) fun r1=>
 .br r1.1 (
 .ob (Dh (u1.1,())) fun r2=>
 .br r2.1 (
 .ob (Iq a0 (a0.1,a0.2.1,u1.1,([]:List YB),(0:Int),([]:List YB),([]:List YB),(0:Int),(0:Int),([]:List YB),([]:List YB),())) fun r3=>
 .leaf r3) (
 .leaf (false,()))) (
 .leaf (false,()))) (
 .br (a0.1==(2:Int)) (
 .ob (Dh (u1.1,())) fun r4=>
 .br r4.1 (
 .ob (Dh (u1.2.1,())) fun r5=>
 .br r5.1 (
 .ob (Be (u2.1,()) ((0:Int),()) ((1000000:Int),())) fun r6=>
 .br r6.1 (
 .br ((a0.2.2.2.2.2.1.length:Int)==(16:Int)) (
 .ob (Iq a0 (a0.1,(0:Int),u1.1,u1.2.1,u2.1,u2.2.1,([]:List YB),(0:Int),(0:Int),([]:List YB),([]:List YB),())) fun r7=>
 .leaf r7) (
 .leaf (false,()))) (
 .leaf (false,()))) (
 .leaf (false,()))) (
 .leaf (false,()))) (
 .br (a0.1==(3:Int)) (
 .ob (Be (a0.2.1,()) ((1:Int),()) ((9:Int),())) fun r8=>
 .br r8.1 (
 .ob (Dh (u1.1,())) fun r9=>
 .br r9.1 (
 .ob (Dh (u1.2.1,())) fun r10=>
 .br r10.1 (
 .ob (Be (u2.1,()) ((0:Int),()) ((1000000:Int),())) fun r11=>
 .br r11.1 (
 .br ((a0.2.2.2.2.2.1.length:Int)==(16:Int)) (
 .br ((a0.2.2.2.2.2.2.1.length:Int)==(16:Int)) (
 .ob (Iq a0 (a0.1,a0.2.1,u1.1,u1.2.1,u2.1,u2.2.1,u2.2.2.1,(0:Int),(0:Int),([]:List YB),([]:List YB),())) fun r12=>
 .leaf r12) (
 .leaf (false,()))) (
 .leaf (false,()))) (
 .leaf (false,()))) (
 .leaf (false,()))) (
 .leaf (false,()))) (
 .leaf (false,()))) (
 .ob (Nd (a0.1,())) fun r13=>
 .br r13.1 (
 .ob (Dh (u1.2.1,())) fun r14=>
 .br r14.1 (
 .ob (Be (u3.1,()) ((0:Int),()) ((4294967295:Int),())) fun r15=>
 .br r15.1 (
 .ob (Be (u3.2.1,()) ((0:Int),()) ((281474976710655:Int),())) fun r16=>
 .br r16.1 (
 .br ((a0.2.2.2.2.2.2.2.2.2.2.1.length:Int)==(16:Int)) (
 .ob (Afg (a0.1,()) ((a0.2.2.2.2.2.2.2.2.2.1.length:Int),())) fun r17=>
 .br r17.1 (
 .ob (Iq a0 (a0.1,(0:Int),([]:List YB),u1.2.1,(0:Int),([]:List YB),([]:List YB),u3.1,u3.2.1,u3.2.2.1,u3.2.2.2.1,())) fun r18=>
 .leaf r18) (
 .leaf (false,()))) (
 .leaf (false,()))) (
 .leaf (false,()))) (
 .leaf (false,()))) (
 .leaf (false,()))) (
 .leaf (false,())))))
def Jf (a0:Aq):Option ((Bool×Unit)):=(Aa2 a0).val
def Qn (x1:(List YB)×(List YB)×Int×Int×Int×Unit):Option (((List YB)×(List YB)×Int×Int×Int×Unit)⊕(YI)):=
 letI u1:=x1.2.2.2;Tree.val (α:=((List YB)×(List YB)×Int×Int×Int×Unit)⊕(YI)) <|
 .br (decide (u1.2.1<u1.1)) (
 .ob (idx x1.1 u1.2.1) fun e2=>
 .ob (idx x1.2.1 u1.2.1) fun e3=>
 .leaf (.inl (x1.1,x1.2.1,(i64.wrap ((BitVec.ofInt (i64.bits) (x1.2.2.1) ||| BitVec.ofInt (i64.bits) ((i64.wrap ((u8.wrap ((BitVec.ofInt (u8.bits) (e2.1) ^^^ BitVec.ofInt (u8.bits) (e3.1)).toNat:Nat)))))).toNat:Nat)),u1.1,(i64.wrap (u1.2.1+(1:Int))),()))) (
 .leaf (.inr (x1.2.2.1,())))
def Am6 (a0:YBs) (a1:YBs):Tree (YI):=
 .br ((a0.1.length:Int) != (a1.1.length:Int)) (
 .leaf ((-1:Int),())) (
 .ob (Ay Qn (a0.1,a1.1,(0:Int),(a0.1.length:Int),(0:Int),())) fun o4=>
 .leaf o4)
def O6 (a0:YBs) (a1:YBs):Option (YI):=(Am6 a0 a1).val
def Aep:Tree (B8):=
 .leaf ((-1:Int),(List.replicate ((32:Int)).toNat ((0:Int),())),())
def Vk:Option (B8):=(Aep).val
def Zl (a0:YI) (a1:YBs):Tree (YEp):=
 .ob (Be a0 ((0:Int),()) ((4294967295:Int),())) fun r1=>
 .br (!r1.1) (
 .leaf ((0:Int),([]:List YB),(0:Int),(0:Int),([]:List YI),())) (
 .br ((a1.1.length:Int) != (32:Int)) (
 .leaf ((0:Int),([]:List YB),(0:Int),(0:Int),([]:List YI),())) (
 .ob (Br a1) fun r2=>
 .ob Vk fun r3=>
 .leaf (a0.1,r2.1,(0:Int),r3.1,r3.2.1,())))
def Ka (a0:YI) (a1:YBs):Option (YEp):=(Zl a0 a1).val
def Apd (x1:Int×(List YB)×Int×Unit):Option ((Int×(List YB)×Int×Unit)⊕(YBs)):=
 letI u1:=x1.2.2;Tree.val (α:=(Int×(List YB)×Int×Unit)⊕(YBs)) <|
 .br (decide (u1.1≥(0:Int))) (
 .chk (decide ((0:Int)≤(i64.wrap ((8:Int)*u1.1)))) <|
 .chk (decide (x1.2.1.length+[((u8.wrap ((i64.wrap ((BitVec.ofInt (i64.bits) ((Int.fdiv x1.1 (2^(min ((i64.wrap ((8:Int)*u1.1))).toNat i64.bits)))) &&& BitVec.ofInt (i64.bits) ((255:Int))).toNat:Nat)))),())].length≤4294967296)) <|
 .leaf (.inl (x1.1,(x1.2.1++[((u8.wrap ((i64.wrap ((BitVec.ofInt (i64.bits) ((Int.fdiv x1.1 (2^(min ((i64.wrap ((8:Int)*u1.1))).toNat i64.bits)))) &&& BitVec.ofInt (i64.bits) ((255:Int))).toNat:Nat)))),())]),(i64.wrap (u1.1-(1:Int))),()))) (
 .leaf (.inr (x1.2.1,())))
def Awe (a0:YBs) (a1:YI) (a2:YI):Tree (YBs):=
 .chk (decide (([]:List YB).length+a0.1.length≤4294967296)) <|
 .br (decide (a2.1<(1:Int))) (
 .leaf ((([]:List YB)++a0.1),())) (
 .br (decide (a2.1>(6:Int))) (
 .leaf ((([]:List YB)++a0.1),())) (
 .ob (Ay Apd (a1.1,(([]:List YB)++a0.1),(i64.wrap (a2.1-(1:Int))),())) fun o2=>
 .leaf o2))
def H2 (a0:YBs) (a1:YI) (a2:YI):Option (YBs):=(Awe a0 a1 a2).val
def Jr (x1:(List YB)×(List YBs)×Int×Int×Unit):Option (((List YB)×(List YBs)×Int×Int×Unit)⊕(YBs)):=
 letI u1:=x1.2.2;Tree.val (α:=((List YB)×(List YBs)×Int×Int×Unit)⊕(YBs)) <|
 .br (decide (u1.2.1<u1.1)) (
 .ob (idx x1.2.1 u1.2.1) fun e2=>
 .chk (decide (x1.1.length+e2.1.length≤4294967296)) <|
 .leaf (.inl ((x1.1++e2.1),x1.2.1,u1.1,(i64.wrap (u1.2.1+(1:Int))),()))) (
 .leaf (.inr (x1.1,())))
def Aeq (a0:(List YBs)×Unit):Tree (YBs):=
 .ob (Ay Jr (([]:List YB),a0.1,(a0.1.length:Int),(0:Int),())) fun o3=>
 .leaf o3
def Fp (a0:(List YBs)×Unit):Option (YBs):=(Aeq a0).val
def Aer (a0:YI) (a1:YBs) (a2:YI) (a3:YI):Tree (YBs):=
 .ob (Kn a0) fun r1=>
 .br (!r1.1) (
 .leaf (([]:List YB),())) (
 .ob (Dh a1) fun r2=>
 .br (!r2.1) (
 .leaf (([]:List YB),())) (
 .ob (Be a2 ((0:Int),()) ((4294967295:Int),())) fun r3=>
 .br (!r3.1) (
 .leaf (([]:List YB),())) (
 .ob (Be a3 ((0:Int),()) ((281474976710655:Int),())) fun r4=>
 .br (!r4.1) (
 .leaf (([]:List YB),())) (
 .ob (H2 (([]:List YB),()) a2 ((4:Int),())) fun r5=>
 .ob (H2 (([]:List YB),()) a3 ((6:Int),())) fun r6=>
 .ob (Fp ([([((u8.wrap (a0.1)),())],()),a1,r5,r6],())) fun r7=>
 .leaf r7))))
def Q5 (a0:YI) (a1:YBs) (a2:YI) (a3:YI):Option (YBs):=(Aer a0 a1 a2 a3).val
def Wt (a0:YI) (a1:Aq):Tree (YBs):=
 letI u1:=a1.2.2.2.2.2.2.2;.ob (Kn a0) fun r1=>
 .br (!r1.1) (
 .leaf (([]:List YB),())) (
 .ob (Nd (a1.1,())) fun r2=>
 .br (!r2.1) (
 .leaf (([]:List YB),())) (
 .ob (Jf a1) fun r3=>
 .br (!r3.1) (
 .leaf (([]:List YB),())) (
 .ob (Q5 a0 (a1.2.2.2.1,()) (u1.1,()) (u1.2.1,())) fun r4=>
 .ob (Fp ([([((116:Int),())],()),r4,([((u8.wrap (a1.1)),())],()),(u1.2.2.1,())],())) fun r5=>
 .leaf r5)))
def H3 (a0:YI) (a1:Aq):Option (YBs):=(Wt a0 a1).val
def Aes (a0:B8) (a1:YI):Tree ((Bool×Unit)):=
 .ob (Zq a0) fun r1=>
 .br (!r1.1) (
 .leaf (false,())) (
 .ob (Be a1 ((0:Int),()) ((281474976710655:Int),())) fun r2=>
 .br (!r2.1) (
 .leaf (false,())) (
 .br (decide (a1.1>a0.1)) (
 .leaf (true,())) (
 .br (decide (a1.1≥(i64.wrap ((i64.wrap (a0.1-(1024:Int)))+(1:Int))))) (
 .ob (Q3 a0 a1) fun r3=>
 .leaf ((!r3.1),())) (
 .leaf (false,())))))
def Afh (a0:B8) (a1:YI):Option ((Bool×Unit)):=(Aes a0 a1).val
def Jt (x3:Int×Int×Int×(List YI)×Int×(List YI)×Int×(List YI)×Unit):Option ((Int×Int×Int×(List YI)×Int×(List YI)×Int×(List YI)×Unit)⊕((Int×Int×(List YI)×Int×(List YI)×Int×(List YI)×Unit))):=
 letI u1:=x3.2.2;letI u2:=u1.2.2;letI u3:=u2.2.2;Tree.val (α:=(Int×Int×Int×(List YI)×Int×(List YI)×Int×(List YI)×Unit)⊕((Int×Int×(List YI)×Int×(List YI)×Int×(List YI)×Unit))) <|
 .br (decide (x3.2.1<x3.1)) (
 .chk (decide ((0:Int)≤x3.2.1)) <|
 .chk (decide ((0:Int)≤(x3.2.1%(1024:Int)))) <|
 .ob (idx u3.2.1 ((x3.2.1%(1024:Int))/(32:Int))) fun e4=>
 .chk (decide ((0:Int)≤x3.2.1)) <|
 .chk (decide ((0:Int)≤(x3.2.1%(32:Int)))) <|
 .ob (idx u3.2.1 ((x3.2.1%(1024:Int))/(32:Int))) fun e5=>
 let q6:=(x3.2.2.2.2.2.2.2.1.set (((x3.2.1%(1024:Int))/(32:Int))).toNat ((i64.wrap ((BitVec.ofInt (i64.bits) (e4.1) &&& ~~~ BitVec.ofInt (i64.bits) ((i64.wrap ((1:Int)*2^(min ((x3.2.1%(32:Int))).toNat i64.bits))))).toNat:Nat)),()))
 .leaf (.inl (x3.1,(i64.wrap (x3.2.1+(1:Int))),u1.1,u1.2.1,u2.1,u2.2.1,u3.1,q6,()))) (
 .leaf (.inr (x3.1,u1.1,u1.2.1,u2.1,u2.2.1,u3.1,u3.2.1,())))
def Aet (a0:B8) (a1:YI):Tree (B8×(Bool×Unit)):=
 .ob (To a0) fun r1=>
 .ob (Afh a0 a1) fun r2=>
 .br (!r2.1) (
 .leaf (r1,(false,()))) (
 .ob (Ay Jt (a1.1,(if (i64.wrap (a0.1+(1:Int)))<(i64.wrap ((i64.wrap (a1.1-(1024:Int)))+(1:Int)))then(i64.wrap ((i64.wrap (a1.1-(1024:Int)))+(1:Int)))else(i64.wrap (a0.1+(1:Int)))),a0.1,a0.2.1,(0:Int),([]:List YI),r1.1,r1.2.1,())) fun o7=>
 .chk (decide ((0:Int)≤o7.1)) <|
 .chk (decide ((0:Int)≤(o7.1%(1024:Int)))) <|
 .ob (idx o7.2.2.2.2.2.2.1 ((o7.1%(1024:Int))/(32:Int))) fun e8=>
 .chk (decide ((0:Int)≤o7.1)) <|
 .chk (decide ((0:Int)≤(o7.1%(32:Int)))) <|
 .ob (idx o7.2.2.2.2.2.2.1 ((o7.1%(1024:Int))/(32:Int))) fun e9=>
 let q10:=(o7.2.2.2.2.2.2.1.set (((o7.1%(1024:Int))/(32:Int))).toNat ((i64.wrap ((BitVec.ofInt (i64.bits) (e8.1) ||| BitVec.ofInt (i64.bits) ((i64.wrap ((1:Int)*2^(min ((o7.1%(32:Int))).toNat i64.bits))))).toNat:Nat)),()))
 .leaf (((if o7.2.1<o7.1 then o7.1 else o7.2.1),q10,()),(true,())))
def Afi (a0:B8) (a1:YI):Option (B8×(Bool×Unit)):=(Aet a0 a1).val
def Atp:Tree (((List YI)×Unit)):=
 .leaf ([((1779033703:Int),()),((3144134277:Int),()),((1013904242:Int),()),((2773480762:Int),()),((1359893119:Int),()),((2600822924:Int),()),((528734635:Int),()),((1541459225:Int),())],())
def A4u:Option (((List YI)×Unit)):=(Atp).val
def Alt:Tree (Kk):=
 .ob A4u fun r1=>
 .leaf (r1.1,([]:List YB),(0:Int),())
def Al4:Option (Kk):=(Alt).val
def Aev (a0:Kk):Tree ((Bool×Unit)):=
 .ob (Mj (a0.1,()) ((8:Int),())) fun r1=>
 .br r1.1 (
 .ob (Be (a0.2.2.1,()) ((0:Int),()) ((1048576:Int),())) fun r2=>
 .br r2.1 (
 .chk (decide ((0:Int)≤a0.2.2.1)) <|
 .leaf (((a0.2.2.1%(64:Int))==(a0.2.1.length:Int)),())) (
 .leaf (false,()))) (
 .leaf (false,()))
def Vl (a0:Kk):Option ((Bool×Unit)):=(Aev a0).val
def Arv (a0:YBs) (a1:YI) (a2:YI):Tree (YBs×(Bool×Unit)):=
 .br (decide (a1.1<(0:Int))) (
 .leaf ((([]:List YB),()),(false,()))) (
 .br (decide (a2.1<(0:Int))) (
 .leaf ((([]:List YB),()),(false,()))) (
 .br (decide (a1.1>(a0.1.length:Int))) (
 .leaf ((([]:List YB),()),(false,()))) (
 .br (decide (a2.1>(i64.wrap ((a0.1.length:Int)-a1.1)))) (
 .leaf ((([]:List YB),()),(false,()))) (
 .chk (decide ((0:Int)≤a1.1)) <|
 .chk (decide (a1.1≤(i64.wrap (a1.1+a2.1)))) <|
 .chk (decide ((i64.wrap (a1.1+a2.1))≤(a0.1.length:Int))) <|
 .chk (decide (([]:List YB).length+((a0.1.take ((i64.wrap (a1.1+a2.1))).toNat).drop (a1.1).toNat).length≤4294967296)) <|
 .leaf (((([]:List YB)++((a0.1.take ((i64.wrap (a1.1+a2.1))).toNat).drop (a1.1).toNat)),()),(true,()))))))
def Asd (a0:YBs) (a1:YI) (a2:YI):Option (YBs×(Bool×Unit)):=(Arv a0 a1 a2).val
def M9 (x2:Int×Int×Int×(List YB)×Int×Int×Unit):Option ((Int×Int×Int×(List YB)×Int×Int×Unit)⊕((Int×Int×Int×Unit))):=
 letI u1:=x2.2.2;letI u2:=u1.2.2;Tree.val (α:=(Int×Int×Int×(List YB)×Int×Int×Unit)⊕((Int×Int×Int×Unit))) <|
 .br (decide (u2.2.1<u2.1)) (
 .ob (idx u1.2.1 u2.2.1) fun e3=>
 .leaf (.inl (x2.1,x2.2.1,(i64.wrap ((i64.wrap ((256:Int)*u1.1))+(i64.wrap (e3.1)))),u1.2.1,u2.1,(i64.wrap (u2.2.1+(1:Int))),()))) (
 .leaf (.inr (x2.1,x2.2.1,u1.1,())))
def Am7 (a0:YBs) (a1:YI) (a2:YI):Tree (YI×YI×(Bool×Unit)):=
 .br (decide (a2.1<(1:Int))) (
 .leaf (((0:Int),()),((0:Int),()),(false,()))) (
 .br (decide (a2.1>(6:Int))) (
 .leaf (((0:Int),()),((0:Int),()),(false,()))) (
 .ob (Asd a0 a1 a2) fun r1=>
 .br (!r1.2.1) (
 .leaf (((0:Int),()),((0:Int),()),(false,()))) (
 .ob (Ay M9 (a1.1,a2.1,(0:Int),r1.1.1,(r1.1.1.length:Int),(0:Int),())) fun o4=>
 .leaf ((o4.2.2.1,()),((i64.wrap (o4.1+o4.2.1)),()),(true,())))))
def Anh (a0:YBs) (a1:YI) (a2:YI):Option (YI×YI×(Bool×Unit)):=(Am7 a0 a1 a2).val
def Arx (a0:YI) (a1:YI):Tree (YI):=
 .br (decide (a1.1<(0:Int))) (
 .leaf ((i64.wrap ((BitVec.ofInt (i64.bits) (a0.1) &&& BitVec.ofInt (i64.bits) ((4294967295:Int))).toNat:Nat)),())) (
 .br (decide (a1.1>(31:Int))) (
 .leaf ((i64.wrap ((BitVec.ofInt (i64.bits) (a0.1) &&& BitVec.ofInt (i64.bits) ((4294967295:Int))).toNat:Nat)),())) (
 .chk (decide ((0:Int)≤a1.1)) <|
 .chk (decide ((0:Int)≤(i64.wrap ((32:Int)-a1.1)))) <|
 .leaf ((i64.wrap ((BitVec.ofInt (i64.bits) ((i64.wrap ((BitVec.ofInt (i64.bits) ((Int.fdiv (i64.wrap ((BitVec.ofInt (i64.bits) (a0.1) &&& BitVec.ofInt (i64.bits) ((4294967295:Int))).toNat:Nat)) (2^(min (a1.1).toNat i64.bits)))) ||| BitVec.ofInt (i64.bits) ((i64.wrap ((i64.wrap ((BitVec.ofInt (i64.bits) (a0.1) &&& BitVec.ofInt (i64.bits) ((4294967295:Int))).toNat:Nat))*2^(min ((i64.wrap ((32:Int)-a1.1))).toNat i64.bits))))).toNat:Nat))) &&& BitVec.ofInt (i64.bits) ((4294967295:Int))).toNat:Nat)),())))
def Ir (a0:YI) (a1:YI):Option (YI):=(Arx a0 a1).val
def Hu (x1:(List YB)×(List YI)×Int×Unit):Option (((List YB)×(List YI)×Int×Unit)⊕(((List YI)×Unit))):=
 letI u1:=x1.2.2;Tree.val (α:=((List YB)×(List YI)×Int×Unit)⊕(((List YI)×Unit))) <|
 .br (decide (u1.1<(16:Int))) (
 .ob (Anh (x1.1,()) ((i64.wrap ((4:Int)*u1.1)),()) ((4:Int),())) fun r2=>
 .ob (idx x1.2.1 u1.1) fun e3=>
 let q4:=(x1.2.1.set (u1.1).toNat r2.1)
 .leaf (.inl (x1.1,q4,(i64.wrap (u1.1+(1:Int))),()))) (
 .leaf (.inr (x1.2.1,())))
def Hv (x6:(List YI)×Int×Unit):Option (((List YI)×Int×Unit)⊕(((List YI)×Unit))):=
 Tree.val (α:=((List YI)×Int×Unit)⊕(((List YI)×Unit))) <|
 .br (decide (x6.2.1<(64:Int))) (
 .ob (idx x6.1 (i64.wrap (x6.2.1-(15:Int)))) fun e7=>
 .ob (idx x6.1 (i64.wrap (x6.2.1-(2:Int)))) fun e8=>
 .ob (Ir e7 ((7:Int),())) fun r9=>
 .ob (Ir e7 ((18:Int),())) fun r10=>
 .ob (Ir e8 ((17:Int),())) fun r11=>
 .ob (Ir e8 ((19:Int),())) fun r12=>
 .ob (idx x6.1 (i64.wrap (x6.2.1-(7:Int)))) fun e13=>
 .ob (idx x6.1 (i64.wrap (x6.2.1-(16:Int)))) fun e14=>
 .ob (idx x6.1 x6.2.1) fun e15=>
 let q16:=(x6.1.set (x6.2.1).toNat ((i64.wrap ((BitVec.ofInt (i64.bits) ((i64.wrap ((i64.wrap ((i64.wrap (e13.1+e14.1))+(i64.wrap ((BitVec.ofInt (i64.bits) ((i64.wrap ((BitVec.ofInt (i64.bits) (r9.1) ^^^ BitVec.ofInt (i64.bits) (r10.1)).toNat:Nat))) ^^^ BitVec.ofInt (i64.bits) ((Int.fdiv e7.1 (2^(min ((3:Int)).toNat i64.bits))))).toNat:Nat))))+(i64.wrap ((BitVec.ofInt (i64.bits) ((i64.wrap ((BitVec.ofInt (i64.bits) (r11.1) ^^^ BitVec.ofInt (i64.bits) (r12.1)).toNat:Nat))) ^^^ BitVec.ofInt (i64.bits) ((Int.fdiv e8.1 (2^(min ((10:Int)).toNat i64.bits))))).toNat:Nat))))) &&& BitVec.ofInt (i64.bits) ((4294967295:Int))).toNat:Nat)),()))
 .leaf (.inl (q16,(i64.wrap (x6.2.1+(1:Int))),()))) (
 .leaf (.inr (x6.1,())))
def Qo (a0:YBs):Tree (((List YI)×Unit)):=
 .br ((a0.1.length:Int) != (64:Int)) (
 .leaf (([]:List YI),())) (
 .ob (Ay Hu (a0.1,(List.replicate ((64:Int)).toNat ((0:Int),())),(0:Int),())) fun o5=>
 .ob (Ay Hv (o5.1,(16:Int),())) fun o17=>
 .leaf o17)
def Xc (a0:YBs):Option (((List YI)×Unit)):=(Qo a0).val
def Aha (a0:YI):Tree YI:=.leaf (Tw a0.1,())
def Ahg (a0:YI):Option YI:=(Aha a0).val
def Atr (a0:YI) (a1:YI):Tree (YI):=
 .leaf ((i64.wrap ((BitVec.ofInt (i64.bits) ((i64.wrap (a0.1+a1.1))) &&& BitVec.ofInt (i64.bits) ((4294967295:Int))).toNat:Nat)),())
def Zr (a0:YI) (a1:YI):Option (YI):=(Atr a0 a1).val
def F4 (x11:(List YI)×(List YI)×(List YI)×Int×Int×Int×Int×Int×Int×Int×Int×Int×Unit):Option (((List YI)×(List YI)×(List YI)×Int×Int×Int×Int×Int×Int×Int×Int×Int×Unit)⊕(((List YI)×(List YI)×Int×Int×Int×Int×Int×Int×Int×Int×Unit))):=
 letI u1:=x11.2.2.2;letI u2:=u1.2.2;letI u3:=u2.2.2;letI u4:=u3.2.2;Tree.val (α:=((List YI)×(List YI)×(List YI)×Int×Int×Int×Int×Int×Int×Int×Int×Int×Unit)⊕(((List YI)×(List YI)×Int×Int×Int×Int×Int×Int×Int×Int×Unit))) <|
 .br (decide (u4.2.2.1<(64:Int))) (
 .ob (Ir (u3.1,()) ((6:Int),())) fun r12=>
 .ob (Ir (u3.1,()) ((11:Int),())) fun r13=>
 .ob (Ir (u3.1,()) ((25:Int),())) fun r14=>
 .ob (Ahg (u4.2.2.1,())) fun r15=>
 .ob (idx x11.2.2.1 u4.2.2.1) fun e16=>
 .ob (Ir (u1.1,()) ((2:Int),())) fun r17=>
 .ob (Ir (u1.1,()) ((13:Int),())) fun r18=>
 .ob (Ir (u1.1,()) ((22:Int),())) fun r19=>
 .ob (Zr (u2.2.1,()) ((i64.wrap ((i64.wrap ((i64.wrap ((i64.wrap (u4.2.1+(i64.wrap ((BitVec.ofInt (i64.bits) ((i64.wrap ((BitVec.ofInt (i64.bits) (r12.1) ^^^ BitVec.ofInt (i64.bits) (r13.1)).toNat:Nat))) ^^^ BitVec.ofInt (i64.bits) (r14.1)).toNat:Nat))))+(i64.wrap ((BitVec.ofInt (i64.bits) ((i64.wrap ((BitVec.ofInt (i64.bits) (u3.1) &&& BitVec.ofInt (i64.bits) (u3.2.1)).toNat:Nat))) ^^^ BitVec.ofInt (i64.bits) ((i64.wrap ((BitVec.ofInt (i64.bits) ((i64.wrap ((BitVec.ofInt (i64.bits) ((4294967295:Int)) ^^^ BitVec.ofInt (i64.bits) (u3.1)).toNat:Nat))) &&& BitVec.ofInt (i64.bits) (u4.1)).toNat:Nat)))).toNat:Nat))))+r15.1))+e16.1)),())) fun r20=>
 .ob (Zr ((i64.wrap ((i64.wrap ((i64.wrap ((i64.wrap (u4.2.1+(i64.wrap ((BitVec.ofInt (i64.bits) ((i64.wrap ((BitVec.ofInt (i64.bits) (r12.1) ^^^ BitVec.ofInt (i64.bits) (r13.1)).toNat:Nat))) ^^^ BitVec.ofInt (i64.bits) (r14.1)).toNat:Nat))))+(i64.wrap ((BitVec.ofInt (i64.bits) ((i64.wrap ((BitVec.ofInt (i64.bits) (u3.1) &&& BitVec.ofInt (i64.bits) (u3.2.1)).toNat:Nat))) ^^^ BitVec.ofInt (i64.bits) ((i64.wrap ((BitVec.ofInt (i64.bits) ((i64.wrap ((BitVec.ofInt (i64.bits) ((4294967295:Int)) ^^^ BitVec.ofInt (i64.bits) (u3.1)).toNat:Nat))) &&& BitVec.ofInt (i64.bits) (u4.1)).toNat:Nat)))).toNat:Nat))))+r15.1))+e16.1)),()) ((i64.wrap ((i64.wrap ((BitVec.ofInt (i64.bits) ((i64.wrap ((BitVec.ofInt (i64.bits) (r17.1) ^^^ BitVec.ofInt (i64.bits) (r18.1)).toNat:Nat))) ^^^ BitVec.ofInt (i64.bits) (r19.1)).toNat:Nat))+(i64.wrap ((BitVec.ofInt (i64.bits) ((i64.wrap ((BitVec.ofInt (i64.bits) ((i64.wrap ((BitVec.ofInt (i64.bits) (u1.1) &&& BitVec.ofInt (i64.bits) (u1.2.1)).toNat:Nat))) ^^^ BitVec.ofInt (i64.bits) ((i64.wrap ((BitVec.ofInt (i64.bits) (u1.1) &&& BitVec.ofInt (i64.bits) (u2.1)).toNat:Nat)))).toNat:Nat))) ^^^ BitVec.ofInt (i64.bits) ((i64.wrap ((BitVec.ofInt (i64.bits) (u1.2.1) &&& BitVec.ofInt (i64.bits) (u2.1)).toNat:Nat)))).toNat:Nat)))),())) fun r21=>
 .leaf (.inl (x11.1,x11.2.1,x11.2.2.1,r21.1,u1.1,u1.2.1,u2.1,r20.1,u3.1,u3.2.1,u4.1,(i64.wrap (u4.2.2.1+(1:Int))),()))) (
 .leaf (.inr (x11.1,x11.2.1,u1.1,u1.2.1,u2.1,u2.2.1,u3.1,u3.2.1,u4.1,u4.2.1,())))
def Fm (x23:(List YI)×(List YI)×(List YI)×Int×Int×Unit):Option (((List YI)×(List YI)×(List YI)×Int×Int×Unit)⊕(((List YI)×Unit))):=
 letI u1:=x23.2.2;letI u2:=u1.2.2;Tree.val (α:=((List YI)×(List YI)×(List YI)×Int×Int×Unit)⊕(((List YI)×Unit))) <|
 .br (decide (u2.1<u1.2.1)) (
 .ob (idx u1.1 u2.1) fun e24=>
 .ob (idx x23.1 u2.1) fun e25=>
 .ob (Zr e25 e24) fun r26=>
 .ob (idx x23.2.1 u2.1) fun e27=>
 let q28:=(x23.2.1.set (u2.1).toNat r26)
 .leaf (.inl (x23.1,q28,u1.1,u1.2.1,(i64.wrap (u2.1+(1:Int))),()))) (
 .leaf (.inr (x23.2.1,())))
def Qp (a0:(List YI)×Unit) (a1:YBs):Tree (((List YI)×Unit)):=
 .chk (decide (([]:List YI).length+a0.1.length≤4294967296)) <|
 .ob (Mj a0 ((8:Int),())) fun r1=>
 .br (!r1.1) (
 .leaf ((([]:List YI)++a0.1),())) (
 .br ((a1.1.length:Int) != (64:Int)) (
 .leaf ((([]:List YI)++a0.1),())) (
 .ob (Xc a1) fun r2=>
 .ob (idx a0.1 (0:Int)) fun e3=>
 .ob (idx a0.1 (1:Int)) fun e4=>
 .ob (idx a0.1 (2:Int)) fun e5=>
 .ob (idx a0.1 (3:Int)) fun e6=>
 .ob (idx a0.1 (4:Int)) fun e7=>
 .ob (idx a0.1 (5:Int)) fun e8=>
 .ob (idx a0.1 (6:Int)) fun e9=>
 .ob (idx a0.1 (7:Int)) fun e10=>
 .ob (Ay F4 (a0.1,(([]:List YI)++a0.1),r2.1,e3.1,e4.1,e5.1,e6.1,e7.1,e8.1,e9.1,e10.1,(0:Int),())) fun o22=>letI u1:=o22.2.2;letI u2:=u1.2.2;letI u3:=u2.2.2.2;
 .ob (Ay Fm (o22.1,o22.2.1,[(u1.1,()),(u1.2.1,()),(u2.1,()),(u2.2.1,()),(u2.2.2.1,()),(u3.1,()),(u3.2.1,()),(u3.2.2.1,())],([(u1.1,()),(u1.2.1,()),(u2.1,()),(u2.2.1,()),(u2.2.2.1,()),(u3.1,()),(u3.2.1,()),(u3.2.2.1,())].length:Int),(0:Int),())) fun o29=>
 .leaf o29))
def Mk (a0:(List YI)×Unit) (a1:YBs):Option (((List YI)×Unit)):=(Qp a0 a1).val
def Ey (x3:(List YI)×(List YB)×Unit):Option (((List YI)×(List YB)×Unit)⊕(((List YI)×(List YB)×Unit))):=
 Tree.val (α:=((List YI)×(List YB)×Unit)⊕(((List YI)×(List YB)×Unit))) <|
 .br (decide ((x3.2.1.length:Int)≥(64:Int))) (
 .chk (decide ((64:Int)≤(x3.2.1.length:Int))) <|
 .ob (Mk (x3.1,()) (((x3.2.1.take ((64:Int)).toNat).drop ((0:Int)).toNat),())) fun r4=>
 .chk (decide ((64:Int)≤(x3.2.1.length:Int))) <|
 .chk (decide ((x3.2.1.length:Int)≤(x3.2.1.length:Int))) <|
 .leaf (.inl (r4.1,((x3.2.1.take ((x3.2.1.length:Int)).toNat).drop ((64:Int)).toNat),()))) (
 .leaf (.inr x3))
def Qr (a0:(List YI)×Unit) (a1:YBs):Tree (((List YI)×Unit)×YBs):=
 .ob (Ay Ey (a0.1,a1.1,())) fun o5=>
 .leaf ((o5.1,()),(o5.2.1,()))
def Lw (a0:(List YI)×Unit) (a1:YBs):Option (((List YI)×Unit)×YBs):=(Qr a0 a1).val
def Aa4 (a0:Kk) (a1:YBs):Tree (Kk):=
 .ob (Vl a0) fun r1=>
 .br (!r1.1) (
 .chk (decide (([]:List YI).length+a0.1.length≤4294967296)) <|
 .ob (Br (a0.2.1,())) fun r2=>
 .leaf ((([]:List YI)++a0.1),r2.1,a0.2.2.1,())) (
 .br (decide ((a1.1.length:Int)>(i64.wrap ((1048576:Int)-a0.2.2.1)))) (
 .chk (decide (([]:List YI).length+a0.1.length≤4294967296)) <|
 .ob (Br (a0.2.1,())) fun r3=>
 .leaf ((([]:List YI)++a0.1),r3.1,a0.2.2.1,())) (
 .ob (Fp ([(a0.2.1,()),a1],())) fun r4=>
 .ob (Lw (a0.1,()) r4) fun r5=>
 .chk (decide (([]:List YI).length+r5.1.1.length≤4294967296)) <|
 .ob (Br r5.2) fun r6=>
 .leaf ((([]:List YI)++r5.1.1),r6.1,(i64.wrap (a0.2.2.1+(a1.1.length:Int))),())))
def Abf (a0:Kk) (a1:YBs):Option (Kk):=(Aa4 a0 a1).val
def Mf (x2:Int×(List YB)×Unit):Option ((Int×(List YB)×Unit)⊕((Int×(List YB)×Unit))):=
 Tree.val (α:=(Int×(List YB)×Unit)⊕((Int×(List YB)×Unit))) <|
 .chk (decide ((0:Int)≤(i64.wrap ((i64.wrap (x2.1+(x2.2.1.length:Int)))+(8:Int))))) <|
 .br (((i64.wrap ((i64.wrap (x2.1+(x2.2.1.length:Int)))+(8:Int)))%(64:Int)) != (0:Int)) (
 .chk (decide (x2.2.1.length+[((0:Int),())].length≤4294967296)) <|
 .leaf (.inl (x2.1,(x2.2.1++[((0:Int),())]),()))) (
 .leaf (.inr x2))
def Arz (a0:YI):Tree (YBs):=
 .ob (Be a0 ((0:Int),()) ((1048576:Int),())) fun r1=>
 .br (!r1.1) (
 .leaf (([]:List YB),())) (
 .ob (Ay Mf (a0.1,[((128:Int),())],())) fun o3=>
 .chk (decide (o3.2.1.length+[((0:Int),()),((0:Int),())].length≤4294967296)) <|
 .ob (H2 ((o3.2.1++[((0:Int),()),((0:Int),())]),()) ((i64.wrap ((8:Int)*o3.1)),()) ((6:Int),())) fun r4=>
 .leaf r4)
def Ase (a0:YI):Option (YBs):=(Arz a0).val
def Gt (x1:(List YB)×(List YI)×Int×Int×Unit):Option (((List YB)×(List YI)×Int×Int×Unit)⊕(YBs)):=
 letI u1:=x1.2.2;Tree.val (α:=((List YB)×(List YI)×Int×Int×Unit)⊕(YBs)) <|
 .br (decide (u1.2.1<u1.1)) (
 .ob (idx x1.2.1 u1.2.1) fun e2=>
 .ob (H2 (x1.1,()) e2 ((4:Int),())) fun r3=>
 .leaf (.inl (r3.1,x1.2.1,u1.1,(i64.wrap (u1.2.1+(1:Int))),()))) (
 .leaf (.inr (x1.1,())))
def Us (a0:(List YI)×Unit):Tree (YBs):=
 .ob (Ay Gt (([]:List YB),a0.1,(a0.1.length:Int),(0:Int),())) fun o4=>
 .leaf o4
def Uz (a0:(List YI)×Unit):Option (YBs):=(Us a0).val
def Aa5 (a0:Kk):Tree (YBs):=
 .ob (Vl a0) fun r1=>
 .br (!r1.1) (
 .leaf (([]:List YB),())) (
 .ob (Ase (a0.2.2.1,())) fun r2=>
 .ob (Fp ([(a0.2.1,()),r2],())) fun r3=>
 .ob (Lw (a0.1,()) r3) fun r4=>
 .ob (Uz r4.1) fun r5=>
 .leaf r5)
def Abg (a0:Kk):Option (YBs):=(Aa5 a0).val
def Ar2 (a0:YBs):Tree (YBs):=
 .br (decide ((a0.1.length:Int)>(1048576:Int))) (
 .leaf (([]:List YB),())) (
 .ob Al4 fun r1=>
 .ob (Abf r1 a0) fun r2=>
 .ob (Abg r2) fun r3=>
 .leaf r3)
def Acq (a0:YBs):Option (YBs):=(Ar2 a0).val
def Fc (x3:YBs):Option (YBs⊕(YBs)):=
 Tree.val (α:=YBs⊕(YBs)) <|
 .br (decide ((x3.1.length:Int)<(64:Int))) (
 .chk (decide (x3.1.length+[((0:Int),())].length≤4294967296)) <|
 .leaf (.inl ((x3.1++[((0:Int),())]),()))) (
 .leaf (.inr x3))
def Wx (a0:YBs):Tree (YBs):=
 .br (decide ((a0.1.length:Int)>(1048576:Int))) (
 .leaf (([]:List YB),())) (
 .ob (Br a0) fun r1=>
 .br (decide ((a0.1.length:Int)>(64:Int))) (
 .ob (Acq a0) fun r2=>
 .ob (Ay Fc r2) fun o4=>
 .leaf o4) (
 .ob (Ay Fc r1) fun o5=>
 .leaf o5))
def Xd (a0:YBs):Option (YBs):=(Wx a0).val
def Ju (x1:Int×(List YB)×(List YB)×Int×Int×Unit):Option ((Int×(List YB)×(List YB)×Int×Int×Unit)⊕(YBs)):=
 letI u1:=x1.2.2;Tree.val (α:=(Int×(List YB)×(List YB)×Int×Int×Unit)⊕(YBs)) <|
 .br (decide (u1.2.2.1<u1.2.1)) (
 .ob (idx u1.1 u1.2.2.1) fun e2=>
 .chk (decide (x1.2.1.length+[((u8.wrap ((BitVec.ofInt (u8.bits) (e2.1) ^^^ BitVec.ofInt (u8.bits) (x1.1)).toNat:Nat)),())].length≤4294967296)) <|
 .leaf (.inl (x1.1,(x1.2.1++[((u8.wrap ((BitVec.ofInt (u8.bits) (e2.1) ^^^ BitVec.ofInt (u8.bits) (x1.1)).toNat:Nat)),())]),u1.1,u1.2.1,(i64.wrap (u1.2.2.1+(1:Int))),()))) (
 .leaf (.inr (x1.2.1,())))
def Aew (a0:YBs) (a1:YB):Tree (YBs):=
 .ob (Ay Ju (a1.1,([]:List YB),a0.1,(a0.1.length:Int),(0:Int),())) fun o3=>
 .leaf o3
def Vm (a0:YBs) (a1:YB):Option (YBs):=(Aew a0 a1).val
def Am9 (a0:YBs) (a1:YBs):Tree (YBs):=
 .br (decide ((a0.1.length:Int)>(1048576:Int))) (
 .leaf (([]:List YB),())) (
 .br (decide ((a1.1.length:Int)>(1048512:Int))) (
 .leaf (([]:List YB),())) (
 .ob (Xd a0) fun r1=>
 .ob (Vm r1 ((92:Int),())) fun r2=>
 .ob (Vm r1 ((54:Int),())) fun r3=>
 .ob (Fp ([r3,a1],())) fun r4=>
 .ob (Acq r4) fun r5=>
 .ob (Fp ([r2,r5],())) fun r6=>
 .ob (Acq r6) fun r7=>
 .leaf r7))
def Si (a0:YBs) (a1:YBs):Option (YBs):=(Am9 a0 a1).val
def Ar4 (a0:YBs) (a1:YBs):Tree (YBs):=
 .ob (Si a0 a1) fun r1=>
 .br ((r1.1.length:Int)==(0:Int)) (
 .leaf (([]:List YB),())) (
 .chk (decide ((16:Int)≤(r1.1.length:Int))) <|
 .ob (Br (((r1.1.take ((16:Int)).toNat).drop ((0:Int)).toNat),())) fun r2=>
 .leaf r2)
def Acr (a0:YBs) (a1:YBs):Option (YBs):=(Ar4 a0 a1).val
def Aa6 (a0:YBs) (a1:YBs):Tree ((Bool×Unit)):=
 .br ((a0.1.length:Int)==(16:Int)) (
 .ob (O6 a0 a1) fun r1=>
 .leaf ((r1.1==(0:Int)),())) (
 .leaf (false,()))
def Abh (a0:YBs) (a1:YBs):Option ((Bool×Unit)):=(Aa6 a0 a1).val
def Aa7 (a0:YBs) (a1:YBs) (a2:YI):Tree (YBs):=
 .ob (Be a2 ((0:Int),()) ((6:Int),())) fun r1=>
 .br (!r1.1) (
 .leaf (([]:List YB),())) (
 .br (decide ((a1.1.length:Int)>(100:Int))) (
 .leaf (([]:List YB),())) (
 .ob (Fp ([([((115:Int),())],()),a1],())) fun r2=>
 .ob (H2 r2 a2 ((4:Int),())) fun r3=>
 .ob (Si a0 r3) fun r4=>
 .leaf r4))
def Abi (a0:YBs) (a1:YBs) (a2:YI):Option (YBs):=(Aa7 a0 a1 a2).val
def Jv (x2:(List YB)×(List YB)×Int×(List YB)×Int×Unit):Option (((List YB)×(List YB)×Int×(List YB)×Int×Unit)⊕((Int×(List YB)×Unit))):=
 letI u1:=x2.2.2;Tree.val (α:=((List YB)×(List YB)×Int×(List YB)×Int×Unit)⊕((Int×(List YB)×Unit))) <|
 .br (decide ((x2.2.2.2.1.length:Int)<u1.1)) (
 .ob (Abi (x2.1,()) (x2.2.1,()) (u1.2.2.1,())) fun r3=>
 .chk (decide (x2.2.2.2.1.length+r3.1.length≤4294967296)) <|
 .leaf (.inl (x2.1,x2.2.1,u1.1,(u1.2.1++r3.1),(i64.wrap (u1.2.2.1+(1:Int))),()))) (
 .leaf (.inr (u1.1,u1.2.1,())))
def Aey (a0:YBs) (a1:YBs) (a2:YI):Tree (YBs):=
 .ob (Be a2 ((0:Int),()) ((200:Int),())) fun r1=>
 .br (!r1.1) (
 .leaf (([]:List YB),())) (
 .br (decide ((a1.1.length:Int)>(100:Int))) (
 .leaf (([]:List YB),())) (
 .br (decide ((a0.1.length:Int)>(1048576:Int))) (
 .leaf (([]:List YB),())) (
 .ob (Ay Jv (a0.1,a1.1,a2.1,([]:List YB),(0:Int),())) fun o4=>
 .chk (decide ((0:Int)≤o4.1)) <|
 .chk (decide (o4.1≤(o4.2.1.length:Int))) <|
 .ob (Br (((o4.2.1.take (o4.1).toNat).drop ((0:Int)).toNat),())) fun r5=>
 .leaf r5)))
def Afj (a0:YBs) (a1:YBs) (a2:YI):Option (YBs):=(Aey a0 a1 a2).val
def Pk (x2:(List YB)×(List YB)×(List YB)×Int×Int×Unit):Option (((List YB)×(List YB)×(List YB)×Int×Int×Unit)⊕(YBs)):=
 letI u1:=x2.2.2.2;Tree.val (α:=((List YB)×(List YB)×(List YB)×Int×Int×Unit)⊕(YBs)) <|
 .br (decide (u1.2.1<u1.1)) (
 .ob (idx x2.2.2.1 u1.2.1) fun e3=>
 .ob (idx x2.1 u1.2.1) fun e4=>
 .chk (decide (x2.2.1.length+[((u8.wrap ((BitVec.ofInt (u8.bits) (e3.1) ^^^ BitVec.ofInt (u8.bits) (e4.1)).toNat:Nat)),())].length≤4294967296)) <|
 .leaf (.inl (x2.1,(x2.2.1++[((u8.wrap ((BitVec.ofInt (u8.bits) (e3.1) ^^^ BitVec.ofInt (u8.bits) (e4.1)).toNat:Nat)),())]),x2.2.2.1,u1.1,(i64.wrap (u1.2.1+(1:Int))),()))) (
 .leaf (.inr (x2.2.1,())))
def Ar6 (a0:YBs) (a1:YBs) (a2:YBs):Tree (YBs):=
 .br (decide ((a2.1.length:Int)>(200:Int))) (
 .leaf (([]:List YB),())) (
 .br (decide ((a1.1.length:Int)>(100:Int))) (
 .leaf (([]:List YB),())) (
 .br (decide ((a0.1.length:Int)>(1048576:Int))) (
 .leaf (([]:List YB),())) (
 .ob (Afj a0 a1 ((a2.1.length:Int),())) fun r1=>
 .ob (Ay Pk (a2.1,([]:List YB),r1.1,(r1.1.length:Int),(0:Int),())) fun o5=>
 .leaf o5)))
def Akm (a0:YBs) (a1:YBs) (a2:YBs):Option (YBs):=(Ar6 a0 a1 a2).val
def Aez (a0:YBs) (a1:YI) (a2:Aq):Tree (YBs×(Bool×Unit)):=
 letI u1:=a2.2.2.2.2.2.2.2;.ob (H3 a1 a2) fun r1=>
 .br ((a0.1.length:Int) != (32:Int)) (
 .leaf ((([]:List YB),()),(false,()))) (
 .br ((r1.1.length:Int)==(0:Int)) (
 .leaf ((([]:List YB),()),(false,()))) (
 .ob (Acr a0 r1) fun r2=>
 .ob (Abh (u1.2.2.2.1,()) r2) fun r3=>
 .br (!r3.1) (
 .leaf ((([]:List YB),()),(false,()))) (
 .ob (Q5 a1 (a2.2.2.2.1,()) (u1.1,()) (u1.2.1,())) fun r4=>
 .ob (Akm a0 r4 (u1.2.2.1,())) fun r5=>
 .leaf (r5,(true,())))))
def Afk (a0:YBs) (a1:YI) (a2:Aq):Option (YBs×(Bool×Unit)):=(Aez a0 a1 a2).val
def Ae0 (a0:YEp) (a1:YI) (a2:Aq):Tree (YEp×YBs×YI):=
 letI u1:=a2.2.2.2.2.2.2.2;.ob (Nc a0) fun r1=>
 .ob (Sf a0) fun r2=>
 .br (!r2.1) (
 .leaf (r1,(([]:List YB),()),((1:Int),()))) (
 .ob (H3 a1 a2) fun r3=>
 .br ((r3.1.length:Int)==(0:Int)) (
 .leaf (r1,(([]:List YB),()),((1:Int),()))) (
 .br (u1.1 != a0.1) (
 .leaf (r1,(([]:List YB),()),((1:Int),()))) (
 .ob (Afi (a0.2.2.2.1,a0.2.2.2.2.1,()) (u1.2.1,())) fun r4=>
 .br (!r4.2.1) (
 .leaf (r1,(([]:List YB),()),((3:Int),()))) (
 .ob (Afk (a0.2.1,()) a1 a2) fun r5=>
 .br (!r5.2.1) (
 .leaf (r1,(([]:List YB),()),((2:Int),()))) (
 .leaf ((r1.1,r1.2.1,r1.2.2.1,r4.1.1,r4.1.2.1,()),r5.1,((0:Int),())))))))
def Gb (a0:YEp) (a1:YI) (a2:Aq):Option (YEp×YBs×YI):=(Ae0 a0 a1 a2).val
def Sj (a0:Aj) (r1:Aj) (r8:YEp×YBs×YI) (a1:YI):Tree (Aj×YBs×YI):=
 letI u1:=r1.2.2.2.2.2.2.2;letI u2:=u1.2.2;letI u3:=u2.2.2;letI u4:=r8.1.2.2;.br (a0.2.2.2.2.2.2.2.2.2.2.2.2.2.1==(-1:Int)) (
 .leaf ((r1.1,r1.2.1,r8.1.1,r8.1.2.1,u4.1,u4.2.1,u4.2.2.1,u1.1,u1.2.1,u2.1,u2.2.1,u3.1,u3.2.1,(i64.wrap (a1.1+(5:Int))),u3.2.2.2.1,()),r8.2.1,((0:Int),()))) (
 .leaf ((r1.1,r1.2.1,r8.1.1,r8.1.2.1,u4.1,u4.2.1,u4.2.2.1,u1.1,u1.2.1,u2.1,u2.2.1,u3.1,u3.2.1,u3.2.2.1,u3.2.2.2.1,()),r8.2.1,((0:Int),())))
def J0 (a0:Aj) (r1:Aj) (r8:YEp×YBs×YI) (a1:YI):Tree (Aj×YBs×YI):=
 letI u1:=r1.2.2.2.2.2.2.2;letI u2:=u1.2.2.2;.br a0.2.2.2.2.2.2.2.2.2.2.2.2.1 (
 Sj a0 r1 r8 a1) (
 .leaf ((r1.1,r1.2.1,r8.1.1,r8.1.2.1,r8.1.2.2.1,r8.1.2.2.2.1,r8.1.2.2.2.2.1,u1.1,u1.2.1,u1.2.2.1,u2.1,u2.2.1,u2.2.2.1,u2.2.2.2.1,u2.2.2.2.2.1,()),r8.2.1,((0:Int),())))
def Sl (a2:Aq) (a0:Aj) (r1:Aj) (r8:YEp×YBs×YI) (a1:YI):Tree (Aj×YBs×YI):=
 letI u1:=r1.2.2;letI u2:=u1.2.2;letI u3:=u2.2.2.2.2.2.2.2.2;letI u4:=r8.1.2.2;.br (a2.2.2.2.2.2.2.2.1==a0.2.2.2.2.2.2.2.1) (
 .leaf ((r1.1,r1.2.1,u1.1,u1.2.1,u2.1,u2.2.1,u2.2.2.1,r8.1.1,r8.1.2.1,u4.1,u4.2.1,u4.2.2.1,u3.1,u3.2.1,u3.2.2.1,()),r8.2.1,((0:Int),()))) (
 .leaf ((r1.1,r1.2.1,r8.1.1,r8.1.2.1,u4.1,u4.2.1,u4.2.2.1,u1.1,u1.2.1,u2.1,u2.2.1,u2.2.2.1,true,(i64.wrap (a1.1+(5:Int))),([]:List YB),()),r8.2.1,((0:Int),())))
def Hx (a2:Aq) (a0:Aj) (r1:Aj) (r8:YEp×YBs×YI) (a1:YI):Tree (Aj×YBs×YI):=
 .br (a2.2.2.2.2.2.2.2.1==a0.2.2.1) (
 J0 a0 r1 r8 a1) (
 Sl a2 a0 r1 r8 a1)
def Nf (r8:YEp×YBs×YI) (r1:Aj) (a2:Aq) (a0:Aj) (a1:YI):Tree (Aj×YBs×YI):=
 .br (r8.2.2.1 != (0:Int)) (
 .leaf (r1,(([]:List YB),()),r8.2.2)) (
 Hx a2 a0 r1 r8 a1)
def Acs (r7:YEp) (a0:Aj) (a2:Aq) (r1:Aj) (a1:YI):Tree (Aj×YBs×YI):=
 .ob (Gb r7 ((i64.wrap ((1:Int)-a0.1)),()) a2) fun r8=>
 Nf r8 r1 a2 a0 a1
def Sm (a0:Aj) (a2:Aq) (r1:Aj) (a1:YI):Tree (Aj×YBs×YI):=
 .ob (Ka ((i64.wrap (a0.2.2.1+(1:Int))),()) (a0.2.2.2.2.2.2.2.2.2.2.2.2.2.2.1,())) fun r7=>
 Acs r7 a0 a2 r1 a1
def Ng (a0:Aj) (a2:Aq) (r1:Aj) (a1:YI):Tree (Aj×YBs×YI):=
 letI u1:=a0.2.2.2.2.2.2.2;.ob (Gb (u1.1,u1.2.1,u1.2.2.1,u1.2.2.2.1,u1.2.2.2.2.1,()) ((i64.wrap ((1:Int)-a0.1)),()) a2) fun r9=>
 Nf r9 r1 a2 a0 a1
def Acu (a2:Aq) (a0:Aj) (r1:Aj) (a1:YI):Tree (Aj×YBs×YI):=
 .br (a2.2.2.2.2.2.2.2.1==(i64.wrap (a0.2.2.1+(1:Int)))) (
 Sm a0 a2 r1 a1) (
 Ng a0 a2 r1 a1)
def Lx (a0:Aj) (a2:Aq) (r1:Aj) (a1:YI):Tree (Aj×YBs×YI):=
 letI u1:=a0.2.2.2;.ob (Gb (a0.2.2.1,u1.1,u1.2.1,u1.2.2.1,u1.2.2.2.1,()) ((i64.wrap ((1:Int)-a0.1)),()) a2) fun r12=>
 Nf r12 r1 a2 a0 a1
def Q6 (a2:Aq) (a0:Aj) (r1:Aj) (a1:YI):Tree (Aj×YBs×YI):=
 .br (a2.2.2.2.2.2.2.2.1==(i64.wrap (a0.2.2.1+(1:Int)))) (
 Sm a0 a2 r1 a1) (
 Lx a0 a2 r1 a1)
def Gv (a2:Aq) (a0:Aj) (r1:Aj) (a1:YI):Tree (Aj×YBs×YI):=
 .br (a2.2.2.2.2.2.2.2.1==a0.2.2.2.2.2.2.2.1) (
 Acu a2 a0 r1 a1) (
 Q6 a2 a0 r1 a1)
def Zs (a1:YI) (a0:Aj) (r1:Aj) (a2:Aq):Tree (Aj×YBs×YI):=
 .br (decide (a1.1>a0.2.2.2.2.2.2.2.2.2.2.2.2.2.1)) (
 .leaf (r1,(([]:List YB),()),((9:Int),()))) (
 Gv a2 a0 r1 a1)
def Zt (a0:Aj) (a1:YI) (r1:Aj) (a2:Aq):Tree (Aj×YBs×YI):=
 .br (a0.2.2.2.2.2.2.2.2.2.2.2.2.2.1 != (-1:Int)) (
 Zs a1 a0 r1 a2) (
 Gv a2 a0 r1 a1)
def Gw (a2:Aq) (a0:Aj) (a1:YI) (r1:Aj):Tree (Aj×YBs×YI):=
 .br (a2.2.2.2.2.2.2.2.1==a0.2.2.2.2.2.2.2.1) (
 Zt a0 a1 r1 a2) (
 Gv a2 a0 r1 a1)
def Iy (a2:Aq) (a0:Aj) (r1:Aj) (a1:YI):Tree (Aj×YBs×YI):=
 .br (a2.2.2.2.2.2.2.2.1==a0.2.2.2.2.2.2.2.1) (
 Ng a0 a2 r1 a1) (
 Lx a0 a2 r1 a1)
def Zu (a1:YI) (a0:Aj) (r1:Aj) (a2:Aq):Tree (Aj×YBs×YI):=
 .br (decide (a1.1>a0.2.2.2.2.2.2.2.2.2.2.2.2.2.1)) (
 .leaf (r1,(([]:List YB),()),((9:Int),()))) (
 Iy a2 a0 r1 a1)
def Zv (a0:Aj) (a1:YI) (r1:Aj) (a2:Aq):Tree (Aj×YBs×YI):=
 .br (a0.2.2.2.2.2.2.2.2.2.2.2.2.2.1 != (-1:Int)) (
 Zu a1 a0 r1 a2) (
 Iy a2 a0 r1 a1)
def Ly (a2:Aq) (a0:Aj) (a1:YI) (r1:Aj):Tree (Aj×YBs×YI):=
 .br (a2.2.2.2.2.2.2.2.1==a0.2.2.2.2.2.2.2.1) (
 Zv a0 a1 r1 a2) (
 Iy a2 a0 r1 a1)
def Lz (a2:Aq) (a0:Aj) (r1:Aj) (r76:YEp×YBs×YI) (a1:YI):Tree (Aj×YBs×YI):=
 letI u1:=r1.2.2.2;.br (a2.2.2.2.2.2.2.2.1==a0.2.2.1) (
 J0 a0 r1 r76 a1) (
 .leaf ((r1.1,r1.2.1,r76.1.1,r76.1.2.1,r76.1.2.2.1,r76.1.2.2.2.1,r76.1.2.2.2.2.1,r1.2.2.1,u1.1,u1.2.1,u1.2.2.1,u1.2.2.2.1,true,(i64.wrap (a1.1+(5:Int))),([]:List YB),()),r76.2.1,((0:Int),())))
def Q7 (r76:YEp×YBs×YI) (r1:Aj) (a2:Aq) (a0:Aj) (a1:YI):Tree (Aj×YBs×YI):=
 .br (r76.2.2.1 != (0:Int)) (
 .leaf (r1,(([]:List YB),()),r76.2.2)) (
 Lz a2 a0 r1 r76 a1)
def Zw (r75:YEp) (a0:Aj) (a2:Aq) (r1:Aj) (a1:YI):Tree (Aj×YBs×YI):=
 .ob (Gb r75 ((i64.wrap ((1:Int)-a0.1)),()) a2) fun r76=>
 Q7 r76 r1 a2 a0 a1
def Zx (a0:Aj) (a2:Aq) (r1:Aj) (a1:YI):Tree (Aj×YBs×YI):=
 .ob (Ka ((i64.wrap (a0.2.2.1+(1:Int))),()) (a0.2.2.2.2.2.2.2.2.2.2.2.2.2.2.1,())) fun r75=>
 Zw r75 a0 a2 r1 a1
def L0 (a0:Aj) (a2:Aq) (r1:Aj) (a1:YI):Tree (Aj×YBs×YI):=
 letI u1:=a0.2.2.2;.ob (Gb (a0.2.2.1,u1.1,u1.2.1,u1.2.2.1,u1.2.2.2.1,()) ((i64.wrap ((1:Int)-a0.1)),()) a2) fun r77=>
 Q7 r77 r1 a2 a0 a1
def L3 (a2:Aq) (a0:Aj) (r1:Aj) (a1:YI):Tree (Aj×YBs×YI):=
 .br (a2.2.2.2.2.2.2.2.1==(i64.wrap (a0.2.2.1+(1:Int)))) (
 Zx a0 a2 r1 a1) (
 L0 a0 a2 r1 a1)
def Wy (a0:Aj) (a1:YI) (a2:Aq):Tree (Aj×YBs×YI):=
 letI u1:=a0.2.2;letI u2:=u1.2.2.2.2.2;letI u3:=a2.2.2.2;letI u4:=u3.2.2.2.2;.ob (Fo a0) fun r1=>
 .ob (Hh a0) fun r2=>
 .br (!r2.1) (
 .leaf (r1,(([]:List YB),()),((1:Int),()))) (
 .ob (Be a1 ((0:Int),()) ((1000000:Int),())) fun r3=>
 .br (!r3.1) (
 .leaf (r1,(([]:List YB),()),((1:Int),()))) (
 .ob (Nd (a2.1,())) fun r4=>
 .br (!r4.1) (
 .leaf (r1,(([]:List YB),()),((1:Int),()))) (
 .ob (Jf a2) fun r5=>
 .br (!r5.1) (
 .leaf (r1,(([]:List YB),()),((1:Int),()))) (
 .br u2.2.2.2.2.2.1 (
 .br (decide ((a0.2.2.2.2.2.2.2.2.2.2.2.2.2.2.1.length:Int)>(0:Int))) (
 .ob (O6 (u3.1,()) (a0.2.1,())) fun r6=>
 .br (r6.1 != (0:Int)) (
 .leaf (r1,(([]:List YB),()),((8:Int),()))) (
 .br (!(u4.1==u1.1)) (
 .br (!(u4.1==u2.1)) (
 .br (!(u4.1==(i64.wrap (u1.1+(1:Int))))) (
 .leaf (r1,(([]:List YB),()),((8:Int),()))) (
 Gw a2 a0 a1 r1)) (
 Gw a2 a0 a1 r1)) (
 Gw a2 a0 a1 r1))) (
 .ob (O6 (u3.1,()) (a0.2.1,())) fun r61=>
 .br (r61.1 != (0:Int)) (
 .leaf (r1,(([]:List YB),()),((8:Int),()))) (
 .br (!(u4.1==u1.1)) (
 .br (!(u4.1==u2.1)) (
 .leaf (r1,(([]:List YB),()),((8:Int),()))) (
 Ly a2 a0 a1 r1)) (
 Ly a2 a0 a1 r1)))) (
 .br (decide ((a0.2.2.2.2.2.2.2.2.2.2.2.2.2.2.1.length:Int)>(0:Int))) (
 .ob (O6 (u3.1,()) (a0.2.1,())) fun r74=>
 .br (r74.1 != (0:Int)) (
 .leaf (r1,(([]:List YB),()),((8:Int),()))) (
 .br (!(u4.1==u1.1)) (
 .br (!(u4.1==(i64.wrap (u1.1+(1:Int))))) (
 .leaf (r1,(([]:List YB),()),((8:Int),()))) (
 L3 a2 a0 r1 a1)) (
 L3 a2 a0 r1 a1))) (
 .ob (O6 (u3.1,()) (a0.2.1,())) fun r81=>
 .br (r81.1 != (0:Int)) (
 .leaf (r1,(([]:List YB),()),((8:Int),()))) (
 .br (!(u4.1==u1.1)) (
 .leaf (r1,(([]:List YB),()),((8:Int),()))) (
 L0 a0 a2 r1 a1))))))))
def J1 (a0:Aj) (a1:YI) (a2:Aq):Option (Aj×YBs×YI):=(Wy a0 a1 a2).val
def Ae1 (a0:Aj) (a1:YI):Tree (YBs×(Bool×Unit)):=
 letI u1:=a0.2.2;letI u2:=u1.2.2.2.2.2;letI u3:=u2.2.2.2.2.2;.ob (Hh a0) fun r1=>
 .br (!r1.1) (
 .leaf ((([]:List YB),()),(false,()))) (
 .br u3.1 (
 .br (a1.1==u2.1) (
 .ob (Br (u2.2.1,())) fun r2=>
 .leaf (r2,(true,()))) (
 .br (a1.1==u1.1) (
 .ob (Br (u1.2.1,())) fun r3=>
 .leaf (r3,(true,()))) (
 .br (decide ((a0.2.2.2.2.2.2.2.2.2.2.2.2.2.2.1.length:Int)>(0:Int))) (
 .br (a1.1==(i64.wrap (u1.1+(1:Int)))) (
 .ob (Br (u3.2.2.1,())) fun r4=>
 .leaf (r4,(true,()))) (
 .leaf ((([]:List YB),()),(false,())))) (
 .leaf ((([]:List YB),()),(false,())))))) (
 .br (a1.1==u1.1) (
 .ob (Br (u1.2.1,())) fun r5=>
 .leaf (r5,(true,()))) (
 .br (decide ((a0.2.2.2.2.2.2.2.2.2.2.2.2.2.2.1.length:Int)>(0:Int))) (
 .br (a1.1==(i64.wrap (u1.1+(1:Int)))) (
 .ob (Br (u3.2.2.1,())) fun r6=>
 .leaf (r6,(true,()))) (
 .leaf ((([]:List YB),()),(false,())))) (
 .leaf ((([]:List YB),()),(false,()))))))
def Q8 (a0:Aj) (a1:YI):Option (YBs×(Bool×Unit)):=(Ae1 a0 a1).val
def Ana (a0:YBs) (a1:YBs) (a2:YBs):Tree (A8):=
 .ob (Br a0) fun r1=>
 .ob (Br a1) fun r2=>
 .ob (Br a2) fun r3=>
 .leaf ((16:Int),(0:Int),(0:Int),([]:List YB),r2.1,(0:Int),(0:Int),r3.1,r1.1,(0:Int),(0:Int),(0:Int),())
def Ani (a0:YBs) (a1:YBs) (a2:YBs):Option (A8):=(Ana a0 a1 a2).val
def Mg (x1:(List Al)×Int×Int×Int×Int×Unit):Option (((List Al)×Int×Int×Int×Int×Unit)⊕(YI⊕(Unit))):=
 letI u1:=x1.2.2;Tree.val (α:=((List Al)×Int×Int×Int×Int×Unit)⊕(YI⊕(Unit))) <|
 .br (decide (u1.1<x1.2.1)) (
 .ob (idx x1.1 u1.1) fun e2=>
 .br (and (e2.1==u1.2.1) (and (e2.2.1==u1.2.2.1) true)) (
 .leaf (.inr (.inl (u1.1,())))) (
 .leaf (.inl (x1.1,x1.2.1,(i64.wrap (u1.1+(1:Int))),u1.2.1,u1.2.2.1,())))) (
 .leaf (.inr (.inr ())))
def Ae2 (a0:A9) (a1:Bu):Tree (YI):=
 .ob (Ay Mg (a0.2.2.1,(a0.2.2.1.length:Int),(0:Int),a1.1,a1.2.1,())) fun o3=>
 .sm o3 (fun o4=>
 .leaf o4) (fun o5=>
 .leaf ((-1:Int),()))
def Q9 (a0:A9) (a1:Bu):Option (YI):=(Ae2 a0 a1).val
def Ve (a0:A9) (a1:YI) (a2:Bu) (a3:YBs):Tree (A9×(Bool×Unit)):=
 .ob (Di a0) fun r1=>
 .ob (Q9 a0 a2) fun r2=>
 .ob (Lp a0) fun r3=>
 .br (!r3.1) (
 .leaf (r1,(false,()))) (
 .ob (Be a1 ((0:Int),()) ((1000000:Int),())) fun r4=>
 .br (!r4.1) (
 .leaf (r1,(false,()))) (
 .br (decide (r2.1<(0:Int))) (
 .leaf (r1,(false,()))) (
 .ob (idx a0.2.2.1 r2.1) fun e5=>
 .ob (D7 a3 (e5.2.2.1,())) fun r6=>
 .br (!r6.1) (
 .leaf (r1,(false,()))) (
 .ob (idx a0.2.2.1 r2.1) fun e7=>
 .br (decide (a1.1>e7.2.2.2.1)) (
 .leaf (r1,(false,()))) (
 .chk (decide ((0:Int)≤r2.1)) <|
 .chk (decide (r2.1≤(r1.2.2.1.length:Int))) <|
 .chk (decide ((0:Int)≤(i64.wrap (r2.1+(1:Int))))) <|
 .chk (decide ((i64.wrap (r2.1+(1:Int)))≤(r1.2.2.1.length:Int))) <|
 .chk (decide ((r1.2.2.1.length:Int)≤(r1.2.2.1.length:Int))) <|
 .chk (decide (((r1.2.2.1.take (r2.1).toNat).drop ((0:Int)).toNat).length+((r1.2.2.1.take ((r1.2.2.1.length:Int)).toNat).drop ((i64.wrap (r2.1+(1:Int)))).toNat).length≤4294967296)) <|
 .chk (Nat.ble ((r1.2.2.1.take (r2.1).toNat).drop ((0:Int)).toNat).length (((i64.wrap (r2.1+(1:Int)))).toNat)) <|
 .chk (Nat.blt 0 r1.2.2.1.length) <|
 .leaf ((a2.1,a2.2.1,(((r1.2.2.1.take (r2.1).toNat).drop ((0:Int)).toNat)++((r1.2.2.1.take ((r1.2.2.1.length:Int)).toNat).drop ((i64.wrap (r2.1+(1:Int)))).toNat)),()),(true,())))))))
def Ko (a0:A9) (a1:YI) (a2:Bu) (a3:YBs):Option (A9×(Bool×Unit)):=(Ve a0 a1 a2 a3).val
def Uu (a0:YI):Tree (YBs):=
 .ob (Be a0 ((0:Int),()) ((4294967295:Int),())) fun r1=>
 .br (!r1.1) (
 .leaf (([]:List YB),())) (
 .ob (H2 (([]:List YB),()) a0 ((4:Int),())) fun r2=>
 .leaf r2)
def Oo (a0:YI):Option (YBs):=(Uu a0).val
def Jw (x2:(List YB)×(List YB)×Int×(List YB)×(List YB)×Int×Unit):Option (((List YB)×(List YB)×Int×(List YB)×(List YB)×Int×Unit)⊕((Int×(List YB)×Unit))):=
 letI u1:=x2.2.2;Tree.val (α:=((List YB)×(List YB)×Int×(List YB)×(List YB)×Int×Unit)⊕((Int×(List YB)×Unit))) <|
 .br (decide ((x2.2.2.2.1.length:Int)<u1.1)) (
 .ob (Fp ([(u1.2.2.1,()),(x2.2.1,()),([((u8.wrap (u1.2.2.2.1)),())],())],())) fun r3=>
 .ob (Si (x2.1,()) r3) fun r4=>
 .chk (decide (x2.2.2.2.1.length+r4.1.length≤4294967296)) <|
 .leaf (.inl (x2.1,x2.2.1,u1.1,(u1.2.1++r4.1),r4.1,(i64.wrap (u1.2.2.2.1+(1:Int))),()))) (
 .leaf (.inr (u1.1,u1.2.1,())))
def Ae3 (a0:YBs) (a1:YBs) (a2:YI):Tree (YBs×(Bool×Unit)):=
 .ob (Be a2 ((0:Int),()) ((8160:Int),())) fun r1=>
 .br (!r1.1) (
 .leaf ((([]:List YB),()),(false,()))) (
 .br (decide ((a1.1.length:Int)>(100:Int))) (
 .leaf ((([]:List YB),()),(false,()))) (
 .br (decide ((a0.1.length:Int)>(1048576:Int))) (
 .leaf ((([]:List YB),()),(false,()))) (
 .ob (Ay Jw (a0.1,a1.1,a2.1,([]:List YB),([]:List YB),(1:Int),())) fun o5=>
 .chk (decide ((0:Int)≤o5.1)) <|
 .chk (decide (o5.1≤(o5.2.1.length:Int))) <|
 .ob (Br (((o5.2.1.take (o5.1).toNat).drop ((0:Int)).toNat),())) fun r6=>
 .leaf (r6,(true,())))))
def Afl (a0:YBs) (a1:YBs) (a2:YI):Option (YBs×(Bool×Unit)):=(Ae3 a0 a1 a2).val
def Ae4 (a0:YBs) (a1:ByteArray×Unit):Tree (YBs):=
 .chk (decide (a1.1.size≤4294967296)) <|
 .ob (Afl a0 ((Qy a1.1),()) ((32:Int),())) fun r1=>
 .leaf r1.1
def Ra (a0:YBs) (a1:ByteArray×Unit):Option (YBs):=(Ae4 a0 a1).val
def Anb (a0:Aj):Tree (Aj×(Bool×Unit)):=
 .ob (Fo a0) fun r1=>letI u1:=r1.2.2.2;
 .ob (Hh a0) fun r2=>
 .br (!r2.1) (
 .leaf (r1,(false,()))) (
 .br (a0.1 != (1:Int)) (
 .leaf (r1,(false,()))) (
 .br (a0.2.2.1==(4294967295:Int)) (
 .leaf (r1,(false,()))) (
 .ob (Ra (a0.2.2.2.1,()) ((Cy [114,101,107,101,121]),())) fun r3=>
 .ob (Ka ((i64.wrap (a0.2.2.1+(1:Int))),()) r3) fun r4=>
 .leaf ((r1.1,r1.2.1,r4.1,r4.2.1,r4.2.2.1,r4.2.2.2.1,r4.2.2.2.2.1,r1.2.2.1,u1.1,u1.2.1,u1.2.2.1,u1.2.2.2.1,true,(-1:Int),u1.2.2.2.2.2.2.2.2.2.2.2.1,()),(true,())))))
def Anj (a0:Aj):Option (Aj×(Bool×Unit)):=(Anb a0).val
def Uv (a0:Aj) (a1:YI) (a2:YBs):Tree (Aj×YI):=
 .ob (Fo a0) fun r1=>
 .ob (Hh a0) fun r2=>
 .br (!r2.1) (
 .leaf (r1,((6:Int),()))) (
 .br (a0.1 != (1:Int)) (
 .leaf (r1,((6:Int),()))) (
 .ob (Be a1 ((0:Int),()) ((4294967294:Int),())) fun r3=>
 .br (!r3.1) (
 .leaf (r1,((6:Int),()))) (
 .ob (Oo ((i64.wrap (a1.1+(1:Int))),())) fun r4=>
 .ob (D7 a2 r4) fun r5=>
 .br (!r5.1) (
 .leaf (r1,((6:Int),()))) (
 .br (a1.1==(i64.wrap (a0.2.2.1-(1:Int)))) (
 .leaf (r1,((0:Int),()))) (
 .ob (Anj a0) fun r6=>
 .br (a1.1 != a0.2.2.1) (
 .leaf (r1,((6:Int),()))) (
 .br (!r6.2.1) (
 .leaf (r1,((6:Int),()))) (
 .leaf (r6.1,((0:Int),())))))))))
def Lb (a0:Aj) (a1:YI) (a2:YBs):Option (Aj×YI):=(Uv a0 a1 a2).val
def Anc (a0:YBs) (a1:YI) (a2:YBs) (a3:YI) (a4:YI) (a5:YI) (a6:YBs):Tree (Aq×(Bool×Unit)):=
 .ob (Br a2) fun r1=>
 .ob (Br a6) fun r2=>
 .br ((a0.1.length:Int) != (32:Int)) (
 .leaf (((0:Int),(0:Int),([]:List YB),([]:List YB),(0:Int),([]:List YB),([]:List YB),(0:Int),(0:Int),([]:List YB),([]:List YB),()),(false,()))) (
 .ob (Kn a1) fun r3=>
 .br (!r3.1) (
 .leaf (((0:Int),(0:Int),([]:List YB),([]:List YB),(0:Int),([]:List YB),([]:List YB),(0:Int),(0:Int),([]:List YB),([]:List YB),()),(false,()))) (
 .ob (Nd a5) fun r4=>
 .br (!r4.1) (
 .leaf (((0:Int),(0:Int),([]:List YB),([]:List YB),(0:Int),([]:List YB),([]:List YB),(0:Int),(0:Int),([]:List YB),([]:List YB),()),(false,()))) (
 .ob (Jf (a5.1,(0:Int),([]:List YB),r1.1,(0:Int),([]:List YB),([]:List YB),a3.1,a4.1,r2.1,(List.replicate ((16:Int)).toNat ((0:Int),())),())) fun r5=>
 .br (!r5.1) (
 .leaf (((0:Int),(0:Int),([]:List YB),([]:List YB),(0:Int),([]:List YB),([]:List YB),(0:Int),(0:Int),([]:List YB),([]:List YB),()),(false,()))) (
 .ob (Q5 a1 a2 a3 a4) fun r6=>
 .ob (Akm a0 r6 a6) fun r7=>
 .ob (H3 a1 (a5.1,(0:Int),([]:List YB),r1.1,(0:Int),([]:List YB),([]:List YB),a3.1,a4.1,r7.1,(List.replicate ((16:Int)).toNat ((0:Int),())),())) fun r8=>
 .ob (Acr a0 r8) fun r9=>
 .leaf ((a5.1,(0:Int),([]:List YB),r1.1,(0:Int),([]:List YB),([]:List YB),a3.1,a4.1,r7.1,r9.1,()),(true,()))))))
def Xe (a0:YBs) (a1:YI) (a2:YBs) (a3:YI) (a4:YI) (a5:YI) (a6:YBs):Option (Aq×(Bool×Unit)):=(Anc a0 a1 a2 a3 a4 a5 a6).val
def Vf (a0:YEp) (a1:YI) (a2:YBs) (a3:YI) (a4:YBs):Tree (YEp×Aq×YI):=
 letI u1:=a0.2.2;.ob (Nc a0) fun r1=>letI u2:=r1.2.2;
 .ob (Sf a0) fun r2=>
 .br (!r2.1) (
 .leaf (r1,((0:Int),(0:Int),([]:List YB),([]:List YB),(0:Int),([]:List YB),([]:List YB),(0:Int),(0:Int),([]:List YB),([]:List YB),()),((1:Int),()))) (
 .ob (Xe (a0.2.1,()) a1 a2 (a0.1,()) ((0:Int),()) a3 a4) fun r3=>
 .br (!r3.2.1) (
 .leaf (r1,((0:Int),(0:Int),([]:List YB),([]:List YB),(0:Int),([]:List YB),([]:List YB),(0:Int),(0:Int),([]:List YB),([]:List YB),()),((1:Int),()))) (
 .br (a3.1==(4:Int)) (
 .br (decide (u1.1≥(281474976709656:Int))) (
 .leaf (r1,((0:Int),(0:Int),([]:List YB),([]:List YB),(0:Int),([]:List YB),([]:List YB),(0:Int),(0:Int),([]:List YB),([]:List YB),()),((4:Int),()))) (
 .br (u1.1==(281474976710656:Int)) (
 .leaf (r1,((0:Int),(0:Int),([]:List YB),([]:List YB),(0:Int),([]:List YB),([]:List YB),(0:Int),(0:Int),([]:List YB),([]:List YB),()),((5:Int),()))) (
 .ob (Xe (a0.2.1,()) a1 a2 (a0.1,()) (u1.1,()) a3 a4) fun r4=>
 .leaf ((r1.1,r1.2.1,(i64.wrap (u2.1+(1:Int))),u2.2.1,u2.2.2.1,()),r4.1,((0:Int),()))))) (
 .br (u1.1==(281474976710656:Int)) (
 .leaf (r1,((0:Int),(0:Int),([]:List YB),([]:List YB),(0:Int),([]:List YB),([]:List YB),(0:Int),(0:Int),([]:List YB),([]:List YB),()),((5:Int),()))) (
 .ob (Xe (a0.2.1,()) a1 a2 (a0.1,()) (u1.1,()) a3 a4) fun r5=>
 .leaf ((r1.1,r1.2.1,(i64.wrap (u2.1+(1:Int))),u2.2.1,u2.2.2.1,()),r5.1,((0:Int),()))))))
def Vn (a0:YEp) (a1:YI) (a2:YBs) (a3:YI) (a4:YBs):Option (YEp×Aq×YI):=(Vf a0 a1 a2 a3 a4).val
def Qs (a0:Aj) (a1:YI) (a2:YBs):Tree (Aj×Aq×YI):=
 letI u1:=a0.2.2.2;.ob (Fo a0) fun r1=>letI u2:=r1.2.2.2.2.2.2.2;letI u3:=u2.2.2.2;
 .ob (Hh a0) fun r2=>
 .br (!r2.1) (
 .leaf (r1,((0:Int),(0:Int),([]:List YB),([]:List YB),(0:Int),([]:List YB),([]:List YB),(0:Int),(0:Int),([]:List YB),([]:List YB),()),((1:Int),()))) (
 .ob (Vn (a0.2.2.1,u1.1,u1.2.1,u1.2.2.1,u1.2.2.2.1,()) (a0.1,()) (a0.2.1,()) a1 a2) fun r3=>
 .leaf ((r1.1,r1.2.1,r3.1.1,r3.1.2.1,r3.1.2.2.1,r3.1.2.2.2.1,r3.1.2.2.2.2.1,u2.1,u2.2.1,u2.2.2.1,u3.1,u3.2.1,u3.2.2.1,u3.2.2.2.1,u3.2.2.2.2.1,()),r3.2.1,r3.2.2))
def Bq (a0:Aj) (a1:YI) (a2:YBs):Option (Aj×Aq×YI):=(Qs a0 a1 a2).val
def Ar8 (a0:Aj):Tree (Aj×Aq×YI):=
 .ob (Hh a0) fun r1=>
 .br (!r1.1) (
 .ob (Fo a0) fun r2=>
 .leaf (r2,((0:Int),(0:Int),([]:List YB),([]:List YB),(0:Int),([]:List YB),([]:List YB),(0:Int),(0:Int),([]:List YB),([]:List YB),()),((6:Int),()))) (
 .br (a0.1 != (1:Int)) (
 .ob (Fo a0) fun r3=>
 .leaf (r3,((0:Int),(0:Int),([]:List YB),([]:List YB),(0:Int),([]:List YB),([]:List YB),(0:Int),(0:Int),([]:List YB),([]:List YB),()),((6:Int),()))) (
 .ob (Oo (a0.2.2.1,())) fun r4=>
 .ob (Bq a0 ((8:Int),()) r4) fun r5=>
 .leaf (r5.1,r5.2.1,r5.2.2)))
def Akn (a0:Aj):Option (Aj×Aq×YI):=(Ar8 a0).val
def Ane (a0:YBs) (a1:YBs):Tree (A8):=
 .ob (Br a0) fun r1=>
 .ob (Br a1) fun r2=>
 .leaf ((15:Int),(0:Int),(0:Int),([]:List YB),([]:List YB),(0:Int),(0:Int),r2.1,r1.1,(0:Int),(0:Int),(0:Int),())
def Ank (a0:YBs) (a1:YBs):Option (A8):=(Ane a0 a1).val
def Ae6 (a0:Aj) (a1:Aq):Tree (A8):=
 .ob (H3 (a0.1,()) a1) fun r1=>
 .ob (Ank (a0.2.2.2.1,()) r1) fun r2=>
 .leaf r2
def Gc (a0:Aj) (a1:Aq):Option (A8):=(Ae6 a0 a1).val
def On (a0:Bd) (a1:YI) (a2:YBs):Tree (Bd×((List Bl)×Unit)×((List A8)×Unit)):=
 letI u1:=a0.2.2;letI u2:=u1.2.2.2;letI u3:=u2.2.2.2;letI u4:=u3.2.2.2;letI u5:=u4.2.2.2;letI u6:=u5.2.2.2.2;letI u7:=u6.2.2;letI u8:=u7.2.2;.ob (Lb (u1.2.1,u1.2.2.1,u2.1,u2.2.1,u2.2.2.1,u3.1,u3.2.1,u3.2.2.1,u4.1,u4.2.1,u4.2.2.1,u5.1,u5.2.1,u5.2.2.1,u5.2.2.2.1,()) a1 a2) fun r1=>letI u9:=r1.1.2.2;letI u10:=u9.2.2;letI u11:=u10.2.2;letI u12:=u11.2.2;letI u13:=u12.2.2;letI u14:=u13.2.2;
 .br (r1.2.1 != (0:Int)) (
 .leaf (a0,(([]:List Bl),()),(([]:List A8),()))) (
 .br (u9.1 != u2.1) (
 .ob (Br (u1.1,())) fun r2=>
 .ob (Br (u9.2.1,())) fun r3=>
 .chk (decide (([]:List A8).length+[((10:Int),(0:Int),(1:Int),([]:List YB),r2.1,u9.1,(0:Int),([]:List YB),r3.1,(0:Int),(0:Int),(0:Int),())].length≤4294967296)) <|
 .ob (Akn r1.1) fun r4=>letI u15:=r4.1.2.2.2;letI u16:=u15.2.2.2;letI u17:=u16.2.2.2.2;
 .br (r4.2.2.1 != (0:Int)) (
 .leaf ((a0.1,a0.2.1,u1.1,r1.1.1,r1.1.2.1,u9.1,u9.2.1,u10.1,u10.2.1,u11.1,u11.2.1,u12.1,u12.2.1,u13.1,u13.2.1,u14.1,u14.2.1,u14.2.2.1,u6.1,u6.2.1,u7.1,u7.2.1,u8.1,u8.2.1,()),(([]:List Bl),()),((([]:List A8)++[((10:Int),(0:Int),(1:Int),([]:List YB),r2.1,u9.1,(0:Int),([]:List YB),r3.1,(0:Int),(0:Int),(0:Int),())]),()))) (
 .ob (Gc r4.1 r4.2.1) fun r5=>
 .chk (decide ((([]:List A8)++[((10:Int),(0:Int),(1:Int),([]:List YB),r2.1,u9.1,(0:Int),([]:List YB),r3.1,(0:Int),(0:Int),(0:Int),())]).length+[r5].length≤4294967296)) <|
 .leaf ((a0.1,a0.2.1,u1.1,r4.1.1,r4.1.2.1,r4.1.2.2.1,u15.1,u15.2.1,u15.2.2.1,u16.1,u16.2.1,u16.2.2.1,u16.2.2.2.1,u17.1,u17.2.1,u17.2.2.1,u17.2.2.2.1,u17.2.2.2.2.1,u6.1,u6.2.1,u7.1,u7.2.1,u8.1,u8.2.1,()),([(u6.1,u6.2.1,r4.2.1.1,r4.2.1.2.1,r4.2.1.2.2.1,r4.2.1.2.2.2.1,r4.2.1.2.2.2.2.1,r4.2.1.2.2.2.2.2.1,r4.2.1.2.2.2.2.2.2.1,r4.2.1.2.2.2.2.2.2.2.1,r4.2.1.2.2.2.2.2.2.2.2.1,r4.2.1.2.2.2.2.2.2.2.2.2.1,r4.2.1.2.2.2.2.2.2.2.2.2.2.1,())],()),(((([]:List A8)++[((10:Int),(0:Int),(1:Int),([]:List YB),r2.1,u9.1,(0:Int),([]:List YB),r3.1,(0:Int),(0:Int),(0:Int),())])++[r5]),())))) (
 .ob (Akn r1.1) fun r6=>letI u18:=r6.1.2.2.2;letI u19:=u18.2.2.2;letI u20:=u19.2.2.2.2;
 .br (r6.2.2.1 != (0:Int)) (
 .leaf ((a0.1,a0.2.1,u1.1,r1.1.1,r1.1.2.1,u9.1,u9.2.1,u10.1,u10.2.1,u11.1,u11.2.1,u12.1,u12.2.1,u13.1,u13.2.1,u14.1,u14.2.1,u14.2.2.1,u6.1,u6.2.1,u7.1,u7.2.1,u8.1,u8.2.1,()),(([]:List Bl),()),(([]:List A8),()))) (
 .ob (Gc r6.1 r6.2.1) fun r7=>
 .chk (decide (([]:List A8).length+[r7].length≤4294967296)) <|
 .leaf ((a0.1,a0.2.1,u1.1,r6.1.1,r6.1.2.1,r6.1.2.2.1,u18.1,u18.2.1,u18.2.2.1,u19.1,u19.2.1,u19.2.2.1,u19.2.2.2.1,u20.1,u20.2.1,u20.2.2.1,u20.2.2.2.1,u20.2.2.2.2.1,u6.1,u6.2.1,u7.1,u7.2.1,u8.1,u8.2.1,()),([(u6.1,u6.2.1,r6.2.1.1,r6.2.1.2.1,r6.2.1.2.2.1,r6.2.1.2.2.2.1,r6.2.1.2.2.2.2.1,r6.2.1.2.2.2.2.2.1,r6.2.1.2.2.2.2.2.2.1,r6.2.1.2.2.2.2.2.2.2.1,r6.2.1.2.2.2.2.2.2.2.2.1,r6.2.1.2.2.2.2.2.2.2.2.2.1,r6.2.1.2.2.2.2.2.2.2.2.2.2.1,())],()),((([]:List A8)++[r7]),())))))
def Oq (a0:Bd) (a1:YI) (a2:YBs):Option (Bd×((List Bl)×Unit)×((List A8)×Unit)):=(On a0 a1 a2).val
def D0 (x2:Int×(List Al)×Int×Int×Int×Int×(List Al)×Int×Int×(List Al)×Unit):Option ((Int×(List Al)×Int×Int×Int×Int×(List Al)×Int×Int×(List Al)×Unit)⊕((Int×Int×(List Al)×Int×Int×(List Al)×Unit))):=
 letI u1:=x2.2.2.2;letI u2:=u1.2.2;letI u3:=u2.2.2;Tree.val (α:=(Int×(List Al)×Int×Int×Int×Int×(List Al)×Int×Int×(List Al)×Unit)⊕((Int×Int×(List Al)×Int×Int×(List Al)×Unit))) <|
 .br (decide (u1.1<x2.2.2.1)) (
 .chk (Nat.beq (Int.toNat u1.1) (Int.toNat u1.1)) <|
 .ob (idx x2.2.1 u1.1) fun e3=>
 .br (decide (e3.2.2.2.1≥x2.1)) (
 .chk (decide (x2.2.2.2.2.2.2.2.2.2.1.length+[e3].length≤4294967296)) <|
 .chk (Nat.ble (Int.toNat u1.1+1) (Int.toNat (i64.wrap (u1.1+(1:Int))))) <|
 .leaf (.inl (x2.1,x2.2.1,x2.2.2.1,(i64.wrap (u1.1+(1:Int))),u1.2.1,u2.1,u2.2.1,u3.1,u3.2.1,(u3.2.2.1++[e3]),()))) (
 .chk (Nat.ble (Int.toNat u1.1+1) (Int.toNat (i64.wrap (u1.1+(1:Int))))) <|
 .leaf (.inl (x2.1,x2.2.1,x2.2.2.1,(i64.wrap (u1.1+(1:Int))),u1.2.1,u2.1,u2.2.1,u3.1,u3.2.1,u3.2.2.1,())))) (
 .leaf (.inr (u1.2.1,u2.1,u2.2.1,u3.1,u3.2.1,u3.2.2.1,())))
def Iu (a0:A9) (a1:YI):Tree (A9):=
 .ob (Di a0) fun r1=>
 .ob (Ay D0 (a1.1,r1.2.2.1,(r1.2.2.1.length:Int),(0:Int),(0:Int),(0:Int),([]:List Al),a0.1,a0.2.1,([]:List Al),())) fun o4=>
 .leaf (o4.2.2.2.1,o4.2.2.2.2.1,o4.2.2.2.2.2.1,())
def Ml (a0:A9) (a1:YI):Option (A9):=(Iu a0 a1).val
def T0 (a0:A9) (a1:YI) (a2:Bu) (a3:YBs):Tree (A9×(Bool×Unit)):=
 .ob (Lp a0) fun r1=>
 .br (!r1.1) (
 .ob (Di a0) fun r2=>
 .leaf (r2,(false,()))) (
 .ob (Be a1 ((0:Int),()) ((1000000:Int),())) fun r3=>
 .br (!r3.1) (
 .ob (Di a0) fun r4=>
 .leaf (r4,(false,()))) (
 .ob (Ix a2) fun r5=>
 .br (!r5.1) (
 .ob (Di a0) fun r6=>
 .leaf (r6,(false,()))) (
 .ob (Dh a3) fun r7=>
 .br (!r7.1) (
 .ob (Di a0) fun r8=>
 .leaf (r8,(false,()))) (
 .br (and (a2.1==a0.1) (and (a2.2.1==a0.2.1) true)) (
 .ob (Di a0) fun r9=>
 .leaf (r9,(false,()))) (
 .ob (Ml a0 a1) fun r10=>
 .ob (Q9 r10 a2) fun r11=>
 .br (decide (r11.1≥(0:Int))) (
 .ob (Di a0) fun r12=>
 .leaf (r12,(false,()))) (
 .br ((r10.2.2.1.length:Int)==(3:Int)) (
 .ob (Di a0) fun r13=>
 .leaf (r13,(false,()))) (
 .ob (Br a3) fun r14=>
 .chk (decide (r10.2.2.1.length+[(a2.1,a2.2.1,r14.1,(i64.wrap (a1.1+(6:Int))),())].length≤4294967296)) <|
 .leaf ((r10.1,r10.2.1,(r10.2.2.1++[(a2.1,a2.2.1,r14.1,(i64.wrap (a1.1+(6:Int))),())]),()),(true,())))))))))
def Cd (a0:A9) (a1:YI) (a2:Bu) (a3:YBs):Option (A9×(Bool×Unit)):=(T0 a0 a1 a2 a3).val
def Qv (a0:Bd) (a1:YI) (a2:Bu) (a3:Aq) (a4:YBs):Tree (Bd×((List Bl)×Unit)×((List A8)×Unit)×(Bool×Unit)):=
 letI u1:=a0.2.2;letI u2:=u1.2.2;letI u3:=u2.2.2;letI u4:=u3.2.2;letI u5:=u4.2.2;letI u6:=u5.2.2;letI u7:=u6.2.2;letI u8:=u7.2.2.2;letI u9:=a3.2.2.2.2.2.2.2;.ob (Xa a0) fun r1=>letI u10:=r1.2.2;letI u11:=u10.2.2.2.2.2.2.2.2.2.2.2.2.2.2.2.2;letI u12:=u11.2.2;letI u13:=u12.2.2.2;
 .ob (Q4 a0) fun r2=>
 .br (!r2.1) (
 .leaf (r1,(([]:List Bl),()),(([]:List A8),()),(false,()))) (
 .br u8.2.2.2.2.2.2.1 (
 .leaf (r1,(([]:List Bl),()),(([]:List A8),()),(false,()))) (
 .ob (Ix a2) fun r3=>
 .br (!r3.1) (
 .leaf (r1,(([]:List Bl),()),(([]:List A8),()),(false,()))) (
 .ob (J1 (u1.2.1,u2.1,u2.2.1,u3.1,u3.2.1,u4.1,u4.2.1,u5.1,u5.2.1,u6.1,u6.2.1,u7.1,u7.2.1,u7.2.2.1,u8.1,()) a1 a3) fun r4=>letI u14:=r4.1.2.2;letI u15:=u14.2.2;letI u16:=u15.2.2;letI u17:=u16.2.2;letI u18:=u17.2.2;letI u19:=u18.2.2;letI u20:=u19.2.2;
 .br (r4.2.2.1 != (0:Int)) (
 .leaf (r1,(([]:List Bl),()),(([]:List A8),()),(false,()))) (
 .ob (Q8 (u1.2.1,u2.1,u2.2.1,u3.1,u3.2.1,u4.1,u4.2.1,u5.1,u5.2.1,u6.1,u6.2.1,u7.1,u7.2.1,u7.2.2.1,u8.1,()) (u9.1,())) fun r5=>
 .ob (H3 ((0:Int),()) a3) fun r6=>
 .ob (Ani r5.1 (u1.1,()) r6) fun r7=>
 .br (a3.1==(4:Int)) (
 .ob (Br (u1.1,())) fun r8=>
 .chk (decide ([r7].length+[((6:Int),(0:Int),(0:Int),([]:List YB),r8.1,u9.1,u9.2.1,r4.2.1.1,([]:List YB),(0:Int),(0:Int),a1.1,())].length≤4294967296)) <|
 .ob (Cd (u11.1,u11.2.1,u12.1,()) a1 a2 a4) fun r9=>
 .ob (Bq r4.1 ((5:Int),()) a4) fun r10=>letI u21:=r10.1.2.2.2;letI u22:=u21.2.2.2;letI u23:=u22.2.2.2.2;
 .br (!r9.2.1) (
 .leaf ((r1.1,r1.2.1,u10.1,r4.1.1,r4.1.2.1,u14.1,u14.2.1,u15.1,u15.2.1,u16.1,u16.2.1,u17.1,u17.2.1,u18.1,u18.2.1,u19.1,u19.2.1,u20.1,u11.1,u11.2.1,u12.1,u12.2.1,a1.1,u13.1,()),(([]:List Bl),()),(([r7]++[((6:Int),(0:Int),(0:Int),([]:List YB),r8.1,u9.1,u9.2.1,r4.2.1.1,([]:List YB),(0:Int),(0:Int),a1.1,())]),()),(false,()))) (
 .br (r10.2.2.1 != (0:Int)) (
 .leaf ((r1.1,r1.2.1,u10.1,r4.1.1,r4.1.2.1,u14.1,u14.2.1,u15.1,u15.2.1,u16.1,u16.2.1,u17.1,u17.2.1,u18.1,u18.2.1,u19.1,u19.2.1,u20.1,u11.1,u11.2.1,u12.1,u12.2.1,a1.1,u13.1,()),(([]:List Bl),()),(([r7]++[((6:Int),(0:Int),(0:Int),([]:List YB),r8.1,u9.1,u9.2.1,r4.2.1.1,([]:List YB),(0:Int),(0:Int),a1.1,())]),()),(false,()))) (
 .chk (decide (([]:List Bl).length+[(a2.1,a2.2.1,r10.2.1.1,r10.2.1.2.1,r10.2.1.2.2.1,r10.2.1.2.2.2.1,r10.2.1.2.2.2.2.1,r10.2.1.2.2.2.2.2.1,r10.2.1.2.2.2.2.2.2.1,r10.2.1.2.2.2.2.2.2.2.1,r10.2.1.2.2.2.2.2.2.2.2.1,r10.2.1.2.2.2.2.2.2.2.2.2.1,r10.2.1.2.2.2.2.2.2.2.2.2.2.1,())].length≤4294967296)) <|
 .ob (Gc r10.1 r10.2.1) fun r11=>
 .chk (decide (([r7]++[((6:Int),(0:Int),(0:Int),([]:List YB),r8.1,u9.1,u9.2.1,r4.2.1.1,([]:List YB),(0:Int),(0:Int),a1.1,())]).length+[r11].length≤4294967296)) <|
 .leaf ((r1.1,r1.2.1,u10.1,r10.1.1,r10.1.2.1,r10.1.2.2.1,u21.1,u21.2.1,u21.2.2.1,u22.1,u22.2.1,u22.2.2.1,u22.2.2.2.1,u23.1,u23.2.1,u23.2.2.1,u23.2.2.2.1,u23.2.2.2.2.1,r9.1.1,r9.1.2.1,r9.1.2.2.1,u12.2.1,a1.1,u13.1,()),((([]:List Bl)++[(a2.1,a2.2.1,r10.2.1.1,r10.2.1.2.1,r10.2.1.2.2.1,r10.2.1.2.2.2.1,r10.2.1.2.2.2.2.1,r10.2.1.2.2.2.2.2.1,r10.2.1.2.2.2.2.2.2.1,r10.2.1.2.2.2.2.2.2.2.1,r10.2.1.2.2.2.2.2.2.2.2.1,r10.2.1.2.2.2.2.2.2.2.2.2.1,r10.2.1.2.2.2.2.2.2.2.2.2.2.1,())]),()),((([r7]++[((6:Int),(0:Int),(0:Int),([]:List YB),r8.1,u9.1,u9.2.1,r4.2.1.1,([]:List YB),(0:Int),(0:Int),a1.1,())])++[r11]),()),(true,()))))) (
 .br (a3.1==(6:Int)) (
 .ob (Ko (u8.2.1,u8.2.2.1,u8.2.2.2.1,()) a1 a2 r4.2.1) fun r12=>
 .br r12.2.1 (
 .ob (Br (u1.1,())) fun r13=>
 .chk (decide ([r7].length+[((9:Int),(0:Int),(0:Int),([]:List YB),r13.1,(0:Int),(0:Int),r4.2.1.1,([]:List YB),a2.1,a2.2.1,a1.1,())].length≤4294967296)) <|
 .ob (Cd r12.1 a1 a2 a4) fun r14=>
 .ob (Bq r4.1 ((5:Int),()) a4) fun r15=>letI u24:=r15.1.2.2.2;letI u25:=u24.2.2.2;letI u26:=u25.2.2.2.2;
 .br (!r14.2.1) (
 .leaf ((r1.1,r1.2.1,u10.1,r4.1.1,r4.1.2.1,u14.1,u14.2.1,u15.1,u15.2.1,u16.1,u16.2.1,u17.1,u17.2.1,u18.1,u18.2.1,u19.1,u19.2.1,u20.1,r12.1.1,r12.1.2.1,r12.1.2.2.1,u12.2.1,a1.1,u13.1,()),(([]:List Bl),()),(([r7]++[((9:Int),(0:Int),(0:Int),([]:List YB),r13.1,(0:Int),(0:Int),r4.2.1.1,([]:List YB),a2.1,a2.2.1,a1.1,())]),()),(false,()))) (
 .br (r15.2.2.1 != (0:Int)) (
 .leaf ((r1.1,r1.2.1,u10.1,r4.1.1,r4.1.2.1,u14.1,u14.2.1,u15.1,u15.2.1,u16.1,u16.2.1,u17.1,u17.2.1,u18.1,u18.2.1,u19.1,u19.2.1,u20.1,r12.1.1,r12.1.2.1,r12.1.2.2.1,u12.2.1,a1.1,u13.1,()),(([]:List Bl),()),(([r7]++[((9:Int),(0:Int),(0:Int),([]:List YB),r13.1,(0:Int),(0:Int),r4.2.1.1,([]:List YB),a2.1,a2.2.1,a1.1,())]),()),(false,()))) (
 .chk (decide (([]:List Bl).length+[(a2.1,a2.2.1,r15.2.1.1,r15.2.1.2.1,r15.2.1.2.2.1,r15.2.1.2.2.2.1,r15.2.1.2.2.2.2.1,r15.2.1.2.2.2.2.2.1,r15.2.1.2.2.2.2.2.2.1,r15.2.1.2.2.2.2.2.2.2.1,r15.2.1.2.2.2.2.2.2.2.2.1,r15.2.1.2.2.2.2.2.2.2.2.2.1,r15.2.1.2.2.2.2.2.2.2.2.2.2.1,())].length≤4294967296)) <|
 .ob (Gc r15.1 r15.2.1) fun r16=>
 .chk (decide (([r7]++[((9:Int),(0:Int),(0:Int),([]:List YB),r13.1,(0:Int),(0:Int),r4.2.1.1,([]:List YB),a2.1,a2.2.1,a1.1,())]).length+[r16].length≤4294967296)) <|
 .leaf ((r1.1,r1.2.1,u10.1,r15.1.1,r15.1.2.1,r15.1.2.2.1,u24.1,u24.2.1,u24.2.2.1,u25.1,u25.2.1,u25.2.2.1,u25.2.2.2.1,u26.1,u26.2.1,u26.2.2.1,u26.2.2.2.1,u26.2.2.2.2.1,r14.1.1,r14.1.2.1,r14.1.2.2.1,u12.2.1,a1.1,u13.1,()),((([]:List Bl)++[(a2.1,a2.2.1,r15.2.1.1,r15.2.1.2.1,r15.2.1.2.2.1,r15.2.1.2.2.2.1,r15.2.1.2.2.2.2.1,r15.2.1.2.2.2.2.2.1,r15.2.1.2.2.2.2.2.2.1,r15.2.1.2.2.2.2.2.2.2.1,r15.2.1.2.2.2.2.2.2.2.2.1,r15.2.1.2.2.2.2.2.2.2.2.2.1,r15.2.1.2.2.2.2.2.2.2.2.2.2.1,())]),()),((([r7]++[((9:Int),(0:Int),(0:Int),([]:List YB),r13.1,(0:Int),(0:Int),r4.2.1.1,([]:List YB),a2.1,a2.2.1,a1.1,())])++[r16]),()),(true,()))))) (
 .ob (Cd (u11.1,u11.2.1,u12.1,()) a1 a2 a4) fun r17=>
 .ob (Bq r4.1 ((5:Int),()) a4) fun r18=>letI u27:=r18.1.2.2.2;letI u28:=u27.2.2.2;letI u29:=u28.2.2.2.2;
 .br (!r17.2.1) (
 .leaf ((r1.1,r1.2.1,u10.1,r4.1.1,r4.1.2.1,u14.1,u14.2.1,u15.1,u15.2.1,u16.1,u16.2.1,u17.1,u17.2.1,u18.1,u18.2.1,u19.1,u19.2.1,u20.1,u11.1,u11.2.1,u12.1,u12.2.1,a1.1,u13.1,()),(([]:List Bl),()),([r7],()),(false,()))) (
 .br (r18.2.2.1 != (0:Int)) (
 .leaf ((r1.1,r1.2.1,u10.1,r4.1.1,r4.1.2.1,u14.1,u14.2.1,u15.1,u15.2.1,u16.1,u16.2.1,u17.1,u17.2.1,u18.1,u18.2.1,u19.1,u19.2.1,u20.1,u11.1,u11.2.1,u12.1,u12.2.1,a1.1,u13.1,()),(([]:List Bl),()),([r7],()),(false,()))) (
 .chk (decide (([]:List Bl).length+[(a2.1,a2.2.1,r18.2.1.1,r18.2.1.2.1,r18.2.1.2.2.1,r18.2.1.2.2.2.1,r18.2.1.2.2.2.2.1,r18.2.1.2.2.2.2.2.1,r18.2.1.2.2.2.2.2.2.1,r18.2.1.2.2.2.2.2.2.2.1,r18.2.1.2.2.2.2.2.2.2.2.1,r18.2.1.2.2.2.2.2.2.2.2.2.1,r18.2.1.2.2.2.2.2.2.2.2.2.2.1,())].length≤4294967296)) <|
 .ob (Gc r18.1 r18.2.1) fun r19=>
 .chk (decide ([r7].length+[r19].length≤4294967296)) <|
 .leaf ((r1.1,r1.2.1,u10.1,r18.1.1,r18.1.2.1,r18.1.2.2.1,u27.1,u27.2.1,u27.2.2.1,u28.1,u28.2.1,u28.2.2.1,u28.2.2.2.1,u29.1,u29.2.1,u29.2.2.1,u29.2.2.2.1,u29.2.2.2.2.1,r17.1.1,r17.1.2.1,r17.1.2.2.1,u12.2.1,a1.1,u13.1,()),((([]:List Bl)++[(a2.1,a2.2.1,r18.2.1.1,r18.2.1.2.1,r18.2.1.2.2.1,r18.2.1.2.2.2.1,r18.2.1.2.2.2.2.1,r18.2.1.2.2.2.2.2.1,r18.2.1.2.2.2.2.2.2.1,r18.2.1.2.2.2.2.2.2.2.1,r18.2.1.2.2.2.2.2.2.2.2.1,r18.2.1.2.2.2.2.2.2.2.2.2.1,r18.2.1.2.2.2.2.2.2.2.2.2.2.1,())]),()),(([r7]++[r19]),()),(true,())))))) (
 .br (a3.1==(7:Int)) (
 .ob (Oq (r1.1,r1.2.1,u10.1,r4.1.1,r4.1.2.1,u14.1,u14.2.1,u15.1,u15.2.1,u16.1,u16.2.1,u17.1,u17.2.1,u18.1,u18.2.1,u19.1,u19.2.1,u20.1,u11.1,u11.2.1,u12.1,u12.2.1,a1.1,u13.1,()) (u9.1,()) r4.2.1) fun r20=>letI u30:=r20.1.2.2.2;letI u31:=u30.2.2.2;letI u32:=u31.2.2.2;letI u33:=u32.2.2.2;letI u34:=u33.2.2.2;letI u35:=u34.2.2.2.2;
 .chk (decide (([]:List Bl).length+r20.2.1.1.length≤4294967296)) <|
 .chk (decide ([r7].length+r20.2.2.1.length≤4294967296)) <|
 .ob (Cd (u34.2.2.2.1,u35.1,u35.2.1,()) a1 a2 a4) fun r21=>
 .ob (Bq (u30.1,u30.2.1,u30.2.2.1,u31.1,u31.2.1,u31.2.2.1,u32.1,u32.2.1,u32.2.2.1,u33.1,u33.2.1,u33.2.2.1,u34.1,u34.2.1,u34.2.2.1,()) ((5:Int),()) a4) fun r22=>letI u36:=r22.1.2.2.2;letI u37:=u36.2.2.2;letI u38:=u37.2.2.2.2;
 .br (!r21.2.1) (
 .leaf (r20.1,((([]:List Bl)++r20.2.1.1),()),(([r7]++r20.2.2.1),()),(false,()))) (
 .br (r22.2.2.1 != (0:Int)) (
 .leaf (r20.1,((([]:List Bl)++r20.2.1.1),()),(([r7]++r20.2.2.1),()),(false,()))) (
 .chk (decide ((([]:List Bl)++r20.2.1.1).length+[(a2.1,a2.2.1,r22.2.1.1,r22.2.1.2.1,r22.2.1.2.2.1,r22.2.1.2.2.2.1,r22.2.1.2.2.2.2.1,r22.2.1.2.2.2.2.2.1,r22.2.1.2.2.2.2.2.2.1,r22.2.1.2.2.2.2.2.2.2.1,r22.2.1.2.2.2.2.2.2.2.2.1,r22.2.1.2.2.2.2.2.2.2.2.2.1,r22.2.1.2.2.2.2.2.2.2.2.2.2.1,())].length≤4294967296)) <|
 .ob (Gc r22.1 r22.2.1) fun r23=>
 .chk (decide (([r7]++r20.2.2.1).length+[r23].length≤4294967296)) <|
 .leaf ((r20.1.1,r20.1.2.1,r20.1.2.2.1,r22.1.1,r22.1.2.1,r22.1.2.2.1,u36.1,u36.2.1,u36.2.2.1,u37.1,u37.2.1,u37.2.2.1,u37.2.2.2.1,u38.1,u38.2.1,u38.2.2.1,u38.2.2.2.1,u38.2.2.2.2.1,r21.1.1,r21.1.2.1,r21.1.2.2.1,u35.2.2.1,u35.2.2.2.1,u35.2.2.2.2.1,()),(((([]:List Bl)++r20.2.1.1)++[(a2.1,a2.2.1,r22.2.1.1,r22.2.1.2.1,r22.2.1.2.2.1,r22.2.1.2.2.2.1,r22.2.1.2.2.2.2.1,r22.2.1.2.2.2.2.2.1,r22.2.1.2.2.2.2.2.2.1,r22.2.1.2.2.2.2.2.2.2.1,r22.2.1.2.2.2.2.2.2.2.2.1,r22.2.1.2.2.2.2.2.2.2.2.2.1,r22.2.1.2.2.2.2.2.2.2.2.2.2.1,())]),()),((([r7]++r20.2.2.1)++[r23]),()),(true,()))))) (
 .ob (Cd (u11.1,u11.2.1,u12.1,()) a1 a2 a4) fun r24=>
 .ob (Bq r4.1 ((5:Int),()) a4) fun r25=>letI u39:=r25.1.2.2.2;letI u40:=u39.2.2.2;letI u41:=u40.2.2.2.2;
 .br (!r24.2.1) (
 .leaf ((r1.1,r1.2.1,u10.1,r4.1.1,r4.1.2.1,u14.1,u14.2.1,u15.1,u15.2.1,u16.1,u16.2.1,u17.1,u17.2.1,u18.1,u18.2.1,u19.1,u19.2.1,u20.1,u11.1,u11.2.1,u12.1,u12.2.1,a1.1,u13.1,()),(([]:List Bl),()),([r7],()),(false,()))) (
 .br (r25.2.2.1 != (0:Int)) (
 .leaf ((r1.1,r1.2.1,u10.1,r4.1.1,r4.1.2.1,u14.1,u14.2.1,u15.1,u15.2.1,u16.1,u16.2.1,u17.1,u17.2.1,u18.1,u18.2.1,u19.1,u19.2.1,u20.1,u11.1,u11.2.1,u12.1,u12.2.1,a1.1,u13.1,()),(([]:List Bl),()),([r7],()),(false,()))) (
 .chk (decide (([]:List Bl).length+[(a2.1,a2.2.1,r25.2.1.1,r25.2.1.2.1,r25.2.1.2.2.1,r25.2.1.2.2.2.1,r25.2.1.2.2.2.2.1,r25.2.1.2.2.2.2.2.1,r25.2.1.2.2.2.2.2.2.1,r25.2.1.2.2.2.2.2.2.2.1,r25.2.1.2.2.2.2.2.2.2.2.1,r25.2.1.2.2.2.2.2.2.2.2.2.1,r25.2.1.2.2.2.2.2.2.2.2.2.2.1,())].length≤4294967296)) <|
 .ob (Gc r25.1 r25.2.1) fun r26=>
 .chk (decide ([r7].length+[r26].length≤4294967296)) <|
 .leaf ((r1.1,r1.2.1,u10.1,r25.1.1,r25.1.2.1,r25.1.2.2.1,u39.1,u39.2.1,u39.2.2.1,u40.1,u40.2.1,u40.2.2.1,u40.2.2.2.1,u41.1,u41.2.1,u41.2.2.1,u41.2.2.2.1,u41.2.2.2.2.1,r24.1.1,r24.1.2.1,r24.1.2.2.1,u12.2.1,a1.1,u13.1,()),((([]:List Bl)++[(a2.1,a2.2.1,r25.2.1.1,r25.2.1.2.1,r25.2.1.2.2.1,r25.2.1.2.2.2.1,r25.2.1.2.2.2.2.1,r25.2.1.2.2.2.2.2.1,r25.2.1.2.2.2.2.2.2.1,r25.2.1.2.2.2.2.2.2.2.1,r25.2.1.2.2.2.2.2.2.2.2.1,r25.2.1.2.2.2.2.2.2.2.2.2.1,r25.2.1.2.2.2.2.2.2.2.2.2.2.1,())]),()),(([r7]++[r26]),()),(true,())))))))))))
def Mm (a0:Bd) (a1:YI) (a2:Bu) (a3:Aq) (a4:YBs):Option (Bd×((List Bl)×Unit)×((List A8)×Unit)×(Bool×Unit)):=(Qv a0 a1 a2 a3 a4).val
def Jx (x1:(List Bl)×Int×Unit):Option (((List Bl)×Int×Unit)⊕((Bool×Unit)⊕(Unit))):=
 Tree.val (α:=((List Bl)×Int×Unit)⊕((Bool×Unit)⊕(Unit))) <|
 .br (decide (x1.2.1<(x1.1.length:Int))) (
 .ob (idx x1.1 x1.2.1) fun e2=>letI u1:=e2.2.2.2;letI u2:=u1.2.2.2;letI u3:=u2.2.2.2;
 .ob (Jf (e2.2.2.1,u1.1,u1.2.1,u1.2.2.1,u2.1,u2.2.1,u2.2.2.1,u3.1,u3.2.1,u3.2.2.1,u3.2.2.2.1,())) fun r3=>
 .br (!r3.1) (
 .leaf (.inr (.inl (false,())))) (
 .ob (idx x1.1 x1.2.1) fun e4=>
 .ob (Ix (e4.1,e4.2.1,())) fun r5=>
 .br (!r5.1) (
 .leaf (.inr (.inl (false,())))) (
 .leaf (.inl (x1.1,(i64.wrap (x1.2.1+(1:Int))),()))))) (
 .leaf (.inr (.inr ())))
def Ae7 (a0:(List Bl)×Unit):Tree ((Bool×Unit)):=
 .ob (Ay Jx (a0.1,(0:Int),())) fun o6=>
 .sm o6 (fun o7=>
 .leaf o7) (fun o8=>
 .leaf (true,()))
def Afm (a0:(List Bl)×Unit):Option ((Bool×Unit)):=(Ae7 a0).val
def Aa9 (a0:YBs) (a1:YI):Tree ((Bool×Unit)):=
 .br ((a0.1.length:Int)==(0:Int)) (
 .leaf (true,())) (
 .leaf (((a0.1.length:Int)==a1.1),()))
def N8 (a0:YBs) (a1:YI):Option ((Bool×Unit)):=(Aa9 a0 a1).val
def Ae8 (a0:A8):Tree ((Bool×Unit)):=
 letI u1:=a0.2.2.2;letI u2:=u1.2.2.2.2.2;.ob (Be (a0.1,()) ((1:Int),()) ((17:Int),())) fun r1=>
 .br r1.1 (
 .ob (Be (a0.2.1,()) ((0:Int),()) ((9:Int),())) fun r2=>
 .br r2.1 (
 .ob (Be (a0.2.2.1,()) ((0:Int),()) ((1:Int),())) fun r3=>
 .br r3.1 (
 .ob (Be (u1.2.2.1,()) ((0:Int),()) ((4294967295:Int),())) fun r4=>
 .br r4.1 (
 .ob (Be (u1.2.2.2.1,()) ((0:Int),()) ((281474976710655:Int),())) fun r5=>
 .br r5.1 (
 .ob (Be (u2.2.2.2.1,()) ((0:Int),()) ((1000000:Int),())) fun r6=>
 .br r6.1 (
 .ob (N8 (u1.1,()) ((12:Int),())) fun r7=>
 .br r7.1 (
 .ob (N8 (u1.2.1,()) ((12:Int),())) fun r8=>
 .br r8.1 (
 .br (decide ((a0.2.2.2.2.2.2.2.1.length:Int)≤(100:Int))) (
 .ob (N8 (u2.1,()) ((32:Int),())) fun r9=>
 .br r9.1 (
 .ob (Ix (u2.2.1,u2.2.2.1,())) fun r10=>
 .leaf r10) (
 .leaf (false,()))) (
 .leaf (false,()))) (
 .leaf (false,()))) (
 .leaf (false,()))) (
 .leaf (false,()))) (
 .leaf (false,()))) (
 .leaf (false,()))) (
 .leaf (false,()))) (
 .leaf (false,()))) (
 .leaf (false,()))
def Afn (a0:A8):Option ((Bool×Unit)):=(Ae8 a0).val
def Im (x1:(List A8)×Int×Unit):Option (((List A8)×Int×Unit)⊕((Bool×Unit)⊕(Unit))):=
 Tree.val (α:=((List A8)×Int×Unit)⊕((Bool×Unit)⊕(Unit))) <|
 .br (decide (x1.2.1<(x1.1.length:Int))) (
 .ob (idx x1.1 x1.2.1) fun e2=>
 .ob (Afn e2) fun r3=>
 .br (!r3.1) (
 .leaf (.inr (.inl (false,())))) (
 .leaf (.inl (x1.1,(i64.wrap (x1.2.1+(1:Int))),())))) (
 .leaf (.inr (.inr ())))
def Aba (a0:(List A8)×Unit):Tree ((Bool×Unit)):=
 .ob (Ay Im (a0.1,(0:Int),())) fun o4=>
 .sm o4 (fun o5=>
 .leaf o5) (fun o6=>
 .leaf (true,()))
def Abj (a0:(List A8)×Unit):Option ((Bool×Unit)):=(Aba a0).val
def Anf (a0:YBs) (a1:YBs):Tree ((Bool×Unit)):=
 .leaf ((decide ((Ls a0.1)=(Ls a1.1))),())
def H4 (a0:YBs) (a1:YBs):Option ((Bool×Unit)):=(Anf a0 a1).val
def Hw (x1:(List YI)×(List YI)×Int×Unit):Option (((List YI)×(List YI)×Int×Unit)⊕((Bool×Unit)⊕(Unit))):=
 Tree.val (α:=((List YI)×(List YI)×Int×Unit)⊕((Bool×Unit)⊕(Unit))) <|
 .br (decide (x1.2.2.1<(x1.1.length:Int))) (
 .ob (idx x1.1 x1.2.2.1) fun e2=>
 .ob (idx x1.2.1 x1.2.2.1) fun e3=>
 .br (e2.1 != e3.1) (
 .leaf (.inr (.inl (false,())))) (
 .leaf (.inl (x1.1,x1.2.1,(i64.wrap (x1.2.2.1+(1:Int))),())))) (
 .leaf (.inr (.inr ())))
def W0 (a0:(List YI)×Unit) (a1:(List YI)×Unit):Tree ((Bool×Unit)):=
 .br ((a0.1.length:Int) != (a1.1.length:Int)) (
 .leaf (false,())) (
 .ob (Ay Hw (a0.1,a1.1,(0:Int),())) fun o4=>
 .sm o4 (fun o5=>
 .leaf o5) (fun o6=>
 .leaf (true,())))
def Xf (a0:(List YI)×Unit) (a1:(List YI)×Unit):Option ((Bool×Unit)):=(W0 a0 a1).val
def Abb (a0:B8) (a1:B8):Tree ((Bool×Unit)):=
 .br (a0.1==a1.1) (
 .ob (Xf (a0.2.1,()) (a1.2.1,())) fun r1=>
 .leaf r1) (
 .leaf (false,()))
def Abk (a0:B8) (a1:B8):Option ((Bool×Unit)):=(Abb a0 a1).val
def Ae9 (a0:YEp) (a1:YEp):Tree ((Bool×Unit)):=
 .br (a0.1==a1.1) (
 .ob (H4 (a0.2.1,()) (a1.2.1,())) fun r1=>
 .br r1.1 (
 .br (a0.2.2.1==a1.2.2.1) (
 .ob (Abk (a0.2.2.2.1,a0.2.2.2.2.1,()) (a1.2.2.2.1,a1.2.2.2.2.1,())) fun r2=>
 .leaf r2) (
 .leaf (false,()))) (
 .leaf (false,()))) (
 .leaf (false,()))
def Vo (a0:YEp) (a1:YEp):Option ((Bool×Unit)):=(Ae9 a0 a1).val
def W1 (a0:Aj) (a1:Aj):Tree ((Bool×Unit)):=
 letI u1:=a0.2.2.2;letI u2:=u1.2.2.2;letI u3:=u2.2.2.2.2;letI u4:=a1.2.2.2;letI u5:=u4.2.2.2;letI u6:=u5.2.2.2.2;.br (a0.1==a1.1) (
 .ob (H4 (a0.2.1,()) (a1.2.1,())) fun r1=>
 .br r1.1 (
 .ob (Vo (a0.2.2.1,u1.1,u1.2.1,u1.2.2.1,u2.1,()) (a1.2.2.1,u4.1,u4.2.1,u4.2.2.1,u5.1,())) fun r2=>
 .br r2.1 (
 .ob (Vo (u2.2.1,u2.2.2.1,u2.2.2.2.1,u3.1,u3.2.1,()) (u5.2.1,u5.2.2.1,u5.2.2.2.1,u6.1,u6.2.1,())) fun r3=>
 .br r3.1 (
 .br (u3.2.2.1==u6.2.2.1) (
 .br (u3.2.2.2.1==u6.2.2.2.1) (
 .ob (H4 (u3.2.2.2.2.1,()) (u6.2.2.2.2.1,())) fun r4=>
 .leaf r4) (
 .leaf (false,()))) (
 .leaf (false,()))) (
 .leaf (false,()))) (
 .leaf (false,()))) (
 .leaf (false,()))) (
 .leaf (false,()))
def Rb (a0:Aj) (a1:Aj):Option ((Bool×Unit)):=(W1 a0 a1).val
def Gu (x1:Int×Int×Int×(List Al)×Int×Int×(List Al)×Unit):Option ((Int×Int×Int×(List Al)×Int×Int×(List Al)×Unit)⊕((Bool×Unit)⊕(Unit))):=
 letI u1:=x1.2.2.2;letI u2:=u1.2.2.2;Tree.val (α:=(Int×Int×Int×(List Al)×Int×Int×(List Al)×Unit)⊕((Bool×Unit)⊕(Unit))) <|
 .br (decide (x1.1<(x1.2.2.2.1.length:Int))) (
 .ob (idx u1.1 x1.1) fun e2=>
 .ob (idx u2.1 x1.1) fun e3=>
 .br (!(and (e2.1==e3.1) (and (e2.2.1==e3.2.1) true))) (
 .leaf (.inr (.inl (false,())))) (
 .ob (idx u1.1 x1.1) fun e4=>
 .ob (idx u2.1 x1.1) fun e5=>
 .ob (H4 (e4.2.2.1,()) (e5.2.2.1,())) fun r6=>
 .br (!r6.1) (
 .leaf (.inr (.inl (false,())))) (
 .ob (idx u1.1 x1.1) fun e7=>
 .ob (idx u2.1 x1.1) fun e8=>
 .br (e7.2.2.2.1 != e8.2.2.2.1) (
 .leaf (.inr (.inl (false,())))) (
 .leaf (.inl ((i64.wrap (x1.1+(1:Int))),x1.2.1,x1.2.2.1,u1.1,u1.2.1,u1.2.2.1,u2.1,())))))) (
 .leaf (.inr (.inr ())))
def Uw (a0:A9) (a1:A9):Tree ((Bool×Unit)):=
 .br (!(and (a0.1==a1.1) (and (a0.2.1==a1.2.1) true))) (
 .leaf (false,())) (
 .br ((a0.2.2.1.length:Int) != (a1.2.2.1.length:Int)) (
 .leaf (false,())) (
 .ob (Ay Gu ((0:Int),a0.1,a0.2.1,a0.2.2.1,a1.1,a1.2.1,a1.2.2.1,())) fun o9=>
 .sm o9 (fun o10=>
 .leaf o10) (fun o11=>
 .leaf (true,()))))
def Ot (a0:A9) (a1:A9):Option ((Bool×Unit)):=(Uw a0 a1).val
def W2 (a0:Bd) (a1:Bd):Tree ((Bool×Unit)):=
 letI u1:=a0.2.2.2;letI u2:=u1.2.2.2;letI u3:=u2.2.2.2;letI u4:=u3.2.2.2;letI u5:=u4.2.2.2;letI u6:=u5.2.2.2.2;letI u7:=a1.2.2.2;letI u8:=u7.2.2.2;letI u9:=u8.2.2.2;letI u10:=u9.2.2.2;letI u11:=u10.2.2.2;letI u12:=u11.2.2.2.2;.br (a0.1==a1.1) (
 .ob (H4 (a0.2.1,()) (a1.2.1,())) fun r1=>
 .br r1.1 (
 .ob (H4 (a0.2.2.1,()) (a1.2.2.1,())) fun r2=>
 .br r2.1 (
 .ob (Rb (u1.1,u1.2.1,u1.2.2.1,u2.1,u2.2.1,u2.2.2.1,u3.1,u3.2.1,u3.2.2.1,u4.1,u4.2.1,u4.2.2.1,u5.1,u5.2.1,u5.2.2.1,()) (u7.1,u7.2.1,u7.2.2.1,u8.1,u8.2.1,u8.2.2.1,u9.1,u9.2.1,u9.2.2.1,u10.1,u10.2.1,u10.2.2.1,u11.1,u11.2.1,u11.2.2.1,())) fun r3=>
 .br r3.1 (
 .ob (Ot (u5.2.2.2.1,u6.1,u6.2.1,()) (u11.2.2.2.1,u12.1,u12.2.1,())) fun r4=>
 .br r4.1 (
 .br (u6.2.2.1==u12.2.2.1) (
 .br (u6.2.2.2.1==u12.2.2.2.1) (
 .leaf ((u6.2.2.2.2.1==u12.2.2.2.2.1),())) (
 .leaf (false,()))) (
 .leaf (false,()))) (
 .leaf (false,()))) (
 .leaf (false,()))) (
 .leaf (false,()))) (
 .leaf (false,()))) (
 .leaf (false,()))
def Xg (a0:Bd) (a1:Bd):Option ((Bool×Unit)):=(W2 a0 a1).val
def Vg (a0:A9) (a1:Bu):Tree (Al×(Bool×Unit)):=
 .ob (Q9 a0 a1) fun r1=>
 .ob (Lp a0) fun r2=>
 .br (!r2.1) (
 .leaf (((0:Int),(0:Int),([]:List YB),(0:Int),()),(false,()))) (
 .br (decide (r1.1<(0:Int))) (
 .leaf (((0:Int),(0:Int),([]:List YB),(0:Int),()),(false,()))) (
 .ob (Di a0) fun r3=>
 .ob (idx r3.2.2.1 r1.1) fun e4=>
 .leaf (e4,(true,()))))
def Kp (a0:A9) (a1:Bu):Option (Al×(Bool×Unit)):=(Vg a0 a1).val
end
end Go.Proofs.YtmhhajdeafijmaaGreat

/-
  What the functions of the seat answer, as plain terms (printed by a program, proved in the texts P); nothing is assumed.
-/
import Derived.Test.YthccfdmiejmbaaaGreatEv2
namespace Go.Proofs.YthccfdmiejmbaaaGreat
open Go.RowKit IntKind
set_option linter.unusedVariables false
set_option maxRecDepth 100000
set_option maxHeartbeats 4000000
noncomputable section
abbrev Lst (a b:Type):=a->Option (a⊕b)
abbrev YB:Type:=Int×Unit
abbrev YI:Type:=Int×Unit
abbrev YBs:Type:=List YB×Unit
abbrev Bqi:Type:=ByteArray×Int×Unit
abbrev A8:Type:=Int×Int×Unit
abbrev Gq:Type:=List YB×Int×Unit
abbrev Dg:Type:=Int×List YI×Unit
abbrev Bwy:Type:=Int×Int×Bool×Int×Unit
abbrev Aw:Type:=List YB×Int×Int×Unit
abbrev An:Type:=Int×Int×Int×Int×Unit
abbrev Rg:Type:=List YI×List YB×Int×Unit
abbrev Bb:Type:=Int×Int×List YB×Int×Unit
abbrev YEp:Type:=Int×List YB×Int×Int×List YI×Unit
abbrev Bn:Type:=Int×Int×List Bb×Unit
abbrev Aq:Type:=Int×Int×Int×List YB×List YB×Int×Int×List YB×List YB×Int×Int×Int×Unit
abbrev Ap:Type:=Int×Int×List YB×List YB×Int×List YB×List YB×Int×Int×List YB×List YB×Unit
abbrev Az:Type:=Int×Int×Int×Int×List YB×List YB×Int×List YB×List YB×Int×Int×List YB×List YB×Unit
abbrev Au:Type:=Int×List YB×Int×List YB×Int×Int×List YI×Int×List YB×Int×Int×List YI×Bool×Int×List YB×Unit
abbrev Al:Type:=Int×List YB×List YB×Int×List YB×Int×List YB×Int×Int×List YI×Int×List YB×Int×Int×List YI×Bool×Int×List YB×Int×Int×List Bb×Int×Int×Bool×Unit
abbrev Ck:Type:=Int×List Al×Unit
abbrev Bc:Type:=List YBs×List YB×List YB×Int×Int×List Al×List An×Unit
def Bl3 (a0:YBs):Tree (Bool×Unit):=
 .leaf (decide ((a0.1.length:Int)>1048576),())
def Bl9 a0:=(Bl3 a0).val
def Acg:Lst (Aw) (Gq):=fun x1=>
 Tree.val <|
 .br (decide (x1.2.2.1<(x1.1.length:Int))) (
 .br (decide (x1.2.2.1<4000)) (
 .ob (idx x1.1 x1.2.2.1) fun e2=>
 .leaf (.inl (x1.1,i64.wrap ((BitVec.ofInt i64.bits (i64.wrap (i64.wrap (i64.wrap (x1.2.1*137)+i64.wrap e2.1)+11)) &&& BitVec.ofInt i64.bits 1073741823).toNat:Nat),i64.wrap (x1.2.2.1+1),()))) (
 .leaf (.inr (x1.1,x1.2.1,())))) (
 .leaf (.inr (x1.1,x1.2.1,())))
def Awv (a0:YBs):Tree (Aw):=
 .ob (A0 Acg (a0.1,i64.wrap (127812+(a0.1.length:Int)),0,())) fun o3=>
 .leaf (o3.1,0,o3.2.1,())
def Azc a0:=(Awv a0).val
def Aqc (a0:Aw):Tree (YI×Aw):=
 letI u1:=a0.2.2;letI k1:=i64.wrap ((BitVec.ofInt i64.bits (i64.wrap ((BitVec.ofInt i64.bits (Int.fdiv (i64.wrap (i64.wrap (u1.1*(6364136223846793005:Int))+(1442695040888963407:Int))) (2^(min (33:Int).toNat i64.bits))) ^^^ BitVec.ofInt i64.bits (Int.fdiv (i64.wrap (i64.wrap (u1.1*(6364136223846793005:Int))+(1442695040888963407:Int))) (2^(min (47:Int).toNat i64.bits)))).toNat:Nat)) &&& BitVec.ofInt i64.bits (255:Int)).toNat:Nat);letI k2:=i64.wrap (i64.wrap (u1.1*(6364136223846793005:Int))+(1442695040888963407:Int));.br (decide (a0.2.1<(a0.1.length:Int))) (
 .ob (idx a0.1 a0.2.1) fun e1=>
 .leaf ((i64.wrap ((BitVec.ofInt i64.bits (i64.wrap (k1+i64.wrap e1.1)) &&& BitVec.ofInt i64.bits 255).toNat:Nat),()),(a0.1,i64.wrap (a0.2.1+1),k2,()))) (
 .leaf ((k1,()),(a0.1,a0.2.1,k2,())))
def Kp a0:=(Aqc a0).val
def Ald (a0:Aw) (a1:YI):Tree (YI×Aw):=
 letI k2:=decide ((0:Int)<a1.1); .br (decide (a1.1<=0)) (
 .leaf ((0,()),a0)) (
 .br (decide (a1.1<=256)) (
 .ob (Kp a0) fun r1=>
 .chk k2 <|
 .chk (decide (0<=r1.1.1)) <|
 .leaf ((r1.1.1%a1.1,()),(a0.1,r1.2.2.1,r1.2.2.2.1,()))) (
 .ob (Kp a0) fun r2=>
 .ob (Kp (a0.1,r2.2.2.1,r2.2.2.2.1,())) fun r3=>
 .ob (Kp (a0.1,r3.2.2.1,r3.2.2.2.1,())) fun r4=>letI k1:=i64.wrap (i64.wrap (i64.wrap (r2.1.1*(65536:Int))+i64.wrap (r3.1.1*(256:Int)))+r4.1.1);
 .chk k2 <|
 .chk (decide (0<=k1)) <|
 .leaf ((k1%a1.1,()),(a0.1,r4.2.2.1,r4.2.2.2.1,()))))
def Be a0 a1:=(Ald a0 a1).val
def Qg:Lst (Int×List YB×Int×List YB×Int×Int×Unit) (List YB×List YB×Int×Int×Unit):=fun x1=>
 letI u1:=x1.2.2.2;Tree.val <|
 .br (decide (x1.2.2.1<x1.1)) (
 .ob (Kp (u1.1,u1.2.1,u1.2.2.1,())) fun r2=>
 .chk (decide (x1.2.1.length+[(u8.wrap r2.1.1,())].length<=4294967296)) <|
 .leaf (.inl (x1.1,x1.2.1++[(u8.wrap r2.1.1,())],i64.wrap (x1.2.2.1+1),u1.1,r2.2.2.1,r2.2.2.2.1,()))) (
 .leaf (.inr (x1.2.1,u1.1,u1.2.1,u1.2.2.1,())))
def Ale (a0:Aw) (a1:YI):Tree (YBs×Aw):=
 .ob (A0 Qg (a1.1,[],0,a0.1,a0.2.1,a0.2.2.1,())) fun o3=>
 .leaf ((o3.1,()),(o3.2.1,o3.2.2.1,o3.2.2.2.1,()))
def Ci a0 a1:=(Ale a0 a1).val
def Vt:Lst (List YBs×Int×List YB×Int×Int×Unit) (List YBs×List YB×Int×Int×Unit):=fun x2=>
 letI u1:=x2.2.2;Tree.val <|
 .br (decide (x2.2.1>0)) (
 .ob (Be (u1.1,u1.2.1,u1.2.2.1,()) (32,())) fun r3=>
 .ob (Ci (u1.1,r3.2.2.1,r3.2.2.2.1,()) (i64.wrap (1+r3.1.1),())) fun r4=>
 .chk (decide (x2.1.length+[r4.1].length<=4294967296)) <|
 .leaf (.inl (x2.1++[r4.1],i64.wrap (x2.2.1-1),u1.1,r4.2.2.1,r4.2.2.2.1,()))) (
 .leaf (.inr (x2.1,u1.1,u1.2.1,u1.2.2.1,())))
def Alf (a0:Aw):Tree ((List YBs×Unit)×Aw):=
 .ob (Be a0 (3,())) fun r1=>
 .ob (A0 Vt ([],i64.wrap (1+r1.1.1),a0.1,r1.2.2.1,r1.2.2.2.1,())) fun o5=>
 .leaf ((o5.1,()),(o5.2.1,o5.2.2.1,o5.2.2.2.1,()))
def Am6 a0:=(Alf a0).val
def Alh (a0:Gq):Tree (Gq):=
 .chk (decide (([]:List YB).length+a0.1.length<=4294967296)) <|
 .leaf (([]:List YB)++a0.1,a0.2.1,())
def Ac3 a0:=(Alh a0).val
def A3w (a0 a1 a2:YI):Tree (Bool×Unit):=
 .br (decide (a0.1≥a1.1)) (
 .leaf (decide (a0.1<=a2.1),())) (
 .leaf (false,()))
def Bs a0 a1 a2:=(A3w a0 a1 a2).val
def Aqe (a0:Gq):Tree (Bool×Unit):=
 .ob (Bs ((a0.1.length:Int),()) (1,()) (32,())) fun r1=>
 .br r1.1 (
 .ob (Bs (a0.2.1,()) (0,()) (10000,())) fun r2=>
 .leaf r2) (
 .leaf (false,()))
def Afy a0:=(Aqe a0).val
def Xq:Lst (Int×List YB×Int×Unit) (YBs):=fun x1=>
 letI u1:=x1.2.2;letI k1:=(i64.wrap ((BitVec.ofInt i64.bits (Int.fdiv x1.1 (2^(min (i64.wrap ((8:Int)*u1.1)).toNat i64.bits))) &&& BitVec.ofInt i64.bits (255:Int)).toNat:Nat));Tree.val <|
 .br (decide (u1.1≥0)) (
 .chk (decide (0<=i64.wrap (8*u1.1))) <|
 .chk (decide (x1.2.1.length+[(u8.wrap k1,())].length<=4294967296)) <|
 .leaf (.inl (x1.1,x1.2.1++[(u8.wrap k1,())],i64.wrap (u1.1-1),()))) (
 .leaf (.inr (x1.2.1,())))
def A3x (a0:YBs) (a1 a2:YI):Tree (YBs):=
 letI k1:=([]:List YB)++a0.1; .chk (decide (([]:List YB).length+a0.1.length<=4294967296)) <|
 .br (decide (a2.1<1)) (
 .leaf (k1,())) (
 .br (decide (a2.1>6)) (
 .leaf (k1,())) (
 .ob (A0 Xq (a1.1,k1,i64.wrap (a2.1-1),())) fun o2=>
 .leaf o2))
def Fb a0 a1 a2:=(A3x a0 a1 a2).val
def Awx:Lst (Int×List YB×Unit) (Int×List YB×Unit):=fun x1=>
 letI k1:=i64.wrap (i64.wrap (x1.1+(x1.2.1.length:Int))+(8:Int)); Tree.val <|
 .chk (decide (0<=k1)) <|
 .br ((k1%64) != 0) (
 .chk (decide (x1.2.1.length+[((0:Int),())].length<=4294967296)) <|
 .leaf (.inl (x1.1,x1.2.1++[((0:Int),())],()))) (
 .leaf (.inr x1))
def A93 (a0:YI):Tree (YBs):=
 .br (decide (a0.1<0)) (
 .leaf ([],())) (
 .br (decide (a0.1>1048576)) (
 .leaf ([],())) (
 .ob (A0 Awx (a0.1,[(128,())],())) fun o2=>
 .ob (Fb (o2.2.1,()) (0,()) (4,())) fun r3=>
 .ob (Fb r3 (i64.wrap (8*o2.1),()) (4,())) fun r4=>
 .leaf r4))
def Ba4 a0:=(A93 a0).val
def Bcf:Tree (List YI×Unit):=
 .leaf ([(1779033703,()),(3144134277,()),(1013904242,()),(2773480762,()),(1359893119,()),(2600822924,()),(528734635,()),(1541459225,())],())
def Bdg:=Bcf.val
def Qh:Lst (List YI×Int×Unit) ((Bool×Unit)⊕(List YI×Unit)):=fun x1=>
 Tree.val <|
 .br (decide (x1.2.1<(x1.1.length:Int))) (
 .ob (idx x1.1 x1.2.1) fun e2=>
 .ob (Bs e2 (0,()) (4294967295,())) fun r3=>
 .br (!r3.1) (
 .leaf (.inr (.inl (false,())))) (
 .leaf (.inl (x1.1,i64.wrap (x1.2.1+1),())))) (
 .leaf (.inr (.inr (x1.1,()))))
def Ali (a0:List YI×Unit):Tree (Bool×Unit):=
 .ob (A0 Qh (a0.1,0,())) fun o4=>
 .sm o4 (fun o5=>
 .leaf o5) (fun o6=>
 .leaf ((o6.1.length:Int)==8,()))
def Am7 a0:=(Ali a0).val
def Bl6:Tree (List YI×Unit):=
 .leaf ([(1116352408,()),(1899447441,()),(3049323471,()),(3921009573,()),(961987163,()),(1508970993,()),(2453635748,()),(2870763221,()),(3624381080,()),(310598401,()),(607225278,()),(1426881987,()),(1925078388,()),(2162078206,()),(2614888103,()),(3248222580,()),(3835390401,()),(4022224774,()),(264347078,()),(604807628,()),(770255983,()),(1249150122,()),(1555081692,()),(1996064986,()),(2554220882,()),(2821834349,()),(2952996808,()),(3210313671,()),(3336571891,()),(3584528711,()),(113926993,()),(338241895,()),(666307205,()),(773529912,()),(1294757372,()),(1396182291,()),(1695183700,()),(1986661051,()),(2177026350,()),(2456956037,()),(2730485921,()),(2820302411,()),(3259730800,()),(3345764771,()),(3516065817,()),(3600352804,()),(4094571909,()),(275423344,()),(430227734,()),(506948616,()),(659060556,()),(883997877,()),(958139571,()),(1322822218,()),(1537002063,()),(1747873779,()),(1955562222,()),(2024104815,()),(2227730452,()),(2361852424,()),(2428436474,()),(2756734187,()),(3204031479,()),(3329325298,())],())
def Bma:=Bl6.val
def Tn:Lst (List YB×Int×Int×Int×Int×Unit) (Int×Int×Int×Unit):=fun x1=>
 letI u1:=x1.2.2;Tree.val <|
 .br (decide (u1.2.2.1<u1.1)) (
 .ob (idx x1.1 (i64.wrap (x1.2.1+u1.2.2.1))) fun e2=>
 .leaf (.inl (x1.1,x1.2.1,u1.1,i64.wrap (i64.wrap (u1.2.1*256)+i64.wrap e2.1),i64.wrap (u1.2.2.1+1),()))) (
 .leaf (.inr (x1.2.1,u1.1,u1.2.1,())))
def A3z (a0:YBs) (a1 a2:YI):Tree (YI×YI×(Bool×Unit)):=
 .br (decide (a2.1<1)) (
 .leaf ((0,()),(0,()),(false,()))) (
 .br (decide (a2.1>6)) (
 .leaf ((0,()),(0,()),(false,()))) (
 .br (decide (a1.1<0)) (
 .leaf ((0,()),(0,()),(false,()))) (
 .br (decide (a1.1>i64.wrap ((a0.1.length:Int)-a2.1))) (
 .leaf ((0,()),(0,()),(false,()))) (
 .ob (A0 Tn (a0.1,a1.1,a2.1,0,0,())) fun o3=>
 .leaf ((o3.2.2.1,()),(i64.wrap (o3.1+o3.2.1),()),(true,()))))))
def Wg a0 a1 a2:=(A3z a0 a1 a2).val
def A95 (a0 a1:YI):Tree (YI):=
 letI k1:=i64.wrap ((BitVec.ofInt i64.bits a0.1 &&& BitVec.ofInt i64.bits (4294967295:Int)).toNat:Nat);letI k2:=i64.wrap ((32:Int)-a1.1); .br (decide (a1.1<1)) (
 .leaf (k1,())) (
 .br (decide (a1.1>31)) (
 .leaf (k1,())) (
 .chk (decide (0<=a1.1)) <|
 .chk (decide (0<=k2)) <|
 .leaf (i64.wrap ((BitVec.ofInt i64.bits (i64.wrap ((BitVec.ofInt i64.bits (Int.fdiv k1 (2^(min (a1.1).toNat i64.bits))) ||| BitVec.ofInt i64.bits (i64.wrap (k1*2^(min (k2).toNat i64.bits)))).toNat:Nat)) &&& BitVec.ofInt i64.bits 4294967295).toNat:Nat),())))
def Mm a0 a1:=(A95 a0 a1).val
def Lb:Lst (List YB×List YI×Int×Unit) (List YI×Unit):=fun x1=>
 Tree.val <|
 .br (decide (x1.2.2.1<16)) (
 .ob (Wg (x1.1,()) (i64.wrap (4*x1.2.2.1),()) (4,())) fun r2=>
 .chk (decide (x1.2.1.length+[r2.1].length<=4294967296)) <|
 .leaf (.inl (x1.1,x1.2.1++[r2.1],i64.wrap (x1.2.2.1+1),()))) (
 .leaf (.inr (x1.2.1,())))
def Jy:Lst (List YI×Int×Unit) (List YI×Unit):=fun x4=>
 Tree.val <|
 .br (decide (x4.2.1<64)) (
 .ob (idx x4.1 (i64.wrap (x4.2.1-15))) fun e5=>
 .ob (idx x4.1 (i64.wrap (x4.2.1-2))) fun e6=>
 .ob (Mm e5 (7,())) fun r7=>
 .ob (Mm e5 (18,())) fun r8=>
 .ob (Mm e6 (17,())) fun r9=>
 .ob (Mm e6 (19,())) fun r10=>
 .ob (idx x4.1 (i64.wrap (x4.2.1-7))) fun e11=>
 .ob (idx x4.1 (i64.wrap (x4.2.1-16))) fun e12=>letI k1:=(i64.wrap ((BitVec.ofInt i64.bits (i64.wrap (i64.wrap (i64.wrap (e11.1+e12.1)+i64.wrap ((BitVec.ofInt i64.bits (i64.wrap ((BitVec.ofInt i64.bits r7.1 ^^^ BitVec.ofInt i64.bits r8.1).toNat:Nat)) ^^^ BitVec.ofInt i64.bits (Int.fdiv e5.1 (2^(min (3:Int).toNat i64.bits)))).toNat:Nat))+i64.wrap ((BitVec.ofInt i64.bits (i64.wrap ((BitVec.ofInt i64.bits r9.1 ^^^ BitVec.ofInt i64.bits r10.1).toNat:Nat)) ^^^ BitVec.ofInt i64.bits (Int.fdiv e6.1 (2^(min (10:Int).toNat i64.bits)))).toNat:Nat))) &&& BitVec.ofInt i64.bits (4294967295:Int)).toNat:Nat),());
 .chk (decide (x4.1.length+[k1].length<=4294967296)) <|
 .leaf (.inl (x4.1++[k1],i64.wrap (x4.2.1+1),()))) (
 .leaf (.inr (x4.1,())))
def Xr (a0:YBs):Tree (List YI×Unit):=
 .br ((a0.1.length:Int) != 64) (
 .leaf ([],())) (
 .ob (A0 Lb (a0.1,[],0,())) fun o3=>
 .ob (A0 Jy (o3.1,16,())) fun o13=>
 .leaf o13)
def Ail a0:=(Xr a0).val
def I0:Lst (List YI×List YI×List YI×List YI×Int×Int×Int×Int×Int×Int×Int×Int×Int×Unit) (List YI×List YI×Int×Int×Int×Int×Int×Int×Int×Int×Unit):=fun x12=>
 letI u1:=x12.2.2;letI u2:=u1.2.2;letI u3:=u2.2.2;letI u4:=u3.2.2;letI u5:=u4.2.2;Tree.val <|
 .br (decide (u5.2.2.1<64)) (
 .ob (Mm (u4.1,()) (6,())) fun r13=>
 .ob (Mm (u4.1,()) (11,())) fun r14=>
 .ob (Mm (u4.1,()) (25,())) fun r15=>
 .ob (idx u1.1 u5.2.2.1) fun e16=>
 .ob (idx u1.2.1 u5.2.2.1) fun e17=>letI k1:=i64.wrap ((BitVec.ofInt i64.bits (i64.wrap (i64.wrap (i64.wrap (i64.wrap (u5.2.1+i64.wrap ((BitVec.ofInt i64.bits (i64.wrap ((BitVec.ofInt i64.bits r13.1 ^^^ BitVec.ofInt i64.bits r14.1).toNat:Nat)) ^^^ BitVec.ofInt i64.bits r15.1).toNat:Nat))+i64.wrap ((BitVec.ofInt i64.bits (i64.wrap ((BitVec.ofInt i64.bits u4.1 &&& BitVec.ofInt i64.bits u4.2.1).toNat:Nat)) ^^^ BitVec.ofInt i64.bits (i64.wrap ((BitVec.ofInt i64.bits (i64.wrap ((BitVec.ofInt i64.bits u4.1 ^^^ BitVec.ofInt i64.bits (4294967295:Int)).toNat:Nat)) &&& BitVec.ofInt i64.bits u5.1).toNat:Nat))).toNat:Nat))+e16.1)+e17.1)) &&& BitVec.ofInt i64.bits (4294967295:Int)).toNat:Nat);
 .ob (Mm (u2.1,()) (2,())) fun r18=>
 .ob (Mm (u2.1,()) (13,())) fun r19=>
 .ob (Mm (u2.1,()) (22,())) fun r20=>
 .leaf (.inl (x12.1,x12.2.1,u1.1,u1.2.1,i64.wrap ((BitVec.ofInt i64.bits (i64.wrap (k1+i64.wrap ((BitVec.ofInt i64.bits (i64.wrap (i64.wrap ((BitVec.ofInt i64.bits (i64.wrap ((BitVec.ofInt i64.bits r18.1 ^^^ BitVec.ofInt i64.bits r19.1).toNat:Nat)) ^^^ BitVec.ofInt i64.bits r20.1).toNat:Nat)+i64.wrap ((BitVec.ofInt i64.bits (i64.wrap ((BitVec.ofInt i64.bits (i64.wrap ((BitVec.ofInt i64.bits u2.1 &&& BitVec.ofInt i64.bits u2.2.1).toNat:Nat)) ^^^ BitVec.ofInt i64.bits (i64.wrap ((BitVec.ofInt i64.bits u2.1 &&& BitVec.ofInt i64.bits u3.1).toNat:Nat))).toNat:Nat)) ^^^ BitVec.ofInt i64.bits (i64.wrap ((BitVec.ofInt i64.bits u2.2.1 &&& BitVec.ofInt i64.bits u3.1).toNat:Nat))).toNat:Nat))) &&& BitVec.ofInt i64.bits 4294967295).toNat:Nat))) &&& BitVec.ofInt i64.bits 4294967295).toNat:Nat),u2.1,u2.2.1,u3.1,i64.wrap ((BitVec.ofInt i64.bits (i64.wrap (u3.2.1+k1)) &&& BitVec.ofInt i64.bits 4294967295).toNat:Nat),u4.1,u4.2.1,u5.1,i64.wrap (u5.2.2.1+1),()))) (
 .leaf (.inr (x12.1,x12.2.1,u2.1,u2.2.1,u3.1,u3.2.1,u4.1,u4.2.1,u5.1,u5.2.1,())))
def Ib:Lst (List YI×List YI×List YI×Int×Unit) (List YI×Unit):=fun x22=>
 letI u1:=x22.2.2.2;Tree.val <|
 .br (decide (u1.1<8)) (
 .ob (idx x22.1 u1.1) fun e23=>
 .ob (idx x22.2.2.1 u1.1) fun e24=>
 .ob (idx x22.2.1 u1.1) fun e25=>
 let q26:=(x22.2.1.set (u1.1).toNat (i64.wrap ((BitVec.ofInt i64.bits (i64.wrap (e23.1+e24.1)) &&& BitVec.ofInt i64.bits 4294967295).toNat:Nat),()))
 .leaf (.inl (x22.1,q26,x22.2.2.1,i64.wrap (u1.1+1),()))) (
 .leaf (.inr (x22.2.1,())))
def Xs (a0:List YI×Unit) (a1:YBs):Tree (List YI×Unit):=
 letI k1:=([]:List YI)++a0.1; .chk (decide (([]:List YI).length+a0.1.length<=4294967296)) <|
 .ob (Am7 a0) fun r1=>
 .br (!r1.1) (
 .leaf (k1,())) (
 .br ((a1.1.length:Int) != 64) (
 .leaf (k1,())) (
 .ob Bma fun r2=>
 .ob (Ail a1) fun r3=>
 .ob (idx a0.1 0) fun e4=>
 .ob (idx a0.1 1) fun e5=>
 .ob (idx a0.1 2) fun e6=>
 .ob (idx a0.1 3) fun e7=>
 .ob (idx a0.1 4) fun e8=>
 .ob (idx a0.1 5) fun e9=>
 .ob (idx a0.1 6) fun e10=>
 .ob (idx a0.1 7) fun e11=>
 .ob (A0 I0 (a0.1,k1,r2.1,r3.1,e4.1,e5.1,e6.1,e7.1,e8.1,e9.1,e10.1,e11.1,0,())) fun o21=>letI u1:=o21.2.2.2;letI u2:=u1.2.2.2;
 .ob (A0 Ib (o21.1,o21.2.1,[(o21.2.2.1,()),(u1.1,()),(u1.2.1,()),(u1.2.2.1,()),(u2.1,()),(u2.2.1,()),(u2.2.2.1,()),(u2.2.2.2.1,())],0,())) fun o27=>
 .leaf o27))
def Zz a0 a1:=(Xs a0 a1).val
def Qw:Lst (Rg) (YBs):=fun x1=>
 Tree.val <|
 .br (decide (x1.2.2.1<8)) (
 .ob (idx x1.1 x1.2.2.1) fun e2=>
 .ob (Fb (x1.2.1,()) e2 (4,())) fun r3=>
 .leaf (.inl (x1.1,r3.1,i64.wrap (x1.2.2.1+1),()))) (
 .leaf (.inr (x1.2.1,())))
def Aw0 (a0:List YI×Unit):Tree (YBs):=
 .ob (A0 Qw (a0.1,[],0,())) fun o4=>
 .leaf o4
def Azd a0:=(Aw0 a0).val
def W4:Lst (List YB×List YI×Int×Unit) (List YI×Unit):=fun x3=>
 letI u1:=x3.2.2;letI k1:=i64.wrap (u1.1+(64:Int));Tree.val <|
 .br (decide (u1.1<(x3.1.length:Int))) (
 .chk (decide (0<=u1.1)) <|
 .chk (decide (u1.1<=k1)) <|
 .chk (decide (k1<=(x3.1.length:Int))) <|
 .ob (Zz (x3.2.1,()) ((x3.1.take (k1).toNat).drop (u1.1).toNat,())) fun r4=>
 .leaf (.inl (x3.1,r4.1,k1,()))) (
 .leaf (.inr (x3.2.1,())))
def A97 (a0:YBs):Tree (YBs):=
 .br (decide ((a0.1.length:Int)>1048576)) (
 .leaf ([],())) (
 .chk (decide (([]:List YB).length+a0.1.length<=4294967296)) <|
 .ob (Ba4 ((a0.1.length:Int),())) fun r1=>
 .chk (decide ((([]:List YB)++a0.1).length+r1.1.length<=4294967296)) <|
 .ob Bdg fun r2=>
 .ob (A0 W4 ((([]:List YB)++a0.1)++r1.1,r2.1,0,())) fun o5=>
 .ob (Azd o5) fun r6=>
 .leaf r6)
def Ao6 a0:=(A97 a0).val
def To:Lst (YBs) (YBs):=fun x2=>
 Tree.val <|
 .br (decide ((x2.1.length:Int)<64)) (
 .chk (decide (x2.1.length+[((0:Int),())].length<=4294967296)) <|
 .leaf (.inl (x2.1++[((0:Int),())],()))) (
 .leaf (.inr x2))
def Ag3 (a0:YBs):Tree (YBs):=
 .br (decide ((a0.1.length:Int)>1048576)) (
 .leaf ([],())) (
 .chk (decide (([]:List YB).length+a0.1.length<=4294967296)) <|
 .br (decide ((a0.1.length:Int)>64)) (
 .ob (Ao6 a0) fun r1=>
 .ob (A0 To r1) fun o3=>
 .leaf o3) (
 .ob (A0 To (([]:List YB)++a0.1,())) fun o4=>
 .leaf o4))
def Aim a0:=(Ag3 a0).val
def Tp:Lst (List YB×List YB×List YB×List YB×Int×Unit) (List YB×List YB×List YB×Unit):=fun x2=>
 letI u1:=x2.2.2.2;Tree.val <|
 .br (decide (u1.2.1<64)) (
 .ob (idx x2.2.1 u1.2.1) fun e3=>
 .chk (decide (x2.2.2.1.length+[(u8.wrap ((BitVec.ofInt u8.bits e3.1 ^^^ BitVec.ofInt u8.bits (54:Int)).toNat:Nat),())].length<=4294967296)) <|
 .ob (idx x2.2.1 u1.2.1) fun e4=>
 .chk (decide (x2.2.2.2.1.length+[(u8.wrap ((BitVec.ofInt u8.bits e4.1 ^^^ BitVec.ofInt u8.bits (92:Int)).toNat:Nat),())].length<=4294967296)) <|
 .leaf (.inl (x2.1,x2.2.1,x2.2.2.1++[(u8.wrap ((BitVec.ofInt u8.bits e3.1 ^^^ BitVec.ofInt u8.bits (54:Int)).toNat:Nat),())],u1.1++[(u8.wrap ((BitVec.ofInt u8.bits e4.1 ^^^ BitVec.ofInt u8.bits (92:Int)).toNat:Nat),())],i64.wrap (u1.2.1+1),()))) (
 .leaf (.inr (x2.1,x2.2.2.1,u1.1,())))
def A32 (a0 a1:YBs):Tree (YBs):=
 .br (decide ((a0.1.length:Int)>1048576)) (
 .leaf ([],())) (
 .br (decide ((a1.1.length:Int)>1048512)) (
 .leaf ([],())) (
 .ob (Aim a0) fun r1=>
 .ob (A0 Tp (a1.1,r1.1,[],[],0,())) fun o5=>
 .chk (decide (o5.2.1.length+o5.1.length<=4294967296)) <|
 .ob (Ao6 (o5.2.1++o5.1,())) fun r6=>
 .chk (decide (o5.2.2.1.length+r6.1.length<=4294967296)) <|
 .ob (Ao6 (o5.2.2.1++r6.1,())) fun r7=>
 .leaf r7))
def Wh a0 a1:=(A32 a0 a1).val
def Aqf (a0:YBs) (a1:YI):Tree (YBs):=
 .ob (Bs ((a0.1.length:Int),()) (1,()) (32,())) fun r1=>
 .br (!r1.1) (
 .leaf ([],())) (
 .ob (Bs a1 (0,()) (10000,())) fun r2=>
 .br (!r2.1) (
 .leaf ([],())) (
 .ob (Fb ([(114,()),(111,()),(108,()),(108,())],()) a1 (4,())) fun r3=>
 .ob (Wh a0 r3) fun r4=>letI k1:=(r4.1.take (12:Int).toNat).drop (0:Int).toNat;
 .chk (decide (12<=(r4.1.length:Int))) <|
 .chk (decide (([]:List YB).length+k1.length<=4294967296)) <|
 .leaf (([]:List YB)++k1,())))
def Atc a0 a1:=(Aqf a0 a1).val
def A34 (a0:Gq):Tree (Gq×YBs):=
 .ob (Ac3 a0) fun r1=>
 .ob (Afy a0) fun r2=>
 .br (!r2.1) (
 .leaf (r1,([],()))) (
 .br (a0.2.1==10000) (
 .leaf (r1,([],()))) (
 .ob (Atc (a0.1,()) (a0.2.1,())) fun r3=>
 .leaf ((r1.1,i64.wrap (a0.2.1+1),()),r3)))
def Ain a0:=(A34 a0).val
def N6:Lst (List YB×List YB×Int×List YB×List YB×Int×Unit) (Int×List YB×Unit):=fun x2=>
 letI u1:=x2.2.2;letI u2:=u1.2.2;letI k1:=([]:List YB)++u2.1;Tree.val <|
 .br (decide ((x2.2.2.2.1.length:Int)<u1.1)) (
 .chk (decide (([]:List YB).length+x2.2.2.2.2.1.length<=4294967296)) <|
 .chk (decide (k1.length+x2.2.1.length<=4294967296)) <|
 .chk (decide ((k1++x2.2.1).length+[(u8.wrap u2.2.1,())].length<=4294967296)) <|
 .ob (Wh (x2.1,()) ((k1++x2.2.1)++[(u8.wrap u2.2.1,())],())) fun r3=>
 .chk (decide (x2.2.2.2.1.length+r3.1.length<=4294967296)) <|
 .leaf (.inl (x2.1,x2.2.1,u1.1,u1.2.1++r3.1,r3.1,i64.wrap (u2.2.1+1),()))) (
 .leaf (.inr (u1.1,u1.2.1,())))
def Aqg (a0 a1:YBs) (a2:YI):Tree (YBs×(Bool×Unit)):=
 .ob (Bs a2 (0,()) (8160,())) fun r1=>
 .br (!r1.1) (
 .leaf (([],()),(false,()))) (
 .br (decide ((a1.1.length:Int)>100)) (
 .leaf (([],()),(false,()))) (
 .br (decide ((a0.1.length:Int)>1048576)) (
 .leaf (([],()),(false,()))) (
 .ob (A0 N6 (a0.1,a1.1,a2.1,[],[],1,())) fun o4=>letI k1:=(o4.2.1.take (o4.1).toNat).drop (0:Int).toNat;
 .chk (decide (0<=o4.1)) <|
 .chk (decide (o4.1<=(o4.2.1.length:Int))) <|
 .chk (decide (([]:List YB).length+k1.length<=4294967296)) <|
 .leaf ((([]:List YB)++k1,()),(true,())))))
def Atd a0 a1 a2:=(Aqg a0 a1 a2).val
def Aqh (a0:YBs) (a1:ByteArray×Unit):Tree (YBs):=
 .chk (decide (a1.1.size<=4294967296)) <|
 .ob (Atd a0 (Kq a1.1,()) (32,())) fun r1=>
 .leaf r1.1
def Eb a0 a1:=(Aqh a0 a1).val
def Aqj (a0:YBs):Tree (YBs):=
 .br ((a0.1.length:Int) != 12) (
 .leaf ([],())) (
 .ob (Eb a0 (Dq [106,97,114],())) fun r1=>
 .leaf r1)
def Z0 a0:=(Aqj a0).val
def Aql (a0:YI):Tree (Ck):=
 .ob (Bs a0 (1,()) (6,())) fun r1=>
 .br (!r1.1) (
 .leaf (0,[],())) (
 .leaf (a0.1,[],()))
def Z1 a0:=(Aql a0).val
def Bcj (a0:YBs):Tree (Bool×Unit):=
 .leaf ((a0.1.length:Int)==32,())
def Akf a0:=(Bcj a0).val
def Xt:Lst (Int×Int×Int×List Al×Unit) (YI):=fun x1=>
 letI u1:=x1.2.2;letI k1:=i64.wrap (x1.2.1+(1:Int));Tree.val <|
 .br (decide (x1.2.1<(x1.2.2.2.1.length:Int))) (
 .ob (idx u1.2.1 x1.2.1) fun e2=>
 .br (!e2.2.2.2.2.2.2.2.2.2.2.2.2.2.2.2.2.2.2.2.2.2.2.2.1) (
 .leaf (.inl (i64.wrap (x1.1+1),k1,u1.1,u1.2.1,()))) (
 .leaf (.inl (x1.1,k1,u1.1,u1.2.1,())))) (
 .leaf (.inr (x1.1,())))
def A36 (a0:Ck):Tree (YI):=
 .ob (A0 Xt (0,0,a0.1,a0.2.1,())) fun o3=>
 .leaf o3
def Aio a0:=(A36 a0).val
def Alk (a0:YEp):Tree (Bool×Unit):=
 .br (a0.1==0) (
 .br ((a0.2.1.length:Int)==0) (
 .br (a0.2.2.1==0) (
 .br (a0.2.2.2.1==0) (
 .leaf ((a0.2.2.2.2.1.length:Int)==0,())) (
 .leaf (false,()))) (
 .leaf (false,()))) (
 .leaf (false,()))) (
 .leaf (false,()))
def Vb a0:=(Alk a0).val
def Aef (a0:Au):Tree (Bool×Unit):=
 letI u1:=a0.2.2.2;letI u2:=u1.2.2.2;letI u3:=u2.2.2.2;.br (a0.1==0) (
 .br ((a0.2.1.length:Int)==0) (
 .ob (Vb (a0.2.2.1,u1.1,u1.2.1,u1.2.2.1,u2.1,())) fun r1=>
 .br r1.1 (
 .ob (Vb (u2.2.1,u2.2.2.1,u3.1,u3.2.1,u3.2.2.1,())) fun r2=>
 .br r2.1 (
 .br (!u3.2.2.2.1) (
 .br (u3.2.2.2.2.1==0) (
 .leaf ((a0.2.2.2.2.2.2.2.2.2.2.2.2.2.2.1.length:Int)==0,())) (
 .leaf (false,()))) (
 .leaf (false,()))) (
 .leaf (false,()))) (
 .leaf (false,()))) (
 .leaf (false,()))) (
 .leaf (false,()))
def Ae8 a0:=(Aef a0).val
def Aqn (a0:YI):Tree (A8):=
 .ob (Bs a0 (0,()) (255,())) fun r1=>
 .br (!r1.1) (
 .leaf (0,0,())) (
 .leaf (i64.wrap (167772160+a0.1),i64.wrap (7000+a0.1),()))
def Kd a0:=(Aqn a0).val
def Aw4 (a0:Dg) (a1:YI):Tree (Bool×Unit):=
 letI k1:=a1.1%(1024:Int); .chk (decide (0<=a1.1)) <|
 .chk (decide (0<=k1)) <|
 .ob (idx a0.2.1 (k1/(32:Int))) fun e1=>
 .chk (decide (0<=k1)) <|
 .chk (decide (0<=(k1%32))) <|
 .leaf ((i64.wrap ((BitVec.ofInt i64.bits (Int.fdiv e1.1 (2^(min (k1%32).toNat i64.bits))) &&& BitVec.ofInt i64.bits 1).toNat:Nat))==1,())
def Ady a0 a1:=(Aw4 a0 a1).val
def Np:Lst (Int×Int×List YI×Unit) ((Bool×Unit)⊕Dg):=fun x2=>
 Tree.val <|
 .br (decide (x2.1<32)) (
 .ob (idx x2.2.2.1 x2.1) fun e3=>
 .ob (Bs e3 (0,()) (4294967295,())) fun r4=>
 .br (!r4.1) (
 .leaf (.inr (.inl (false,())))) (
 .leaf (.inl (i64.wrap (x2.1+1),x2.2.1,x2.2.2.1,())))) (
 .leaf (.inr (.inr (x2.2.1,x2.2.2.1,()))))
def Jj:Lst (Int×Int×List YI×Unit) ((Bool×Unit)⊕(Unit)):=fun x9=>
 Tree.val <|
 .br (decide (x9.1<1024)) (
 .ob (Ady (x9.2.1,x9.2.2.1,()) (x9.1,())) fun r10=>
 .br r10.1 (
 .leaf (.inr (.inl (false,())))) (
 .leaf (.inl (i64.wrap (x9.1+1),x9.2.1,x9.2.2.1,())))) (
 .leaf (.inr (.inr ())))
def Ajv (a0:Dg):Tree (Bool×Unit):=
 .br ((a0.2.1.length:Int) != 32) (
 .leaf (false,())) (
 .ob (Bs (a0.1,()) (-1,()) (281474976710655,())) fun r1=>
 .br (!r1.1) (
 .leaf (false,())) (
 .ob (A0 Np (0,a0.1,a0.2.1,())) fun o5=>
 .sm o5 (fun o6=>
 .leaf o6) (fun o7=>letI k1:=A0 Jj (i64.wrap (o7.1+(1:Int)),o7.1,o7.2.1,());
 .br (decide (o7.1≥0)) (
 .ob (Ady o7 (o7.1,())) fun r8=>
 .br (!r8.1) (
 .leaf (false,())) (
 .ob k1 fun o11=>
 .sm o11 (fun o12=>
 .leaf o12) (fun o13=>
 .leaf (true,())))) (
 .ob k1 fun o14=>
 .sm o14 (fun o15=>
 .leaf o15) (fun o16=>
 .leaf (true,()))))))
def Akg a0:=(Ajv a0).val
def A37 (a0:YEp):Tree (Bool×Unit):=
 .ob (Bs (a0.1,()) (0,()) (4294967295,())) fun r1=>
 .br r1.1 (
 .br ((a0.2.1.length:Int)==32) (
 .ob (Bs (a0.2.2.1,()) (0,()) (281474976710656,())) fun r2=>
 .br r2.1 (
 .ob (Akg (a0.2.2.2.1,a0.2.2.2.2.1,())) fun r3=>
 .leaf r3) (
 .leaf (false,()))) (
 .leaf (false,()))) (
 .leaf (false,()))
def Wi a0:=(A37 a0).val
def Aqp (a0:Au):Tree (Bool×Unit):=
 letI u1:=a0.2.2;letI u2:=u1.2.2;letI u3:=u2.2.2.2;letI u4:=u3.2.2;letI u5:=u4.2.2;letI k1:=(a0.2.2.2.2.2.2.2.2.2.2.2.2.2.2.1.length:Int);letI k2:=(decide (u1.1<(4294967295:Int)),());letI k3:=(u3.1,u3.2.1,u4.1,u4.2.1,u5.1,());letI k4:=a0.1==(0:Int);letI k5:=u3.1 != (i64.wrap (u1.1-(1:Int)));letI k6:=k1==(32:Int);letI k7:=k1==(0:Int);.ob (Bs (a0.1,()) (0,()) (1,())) fun r1=>
 .br (!r1.1) (
 .leaf (false,())) (
 .br ((a0.2.1.length:Int) != 12) (
 .leaf (false,())) (
 .ob (Wi (u1.1,u1.2.1,u2.1,u2.2.1,u2.2.2.1,())) fun r2=>
 .br (!r2.1) (
 .leaf (false,())) (
 .br u5.2.1 (
 .br k4 (
 .ob (Wi k3) fun r3=>
 .br (!r3.1) (
 .leaf (false,())) (
 .br k5 (
 .leaf (false,())) (
 .ob (Bs (u5.2.2.1,()) (0,()) (1000005,())) fun r4=>
 .br (!r4.1) (
 .leaf (false,())) (
 .br k7 (
 .leaf (true,())) (
 .br k4 (
 .br k6 (
 .leaf k2) (
 .leaf (false,()))) (
 .leaf (false,()))))))) (
 .ob (Wi k3) fun r5=>
 .br (!r5.1) (
 .leaf (false,())) (
 .br k5 (
 .leaf (false,())) (
 .ob (Bs (u5.2.2.1,()) (-1,()) (1000005,())) fun r6=>
 .br (!r6.1) (
 .leaf (false,())) (
 .br k7 (
 .leaf (true,())) (
 .br k4 (
 .br k6 (
 .leaf k2) (
 .leaf (false,()))) (
 .leaf (false,())))))))) (
 .ob (Vb k3) fun r7=>
 .br (!r7.1) (
 .leaf (false,())) (
 .br (u5.2.2.1 != 0) (
 .leaf (false,())) (
 .br k7 (
 .leaf (true,())) (
 .br k4 (
 .br k6 (
 .leaf k2) (
 .leaf (false,()))) (
 .leaf (false,())))))))))
def Kr a0:=(Aqp a0).val
def A6t (a0 a1:YBs):Tree (Bool×Unit):=
 .leaf (decide ((Ht a0.1)=(Ht a1.1)),())
def Mz a0 a1:=(A6t a0 a1).val
def Aqq (a0:A8):Tree (Bool×Unit):=
 .ob (Bs (a0.1,()) (0,()) (4294967295,())) fun r1=>
 .br r1.1 (
 .ob (Bs (a0.2.1,()) (0,()) (65535,())) fun r2=>
 .leaf r2) (
 .leaf (false,()))
def Gr a0:=(Aqq a0).val
def I1:Lst (Int×Int×Int×Int×List Bb×Int×Int×List YB×Int×Unit) ((Bool×Unit)⊕(Int×Int×Int×List Bb×Unit)):=fun x6=>
 letI u1:=x6.2.2;letI u2:=u1.2.2;Tree.val <|
 .br (decide (x6.2.1<x6.1)) (
 .ob (idx u2.1 x6.2.1) fun e7=>
 .br (and (e7.1==u2.2.1) (and (e7.2.1==u2.2.2.1) true)) (
 .leaf (.inr (.inl (false,())))) (
 .leaf (.inl (x6.1,i64.wrap (x6.2.1+1),u1.1,u1.2.1,u2.1,u2.2.1,u2.2.2.1,u2.2.2.2.1,u2.2.2.2.2.1,())))) (
 .leaf (.inr (.inr (x6.1,u1.1,u1.2.1,u2.1,()))))
def Me:Lst (Int×Int×Int×List Bb×Unit) ((Bool×Unit)⊕(Unit)):=fun x2=>
 Tree.val <|
 .br (decide (x2.1<(x2.2.2.2.1.length:Int))) (
 .ob (idx x2.2.2.2.1 x2.1) fun e3=>
 .ob (Gr (e3.1,e3.2.1,())) fun r4=>
 .br (!r4.1) (
 .leaf (.inr (.inl (false,())))) (
 .br ((e3.2.2.1.length:Int) != 12) (
 .leaf (.inr (.inl (false,())))) (
 .ob (Bs (e3.2.2.2.1,()) (0,()) (1000006,())) fun r5=>
 .br (!r5.1) (
 .leaf (.inr (.inl (false,())))) (
 .br (and (e3.1==x2.2.1) (and (e3.2.1==x2.2.2.1) true)) (
 .leaf (.inr (.inl (false,())))) (
 .ob (A0 I1 (x2.1,0,x2.2.1,x2.2.2.1,x2.2.2.2.1,e3.1,e3.2.1,e3.2.2.1,e3.2.2.2.1,())) fun o8=>
 .sm o8 (fun o9=>
 .leaf (.inr (.inl o9))) (fun o10=>
 .leaf (.inl (i64.wrap (o10.1+1),o10.2.1,o10.2.2.1,o10.2.2.2.1,())))))))) (
 .leaf (.inr (.inr ())))
def Aci (a0:Bn):Tree (Bool×Unit):=
 .ob (Gr (a0.1,a0.2.1,())) fun r1=>
 .br (!r1.1) (
 .leaf (false,())) (
 .br (decide ((a0.2.2.1.length:Int)>3)) (
 .leaf (false,())) (
 .ob (A0 Me (0,a0.1,a0.2.1,a0.2.2.1,())) fun o11=>
 .sm o11 (fun o12=>
 .leaf o12) (fun o13=>
 .leaf (true,()))))
def Q6 a0:=(Aci a0).val
def Aqr (a0:Al):Tree (Bool×Unit):=
 letI u1:=a0.2.2.2;letI u2:=u1.2.2;letI u3:=u2.2.2;letI u4:=u3.2.2;letI u5:=u4.2.2;letI u6:=u5.2.2;letI u7:=u6.2.2;letI u8:=u7.2.2.2;letI u9:=u8.2.2.2;letI k1:=(u1.1,u1.2.1,u2.1,u2.2.1,u3.1,u3.2.1,u4.1,u4.2.1,u5.1,u5.2.1,u6.1,u6.2.1,u7.1,u7.2.1,u7.2.2.1,());.ob (Bs (a0.1,()) (1,()) (9,())) fun r1=>
 .br (!r1.1) (
 .leaf (false,())) (
 .br ((a0.2.1.length:Int) != 12) (
 .leaf (false,())) (
 .br ((a0.2.2.1.length:Int) != 12) (
 .leaf (false,())) (
 .ob (Bs (u9.1,()) (0,()) (1000000,())) fun r2=>
 .br (!r2.1) (
 .leaf (false,())) (
 .ob (Bs (u9.2.1,()) (0,()) (1000000,())) fun r3=>
 .br (!r3.1) (
 .leaf (false,())) (
 .br u9.2.2.1 (
 .ob (Ae8 k1) fun r4=>
 .br r4.1 (
 .ob (Kd (-1,())) fun r5=>
 .br (and (u8.1==r5.1) (and (u8.2.1==r5.2.1) true)) (
 .br ((a0.2.2.2.2.2.2.2.2.2.2.2.2.2.2.2.2.2.2.2.2.1.length:Int)==0) (
 .leaf (u9.2.1==0,())) (
 .leaf (false,()))) (
 .leaf (false,()))) (
 .leaf (false,()))) (
 .ob (Kr k1) fun r6=>
 .br r6.1 (
 .br (u1.1==1) (
 .ob (Mz (u1.2.1,()) (a0.2.2.1,())) fun r7=>
 .br r7.1 (
 .ob (Q6 (u8.1,u8.2.1,u8.2.2.1,())) fun r8=>
 .leaf r8) (
 .leaf (false,()))) (
 .leaf (false,()))) (
 .leaf (false,()))))))))
def Po a0:=(Aqr a0).val
def Rx:Lst (List YB×Int×Int×List Al×Unit) (YI⊕(Unit)):=fun x1=>
 Tree.val <|
 .br (decide (x1.2.1<(x1.2.2.2.1.length:Int))) (
 .ob (idx x1.2.2.2.1 x1.2.1) fun e2=>
 .ob (Mz (e2.2.2.1,()) (x1.1,())) fun r3=>
 .br r3.1 (
 .leaf (.inr (.inl (x1.2.1,())))) (
 .leaf (.inl (x1.1,i64.wrap (x1.2.1+1),x1.2.2.1,x1.2.2.2.1,())))) (
 .leaf (.inr (.inr ())))
def Aqs (a0:Ck) (a1:YBs):Tree (YI):=
 .ob (A0 Rx (a1.1,0,a0.1,a0.2.1,())) fun o4=>
 .sm o4 (fun o5=>
 .leaf o5) (fun o6=>
 .leaf (-1,()))
def T5 a0 a1:=(Aqs a0 a1).val
def Uw:Lst (Int×Int×List Al×Unit) ((Bool×Unit)⊕(Unit)):=fun x3=>
 Tree.val <|
 .br (decide (x3.1<(x3.2.2.1.length:Int))) (
 .ob (idx x3.2.2.1 x3.1) fun e4=>
 .ob (Po e4) fun r5=>
 .br (!r5.1) (
 .leaf (.inr (.inl (false,())))) (
 .ob (idx x3.2.2.1 x3.1) fun e6=>
 .ob (T5 (x3.2.1,x3.2.2.1,()) (e6.2.2.1,())) fun r7=>
 .br (r7.1 != x3.1) (
 .leaf (.inr (.inl (false,())))) (
 .leaf (.inl (i64.wrap (x3.1+1),x3.2.1,x3.2.2.1,()))))) (
 .leaf (.inr (.inr ())))
def Axb (a0:Ck):Tree (Bool×Unit):=
 .ob (Bs (a0.1,()) (1,()) (6,())) fun r1=>
 .br (!r1.1) (
 .leaf (false,())) (
 .br (decide ((a0.2.1.length:Int)>12)) (
 .leaf (false,())) (
 .ob (Aio a0) fun r2=>
 .br (decide (r2.1>a0.1)) (
 .leaf (false,())) (
 .ob (A0 Uw (0,a0.1,a0.2.1,())) fun o8=>
 .sm o8 (fun o9=>
 .leaf o9) (fun o10=>
 .leaf (true,())))))
def Akh a0:=(Axb a0).val
def Id:Lst (List An×Int×Int×Unit) ((Bool×Unit)⊕(List An×Int×Unit)):=fun x9=>
 Tree.val <|
 .br (decide (x9.2.2.1<x9.2.1)) (
 .ob (idx x9.1 x9.2.2.1) fun e10=>
 .ob (idx x9.1 x9.2.1) fun e11=>
 .br (and (e10.1==e11.1) (and (e10.2.1==e11.2.1) true)) (
 .leaf (.inr (.inl (false,())))) (
 .leaf (.inl (x9.1,x9.2.1,i64.wrap (x9.2.2.1+1),())))) (
 .leaf (.inr (.inr (x9.1,x9.2.1,()))))
def Jz:Lst (List An×Int×Unit) ((Bool×Unit)⊕(Unit)):=fun x1=>
 letI k1:=idx x1.1 x1.2.1; Tree.val <|
 .br (decide (x1.2.1<(x1.1.length:Int))) (
 .ob k1 fun e2=>
 .ob (Gr (e2.1,e2.2.1,())) fun r3=>
 .br (!r3.1) (
 .leaf (.inr (.inl (false,())))) (
 .ob k1 fun e4=>
 .ob (Bs (e4.2.2.1,()) (0,()) (1000000,())) fun r5=>
 .br (!r5.1) (
 .leaf (.inr (.inl (false,())))) (
 .ob k1 fun e6=>
 .ob k1 fun e7=>
 .ob (Bs (e6.2.2.2.1,()) (0,()) (i64.wrap (3*e7.2.2.1),())) fun r8=>
 .br (!r8.1) (
 .leaf (.inr (.inl (false,())))) (
 .ob (A0 Id (x1.1,x1.2.1,0,())) fun o12=>
 .sm o12 (fun o13=>
 .leaf (.inr (.inl o13))) (fun o14=>
 .leaf (.inl (o14.1,i64.wrap (o14.2.1+1),()))))))) (
 .leaf (.inr (.inr ())))
def Vu (a0:List An×Unit):Tree (Bool×Unit):=
 .br (decide ((a0.1.length:Int)>8)) (
 .leaf (false,())) (
 .ob (A0 Jz (a0.1,0,())) fun o15=>
 .sm o15 (fun o16=>
 .leaf o16) (fun o17=>
 .leaf (true,())))
def Mn a0:=(Vu a0).val
def Axc (a0:YBs):Tree (Bool×Unit):=
 .ob (Bs ((a0.1.length:Int),()) (1,()) (32,())) fun r1=>
 .leaf r1
def Sm a0:=(Axc a0).val
def Lc:Lst (Int×List YBs×List YB×List YB×Int×Int×List Al×List An×Unit) ((Bool×Unit)⊕Bc):=fun x6=>
 letI u1:=x6.2.2;letI u2:=u1.2.2.2;Tree.val <|
 .br (decide (x6.1<(x6.2.1.length:Int))) (
 .ob (idx x6.2.1 x6.1) fun e7=>
 .ob (Sm e7) fun r8=>
 .br (!r8.1) (
 .leaf (.inr (.inl (false,())))) (
 .leaf (.inl (i64.wrap (x6.1+1),x6.2.1,u1.1,u1.2.1,u1.2.2.1,u2.1,u2.2.1,u2.2.2.1,())))) (
 .leaf (.inr (.inr (x6.2.1,u1.1,u1.2.1,u1.2.2.1,u2.1,u2.2.1,u2.2.2.1,()))))
def Ld:Lst (Int×List YBs×List YB×List YB×Int×Int×List Al×List An×Unit) ((Bool×Unit)⊕(Unit)):=fun x12=>
 letI u1:=x12.2.2.2.2;Tree.val <|
 .br (decide (x12.1<(x12.2.2.2.2.2.2.1.length:Int))) (
 .ob (idx u1.2.2.1 x12.1) fun e13=>
 .br (decide (e13.1>(x12.2.1.length:Int))) (
 .leaf (.inr (.inl (false,())))) (
 .leaf (.inl (i64.wrap (x12.1+1),x12.2.1,x12.2.2.1,x12.2.2.2.1,u1.1,u1.2.1,u1.2.2.1,u1.2.2.2.1,())))) (
 .leaf (.inr (.inr ())))
def Xw (a0:Bc):Tree (Bool×Unit):=
 letI u1:=a0.2.2;letI u2:=u1.2.2;.ob (Bs ((a0.1.length:Int),()) (1,()) (9,())) fun r1=>
 .br (!r1.1) (
 .leaf (false,())) (
 .ob (Akf (a0.2.1,())) fun r2=>
 .br (!r2.1) (
 .leaf (false,())) (
 .ob (Afy (u1.1,u1.2.1,())) fun r3=>
 .br (!r3.1) (
 .leaf (false,())) (
 .ob (Akh (u2.1,u2.2.1,())) fun r4=>
 .br (!r4.1) (
 .leaf (false,())) (
 .ob (Mn (u2.2.2.1,())) fun r5=>
 .br (!r5.1) (
 .leaf (false,())) (
 .ob (A0 Lc (0,a0.1,a0.2.1,u1.1,u1.2.1,u2.1,u2.2.1,u2.2.2.1,())) fun o9=>
 .sm o9 (fun o10=>
 .leaf o10) (fun o11=>letI u3:=o11.2.2.2;
 .ob (A0 Ld (0,o11.1,o11.2.1,o11.2.2.1,u3.1,u3.2.1,u3.2.2.1,u3.2.2.2.1,())) fun o14=>
 .sm o14 (fun o15=>
 .leaf o15) (fun o16=>
 .leaf (true,()))))))))
def So a0:=(Xw a0).val
def J0:Lst (List YBs×Int×List YBs×List YB×List YB×Int×Int×List Al×List An×List YBs×List YB×List YB×Int×Int×List Al×List An×Unit) (List YBs×List YB×List YB×Int×Int×List Al×List An×List YBs×List YB×List YB×Int×Int×List Al×List An×Unit):=fun x4=>
 letI u1:=x4.2.2;letI u2:=u1.2.2;letI u3:=u2.2.2;letI u4:=u3.2.2;letI u5:=u4.2.2;letI u6:=u5.2.2.2;Tree.val <|
 .br (decide (x4.2.1<(x4.1.length:Int))) (
 .ob (idx x4.1 x4.2.1) fun e5=>letI k1:=(([]:List YB)++e5.1,());
 .chk (decide (([]:List YB).length+e5.1.length<=4294967296)) <|
 .chk (decide (x4.2.2.2.2.2.2.2.2.2.1.length+[k1].length<=4294967296)) <|
 .leaf (.inl (x4.1,i64.wrap (x4.2.1+1),u1.1,u1.2.1,u2.1,u2.2.1,u3.1,u3.2.1,u4.1,u4.2.1++[k1],u5.1,u5.2.1,u5.2.2.1,u6.1,u6.2.1,u6.2.2.1,()))) (
 .leaf (.inr (u1.1,u1.2.1,u2.1,u2.2.1,u3.1,u3.2.1,u4.1,u4.2.1,u5.1,u5.2.1,u5.2.2.1,u6.1,u6.2.1,u6.2.2.1,())))
def Aei (a0:List YBs×Unit) (a1:YBs) (a2:YI):Tree (Bc):=
 .ob (Ain (a1.1,0,())) fun r1=>
 .ob (Z0 r1.2) fun r2=>
 .ob (Z1 a2) fun r3=>
 .ob (A0 J0 (a0.1,0,[],[],[],0,0,[],[],[],r2.1,r1.1.1,r1.1.2.1,r3.1,r3.2.1,[],())) fun o6=>letI u1:=o6.2.2.2.2.2.2.2;letI u2:=u1.2.2;letI u3:=u2.2.2;letI k1:=(u1.1,u1.2.1,u2.1,u2.2.1,u3.1,u3.2.1,u3.2.2.1,());
 .ob (So k1) fun r7=>
 .br (!r7.1) (
 .leaf ([],[],[],0,0,[],[],())) (
 .leaf k1)
def Ae9 a0 a1 a2:=(Aei a0 a1 a2).val
def Aej (a0:Aw):Tree (Ap×Aw):=
 .ob (Ci a0 (12,())) fun r1=>
 .ob (Ci (a0.1,r1.2.2.1,r1.2.2.2.1,()) (12,())) fun r2=>
 .ob (Be (a0.1,r2.2.2.1,r2.2.2.2.1,()) (300,())) fun r3=>
 .ob (Ci (a0.1,r3.2.2.1,r3.2.2.2.1,()) (16,())) fun r4=>
 .leaf ((2,0,r1.1.1,r2.1.1,r3.1.1,r4.1.1,[],0,0,[],[],()),(a0.1,r4.2.2.1,r4.2.2.2.1,()))
def Afa a0:=(Aej a0).val
def Aqt (a0:YI):Tree (Bool×Unit):=
 .ob (Bs a0 (4,()) (8,())) fun r1=>
 .leaf r1
def M0 a0:=(Aqt a0).val
def Aqu (a0 a1:YI):Tree (Bool×Unit):=
 .br (a0.1==4) (
 .leaf (decide (a1.1<=40),())) (
 .br (a0.1==5) (
 .leaf (a1.1==12,())) (
 .br (a0.1==6) (
 .leaf (a1.1==12,())) (
 .leaf (a1.1==4,()))))
def Z2 a0 a1:=(Aqu a0 a1).val
def Alo (a0:Ap):Tree (Bool×Unit):=
 letI u1:=a0.2.2.2.2;letI u2:=u1.2.2.2;letI k1:=(a0.2.2.2.2.2.2.1.length:Int);letI k2:=(a0.2.2.2.2.2.1.length:Int);letI k3:=(a0.2.2.2.1.length:Int)==(12:Int);letI k4:=Bs (u1.1,()) ((0:Int),()) ((1000000:Int),());letI k5:=Bs (a0.2.1,()) ((1:Int),()) ((9:Int),());letI k6:=(a0.2.2.2.2.2.2.2.2.2.2.1.length:Int);letI k7:=(a0.2.2.2.2.2.2.2.2.2.1.length:Int);letI k8:=k1==(0:Int);.ob (M0 (a0.1,())) fun r1=>
 .br r1.1 (
 .br (a0.2.1==0) (
 .br ((a0.2.2.1.length:Int)==0) (
 .br k3 (
 .br (u1.1==0) (
 .br (k2==0) (
 .br k8 (
 .ob (Bs (u2.1,()) (0,()) (4294967295,())) fun r2=>
 .br r2.1 (
 .ob (Bs (u2.2.1,()) (0,()) (281474976710655,())) fun r3=>
 .br r3.1 (
 .ob (Z2 (a0.1,()) (k7,())) fun r4=>
 .br r4.1 (
 .leaf (k6==16,())) (
 .leaf (false,()))) (
 .leaf (false,()))) (
 .leaf (false,()))) (
 .leaf (false,()))) (
 .leaf (false,()))) (
 .leaf (false,()))) (
 .leaf (false,()))) (
 .leaf (false,()))) (
 .leaf (false,()))) (
 .br (u2.1 != 0) (
 .leaf (false,())) (
 .br (u2.2.1 != 0) (
 .leaf (false,())) (
 .br (k7 != 0) (
 .leaf (false,())) (
 .br (k6 != 0) (
 .leaf (false,())) (
 .br ((a0.2.2.1.length:Int) != 12) (
 .leaf (false,())) (
 .br (a0.1==1) (
 .ob k5 fun r5=>
 .br r5.1 (
 .br ((a0.2.2.2.1.length:Int)==0) (
 .br (u1.1==0) (
 .br (k2==0) (
 .leaf (k8,())) (
 .leaf (false,()))) (
 .leaf (false,()))) (
 .leaf (false,()))) (
 .leaf (false,()))) (
 .br (a0.1==2) (
 .br (a0.2.1==0) (
 .br k3 (
 .ob k4 fun r6=>
 .br r6.1 (
 .br (k2==16) (
 .leaf (k8,())) (
 .leaf (false,()))) (
 .leaf (false,()))) (
 .leaf (false,()))) (
 .leaf (false,()))) (
 .br (a0.1==3) (
 .ob k5 fun r7=>
 .br r7.1 (
 .br k3 (
 .ob k4 fun r8=>
 .br r8.1 (
 .br (k2==16) (
 .leaf (k1==16,())) (
 .leaf (false,()))) (
 .leaf (false,()))) (
 .leaf (false,()))) (
 .leaf (false,()))) (
 .leaf (false,()))))))))))
def I9 a0:=(Alo a0).val
def Acj (a0 a1:YBs):Tree (YBs):=
 .ob (Wh a0 a1) fun r1=>
 .leaf r1
def Ac4 a0 a1:=(Acj a0 a1).val
def Ael (a0:YBs):Tree (YBs):=
 .ob (Sm a0) fun r1=>
 .br (!r1.1) (
 .leaf ([],())) (
 .ob (Ac4 ([(114,()),(111,()),(97,()),(109,())],()) a0) fun r2=>
 .ob (Eb r2 (Dq [102,105,110,105,115,104],())) fun r3=>
 .leaf r3)
def V3 a0:=(Ael a0).val
def Aen (a0:YI) (a1 a2:YBs) (a3:YI) (a4:YBs):Tree (YBs):=
 .ob (Bs a0 (1,()) (9,())) fun r1=>
 .br (!r1.1) (
 .leaf ([],())) (
 .br ((a1.1.length:Int) != 12) (
 .leaf ([],())) (
 .br ((a2.1.length:Int) != 12) (
 .leaf ([],())) (
 .ob (Bs a3 (0,()) (1000000,())) fun r2=>
 .br (!r2.1) (
 .leaf ([],())) (
 .br ((a4.1.length:Int) != 16) (
 .leaf ([],())) (
 .chk (decide ([((102:Int),()),(u8.wrap a0.1,())].length+a1.1.length<=4294967296)) <|
 .chk (decide (([((102:Int),()),(u8.wrap a0.1,())]++a1.1).length+a2.1.length<=4294967296)) <|
 .ob (Fb (([((102:Int),()),(u8.wrap a0.1,())]++a1.1)++a2.1,()) a3 (4,())) fun r3=>
 .chk (decide (r3.1.length+a4.1.length<=4294967296)) <|
 .leaf (r3.1++a4.1,()))))))
def V4 a0 a1 a2 a3 a4:=(Aen a0 a1 a2 a3 a4).val
def Bac (a0 a1:YBs):Tree (YBs):=
 .ob (Wh a0 a1) fun r1=>letI k1:=(r1.1.take (16:Int).toNat).drop (0:Int).toNat;
 .br (decide ((r1.1.length:Int)<16)) (
 .leaf ([],())) (
 .chk (decide (16<=(r1.1.length:Int))) <|
 .chk (decide (([]:List YB).length+k1.length<=4294967296)) <|
 .leaf (([]:List YB)++k1,()))
def Agl a0 a1:=(Bac a0 a1).val
def Axf (a0:YBs) (a1:YI) (a2 a3:YBs) (a4:YI) (a5:YBs):Tree (YBs):=
 .ob (V3 a0) fun r1=>
 .ob (V4 a1 a2 a3 a4 a5) fun r2=>
 .br ((r1.1.length:Int)==0) (
 .leaf ([],())) (
 .br ((r2.1.length:Int)==0) (
 .leaf ([],())) (
 .ob (Agl r1 r2) fun r3=>
 .leaf r3))
def W7 a0 a1 a2 a3 a4 a5:=(Axf a0 a1 a2 a3 a4 a5).val
def Aqx (a0:Ap):Tree (Ap):=
 letI u1:=a0.2.2.2;letI u2:=u1.2.2.2;.chk (decide (([]:List YB).length+a0.2.2.1.length<=4294967296)) <|
 .chk (decide (([]:List YB).length+a0.2.2.2.1.length<=4294967296)) <|
 .chk (decide (([]:List YB).length+a0.2.2.2.2.2.1.length<=4294967296)) <|
 .chk (decide (([]:List YB).length+a0.2.2.2.2.2.2.1.length<=4294967296)) <|
 .chk (decide (([]:List YB).length+a0.2.2.2.2.2.2.2.2.2.1.length<=4294967296)) <|
 .chk (decide (([]:List YB).length+a0.2.2.2.2.2.2.2.2.2.2.1.length<=4294967296)) <|
 .leaf (a0.1,a0.2.1,([]:List YB)++a0.2.2.1,([]:List YB)++u1.1,u1.2.1,([]:List YB)++u1.2.2.1,([]:List YB)++u2.1,u2.2.1,u2.2.2.1,([]:List YB)++u2.2.2.2.1,([]:List YB)++u2.2.2.2.2.1,())
def Afz a0:=(Aqx a0).val
def Xx (a0:YBs) (a1:YI) (a2:Ap):Tree (Ap×(Bool×Unit)):=
 .ob (I9 a2) fun r1=>
 .br (!r1.1) (
 .leaf ((0,0,[],[],0,[],[],0,0,[],[],()),(false,()))) (
 .br (a2.1 != 2) (
 .leaf ((0,0,[],[],0,[],[],0,0,[],[],()),(false,()))) (
 .ob (W7 a0 a1 (a2.2.2.1,()) (a2.2.2.2.1,()) (a2.2.2.2.2.1,()) (a2.2.2.2.2.2.1,())) fun r2=>
 .br ((r2.1.length:Int)==0) (
 .leaf ((0,0,[],[],0,[],[],0,0,[],[],()),(false,()))) (
 .ob (Afz a2) fun r3=>letI u1:=r3.2.2.2;letI u2:=u1.2.2.2.2;
 .leaf ((3,a1.1,r3.2.2.1,u1.1,u1.2.1,u1.2.2.1,r2.1,u2.1,u2.2.1,u2.2.2.1,u2.2.2.2.1,()),(true,())))))
def Lx a0 a1 a2:=(Xx a0 a1 a2).val
def Aj0 (a0:Aw) (a1:List YI×Unit):Tree (YI×Aw):=
 .ob (Be a0 ((a1.1.length:Int),())) fun r1=>
 .ob (idx a1.1 r1.1.1) fun e2=>
 .leaf (e2,(a0.1,r1.2.2.1,r1.2.2.2.1,()))
def Bp a0 a1:=(Aj0 a0 a1).val
def Alq (a0 a1 a2:YBs):Tree (YBs):=
 .ob (Sm a0) fun r1=>
 .br (!r1.1) (
 .leaf ([],())) (
 .br ((a1.1.length:Int) != 12) (
 .leaf ([],())) (
 .br ((a2.1.length:Int) != 12) (
 .leaf ([],())) (
 .chk (decide (([]:List YB).length+a1.1.length<=4294967296)) <|
 .chk (decide ((([]:List YB)++a1.1).length+a2.1.length<=4294967296)) <|
 .ob (Ac4 ((([]:List YB)++a1.1)++a2.1,()) a0) fun r2=>
 .leaf r2)))
def Am8 a0 a1 a2:=(Alq a0 a1 a2).val
def Ag6 (a0:YBs):Tree (YBs):=
 .br ((a0.1.length:Int) != 32) (
 .leaf ([],())) (
 .ob (Eb a0 (Dq [101,112,111,99,104],())) fun r1=>
 .leaf r1)
def Aip a0:=(Ag6 a0).val
def Q0:Lst (Int×List YB×Int×Unit) (YBs):=fun x2=>
 Tree.val <|
 .br (decide (x2.2.2.1<x2.1)) (
 .ob (Eb (x2.2.1,()) (Dq [114,101,107,101,121],())) fun r3=>
 .leaf (.inl (x2.1,r3.1,i64.wrap (x2.2.2.1+1),()))) (
 .leaf (.inr (x2.2.1,())))
def Axh (a0:YBs) (a1:YI):Tree (YBs):=
 .ob (Bs a1 (0,()) (64,())) fun r1=>
 .br (!r1.1) (
 .leaf ([],())) (
 .chk (decide (([]:List YB).length+a0.1.length<=4294967296)) <|
 .ob (A0 Q0 (a1.1,([]:List YB)++a0.1,0,())) fun o4=>
 .leaf o4)
def Aze a0 a1:=(Axh a0 a1).val
def Ag7 (a0 a1 a2:YBs) (a3:YI):Tree (YBs):=
 .ob (Am8 a0 a1 a2) fun r1=>
 .ob (Aip r1) fun r2=>
 .br ((r2.1.length:Int)==0) (
 .leaf r2) (
 .ob (Aze r2 a3) fun r3=>
 .leaf r3)
def Z3 a0 a1 a2 a3:=(Ag7 a0 a1 a2 a3).val
def N7:Lst (Int×Int×List YI×Int×List YI×Unit) (Int×List YI×Int×List YI×Unit):=fun x1=>
 letI u1:=x1.2.2;Tree.val <|
 .br (decide (x1.1<32)) (
 .chk (decide (x1.2.2.2.2.1.length+[((0:Int),())].length<=4294967296)) <|
 .leaf (.inl (i64.wrap (x1.1+1),x1.2.1,u1.1,u1.2.1,u1.2.2.1++[((0:Int),())],()))) (
 .leaf (.inr (x1.2.1,u1.1,u1.2.1,u1.2.2.1,())))
def Aqz:Tree (Dg):=
 .ob (A0 N7 (0,0,[],-1,[],())) fun o2=>
 .leaf (o2.2.2.1,o2.2.2.2.1,())
def Af0:=Aqz.val
def Ado (a0:YI) (a1:YBs):Tree (YEp):=
 .ob (Bs a0 (0,()) (4294967295,())) fun r1=>
 .br (!r1.1) (
 .leaf (0,[],0,0,[],())) (
 .br ((a1.1.length:Int) != 32) (
 .leaf (0,[],0,0,[],())) (
 .chk (decide (([]:List YB).length+a1.1.length<=4294967296)) <|
 .ob Af0 fun r2=>
 .leaf (a0.1,([]:List YB)++a1.1,0,r2.1,r2.2.1,())))
def Gl a0 a1:=(Ado a0 a1).val
def Ux (a0:YI) (a1 a2:YBs):Tree (Au):=
 .ob (Bs a0 (0,()) (1,())) fun r1=>
 .br (!r1.1) (
 .leaf (0,[],0,[],0,0,[],0,[],0,0,[],false,0,[],())) (
 .br ((a1.1.length:Int) != 12) (
 .leaf (0,[],0,[],0,0,[],0,[],0,0,[],false,0,[],())) (
 .br ((a2.1.length:Int) != 32) (
 .leaf (0,[],0,[],0,0,[],0,[],0,0,[],false,0,[],())) (
 .chk (decide (([]:List YB).length+a1.1.length<=4294967296)) <|
 .ob (Gl (0,()) a2) fun r2=>
 .leaf (a0.1,([]:List YB)++a1.1,r2.1,r2.2.1,r2.2.2.1,r2.2.2.2.1,r2.2.2.2.2.1,0,[],0,0,[],false,0,[],()))))
def Ja a0 a1 a2:=(Ux a0 a1 a2).val
def Ag9 (a0:A8):Tree (Bn):=
 .leaf (a0.1,a0.2.1,[],())
def Sp a0:=(Ag9 a0).val
def Uy (a0:YBs) (a1:YI) (a2:A8) (a3:Ap):Tree (Al):=
 letI u1:=a3.2.2;.ob (Sm a0) fun r1=>
 .br (!r1.1) (
 .leaf (0,[],[],0,[],0,[],0,0,[],0,[],0,0,[],false,0,[],0,0,[],0,0,false,())) (
 .ob (Bs a1 (0,()) (1000000,())) fun r2=>
 .br (!r2.1) (
 .leaf (0,[],[],0,[],0,[],0,0,[],0,[],0,0,[],false,0,[],0,0,[],0,0,false,())) (
 .ob (Gr a2) fun r3=>
 .br (!r3.1) (
 .leaf (0,[],[],0,[],0,[],0,0,[],0,[],0,0,[],false,0,[],0,0,[],0,0,false,())) (
 .ob (I9 a3) fun r4=>
 .br (!r4.1) (
 .leaf (0,[],[],0,[],0,[],0,0,[],0,[],0,0,[],false,0,[],0,0,[],0,0,false,())) (
 .br (a3.1 != 3) (
 .leaf (0,[],[],0,[],0,[],0,0,[],0,[],0,0,[],false,0,[],0,0,[],0,0,false,())) (
 .chk (decide (([]:List YB).length+a3.2.2.1.length<=4294967296)) <|
 .chk (decide (([]:List YB).length+a3.2.2.2.1.length<=4294967296)) <|
 .ob (Z3 a0 (u1.1,()) (u1.2.1,()) (0,())) fun r5=>
 .ob (Ja (1,()) (u1.2.1,()) r5) fun r6=>letI u2:=r6.2.2.2;letI u3:=u2.2.2.2;letI u4:=u3.2.2.2.2;
 .ob (Sp a2) fun r7=>
 .leaf (a3.2.1,([]:List YB)++u1.1,([]:List YB)++u1.2.1,r6.1,r6.2.1,r6.2.2.1,u2.1,u2.2.1,u2.2.2.1,u3.1,u3.2.1,u3.2.2.1,u3.2.2.2.1,u4.1,u4.2.1,u4.2.2.1,u4.2.2.2.1,u4.2.2.2.2.1,r7.1,r7.2.1,r7.2.2.1,u1.2.2.1,a1.1,false,()))))))
def Nt a0 a1 a2 a3:=(Uy a0 a1 a2 a3).val
def Aq0 (a0:Aw) (a1:YI):Tree ((Bool×Unit)×Aw):=
 .ob (Be a0 a1) fun r1=>
 .leaf ((r1.1.1==0,()),(a0.1,r1.2.2.1,r1.2.2.2.1,()))
def Ax a0 a1:=(Aq0 a0 a1).val
def Xy:Lst (List YI×Int×Int×List YB×Int×Int×Unit) (List YI×List YB×Int×Int×Unit):=fun x3=>
 letI u1:=x3.2.2.2;letI k4:=i64.wrap (x3.2.2.1-(1:Int));Tree.val <|
 .br (decide (x3.2.2.1>0)) (
 .ob (Ax (u1.1,u1.2.1,u1.2.2.1,()) (6,())) fun r4=>letI k3:=(u1.1,r4.2.2.1,r4.2.2.2.1,());
 .br r4.1.1 (
 .ob (Bp k3 ([(1,()),(32,()),(900,()),(1023,()),(1024,()),(1025,()),(3000,())],())) fun r5=>letI k5:=i64.wrap (x3.2.1+r5.1.1);
 .ob (Be (u1.1,r5.2.2.1,r5.2.2.2.1,()) (40,())) fun r6=>
 .ob (Bp (u1.1,r6.2.2.1,r6.2.2.2.1,()) ([(0,()),(0,()),(20,()),(1000,())],())) fun r7=>letI k1:=(i64.wrap (i64.wrap (k5+r6.1.1)-r7.1.1),());
 .chk (decide (x3.1.length+[k1].length<=4294967296)) <|
 .leaf (.inl (x3.1++[k1],k5,k4,u1.1,r7.2.2.1,r7.2.2.2.1,()))) (
 .ob (Be k3 (40,())) fun r8=>
 .ob (Bp (u1.1,r8.2.2.1,r8.2.2.2.1,()) ([(0,()),(0,()),(20,()),(1000,())],())) fun r9=>letI k2:=(i64.wrap (i64.wrap (x3.2.1+r8.1.1)-r9.1.1),());
 .chk (decide (x3.1.length+[k2].length<=4294967296)) <|
 .leaf (.inl (x3.1++[k2],x3.2.1,k4,u1.1,r9.2.2.1,r9.2.2.2.1,())))) (
 .leaf (.inr (x3.1,u1.1,u1.2.1,u1.2.2.1,())))
def Aq1 (a0:Aw) (a1:YI):Tree ((List YI×Unit)×Aw):=
 .ob (Bp a0 ([(0,()),(0,()),(0,()),(1000,()),(5000,()),(281474976710000,())],())) fun r1=>
 .ob (Be (a0.1,r1.2.2.1,r1.2.2.2.1,()) (i64.wrap (a1.1+1),())) fun r2=>
 .ob (A0 Xy ([],r1.1.1,r2.1.1,a0.1,r2.2.2.1,r2.2.2.2.1,())) fun o10=>
 .ob (Ax (o10.2.1,o10.2.2.1,o10.2.2.2.1,()) (5,())) fun r11=>letI k1:=(o10.2.1,r11.2.2.1,r11.2.2.2.1,());
 .br r11.1.1 (
 .ob (Bp k1 ([(-1,()),(281474976710655,()),(281474976710656,())],())) fun r12=>
 .chk (decide (o10.1.length+[r12.1].length<=4294967296)) <|
 .leaf ((o10.1++[r12.1],()),(o10.2.1,r12.2.2.1,r12.2.2.2.1,()))) (
 .leaf ((o10.1,()),k1))
def Ate a0 a1:=(Aq1 a0 a1).val
def A60 (a0:Dg):Tree (Dg):=
 .chk (decide (([]:List YI).length+a0.2.1.length<=4294967296)) <|
 .leaf (a0.1,([]:List YI)++a0.2.1,())
def Atf a0:=(A60 a0).val
def Alt (a0:YI):Tree (YI):=
 .br (decide (a0.1<1024)) (
 .leaf (0,())) (
 .leaf (i64.wrap (i64.wrap (a0.1-1024)+1),()))
def A24 a0:=(Alt a0).val
def Aq4 (a0:Dg) (a1:YI):Tree (Bool×Unit):=
 .ob (Akg a0) fun r1=>
 .br (!r1.1) (
 .leaf (false,())) (
 .ob (Bs a1 (0,()) (281474976710655,())) fun r2=>
 .br (!r2.1) (
 .leaf (false,())) (
 .br (decide (a1.1>a0.1)) (
 .leaf (true,())) (
 .ob (A24 (a0.1,())) fun r3=>
 .br (decide (a1.1≥r3.1)) (
 .ob (Ady a0 a1) fun r4=>
 .leaf (!r4.1,())) (
 .leaf (false,())))))
def Af1 a0 a1:=(Aq4 a0 a1).val
def N8:Lst (Int×Int×Int×Int×List YI×Int×List YI×Int×List YI×Unit) (Int×Int×List YI×Int×List YI×Int×List YI×Unit):=fun x3=>
 letI u1:=x3.2.2;letI u2:=u1.2.2;letI u3:=u2.2.2;letI k1:=u1.1%(1024:Int);letI k2:=(x3.1,u1.2.1,u2.1,u2.2.1,u3.1,u3.2.1,u3.2.2.1,());letI k3:=decide ((0:Int)<=k1);letI k4:=idx u3.2.2.1 (k1/(32:Int));Tree.val <|
 .br (decide (u1.1<=x3.1)) (
 .br (decide (x3.2.1<1024)) (
 .chk (decide (0<=u1.1)) <|
 .chk k3 <|
 .chk k3 <|
 .ob k4 fun e4=>
 .chk k3 <|
 .chk (decide (0<=(k1%32))) <|
 .ob k4 fun e5=>
 let q6:=(x3.2.2.2.2.2.2.2.2.1.set (k1/(32:Int)).toNat (i64.wrap ((BitVec.ofInt i64.bits e4.1 &&& ~~~ BitVec.ofInt i64.bits (i64.wrap ((1:Int)*2^(min (k1%32).toNat i64.bits)))).toNat:Nat),()))
 .leaf (.inl (x3.1,i64.wrap (x3.2.1+1),i64.wrap (u1.1+1),u1.2.1,u2.1,u2.2.1,u3.1,u3.2.1,q6,()))) (
 .leaf (.inr k2))) (
 .leaf (.inr k2))
def Aq6 (a0:Dg) (a1:YI):Tree (Dg×(Bool×Unit)):=
 .ob (Atf a0) fun r1=>
 .ob (Af1 a0 a1) fun r2=>
 .br (!r2.1) (
 .leaf (r1,(false,()))) (
 .ob (A0 N8 (a1.1,0,i64.wrap (a0.1+1),a0.1,a0.2.1,0,[],r1.1,r1.2.1,())) fun o7=>letI u1:=o7.2.2.2.2.2;letI k1:=o7.1%(1024:Int);letI k2:=decide ((0:Int)<=k1);letI k3:=idx u1.2.1 (k1/(32:Int));
 .chk (decide (0<=o7.1)) <|
 .chk k2 <|
 .chk k2 <|
 .ob k3 fun e8=>
 .chk k2 <|
 .chk (decide (0<=(k1%32))) <|
 .ob k3 fun e9=>
 let q10:=(o7.2.2.2.2.2.2.1.set (k1/(32:Int)).toNat (i64.wrap ((BitVec.ofInt i64.bits e8.1 ||| BitVec.ofInt i64.bits (i64.wrap ((1:Int)*2^(min (k1%32).toNat i64.bits)))).toNat:Nat),()))
 .br (decide (o7.1>o7.2.1)) (
 .leaf ((o7.1,q10,()),(true,()))) (
 .leaf ((u1.1,q10,()),(true,()))))
def Z4 a0 a1:=(Aq6 a0 a1).val
def Ack:Lst (List YI×Int×Int×List YI×Int×List YI×Unit) (Int×List YI×Int×List YI×Unit):=fun x2=>
 letI u1:=x2.2.2.2;Tree.val <|
 .br (decide (x2.2.1<(x2.1.length:Int))) (
 .ob (idx x2.1 x2.2.1) fun e3=>
 .ob (Z4 (u1.2.1,u1.2.2.1,()) e3) fun r4=>
 .leaf (.inl (x2.1,i64.wrap (x2.2.1+1),x2.2.2.1,u1.1,r4.1.1,r4.1.2.1,()))) (
 .leaf (.inr (x2.2.2.1,u1.1,u1.2.1,u1.2.2.1,())))
def Axl (a0:List YI×Unit):Tree (Dg):=
 .ob Af0 fun r1=>
 .ob (A0 Ack (a0.1,0,0,[],r1.1,r1.2.1,())) fun o5=>
 .leaf (o5.2.2.1,o5.2.2.2.1,())
def Azf a0:=(Axl a0).val
def Aq7 (a0:Aw):Tree (Dg×Aw):=
 .ob (Ate a0 (12,())) fun r1=>
 .ob (Azf r1.1) fun r2=>
 .leaf (r2,(a0.1,r1.2.2.1,r1.2.2.2.1,()))
def Z5 a0:=(Aq7 a0).val
def Alw (a0:Aw) (a1:YI):Tree (Au×Aw):=
 letI k10:=a1.1==(0:Int); .ob (Ci a0 (12,())) fun r1=>
 .ob (Ci (a0.1,r1.2.2.1,r1.2.2.2.1,()) (32,())) fun r2=>
 .ob (Ja a1 r1.1 r2.1) fun r3=>letI u1:=r3.2.2.2;letI u2:=u1.2.2;letI u3:=u2.2.2;letI u4:=u3.2.2;letI u5:=u4.2.2;letI u6:=u5.2.2.2;letI k9:=Eb (u1.1,()) (Dq [114,101,107,101,121],());letI k21:=decide (r3.2.2.1<(4294967295:Int));
 .ob (Bp (a0.1,r2.2.2.1,r2.2.2.2.1,()) ([(0,()),(0,()),(3,()),(281474976709656,()),(281474976710656,())],())) fun r4=>letI k6:=(r3.1,r3.2.1,r3.2.2.1,u1.1,r4.1.1,u2.1,u2.2.1,u3.1,u3.2.1,u4.1,u4.2.1,u5.1,u5.2.1,u5.2.2.1,u6.1,());
 .ob (Ax (a0.1,r4.2.2.1,r4.2.2.2.1,()) (3,())) fun r5=>letI k30:=(a0.1,r5.2.2.1,r5.2.2.2.1,());
 .br r5.1.1 (
 .ob (Z5 k30) fun r6=>letI k5:=(r3.1,r3.2.1,r3.2.2.1,u1.1,r4.1.1,r6.1.1,r6.1.2.1,u3.1,u3.2.1,u4.1,u4.2.1,u5.1,u5.2.1,u5.2.2.1,u6.1,());
 .ob (Ax (a0.1,r6.2.2.1,r6.2.2.2.1,()) (2,())) fun r7=>letI u7:=r7.2.2;letI k18:=(a0.1,u7.1,u7.2.1,());
 .br r7.1.1 (
 .ob (Bp k18 ([(1,()),(1,()),(2,()),(4294967295,())],())) fun r8=>
 .ob k9 fun r9=>
 .ob (Gl r8.1 r9) fun r10=>letI u8:=r10.2.2;letI u9:=u8.2.2;letI k3:=(r3.1,r3.2.1,r10.1,r10.2.1,u8.1,u8.2.1,u9.1,i64.wrap (r10.1-(1:Int)),u1.1,r4.1.1,r6.1.1,r6.1.2.1,true,(5:Int),u6.1,());letI k11:=Eb (r10.2.1,()) (Dq [114,101,107,101,121],());letI k13:=i64.wrap (r10.1-(1:Int));letI k15:=decide (r10.1<(4294967295:Int));
 .ob (Bp (a0.1,r8.2.2.1,r8.2.2.2.1,()) ([(-1,()),(0,()),(5,()),(7,()),(1000005,())],())) fun r11=>letI u10:=r11.2.2;letI k1:=(r3.1,r3.2.1,r10.1,r10.2.1,u8.1,u8.2.1,u9.1,k13,u1.1,r4.1.1,r6.1.1,r6.1.2.1,true,r11.1.1,u6.1,());letI k7:=(a0.1,u10.1,u10.2.1,());letI k19:=Ax k7 ((2:Int),());
 .br k10 (
 .br (decide (r11.1.1<0)) (
 .br k10 (
 .br k15 (
 .ob k19 fun r12=>letI k22:=(a0.1,r12.2.2.1,r12.2.2.2.1,());
 .br r12.1.1 (
 .ob k11 fun r13=>
 .leaf ((r3.1,r3.2.1,r10.1,r10.2.1,u8.1,u8.2.1,u9.1,k13,u1.1,r4.1.1,r6.1.1,r6.1.2.1,true,5,r13.1,()),k22)) (
 .leaf (k3,k22))) (
 .leaf (k3,k7))) (
 .leaf (k3,k7))) (
 .br k10 (
 .br k15 (
 .ob k19 fun r14=>letI k23:=(a0.1,r14.2.2.1,r14.2.2.2.1,());
 .br r14.1.1 (
 .ob k11 fun r15=>
 .leaf ((r3.1,r3.2.1,r10.1,r10.2.1,u8.1,u8.2.1,u9.1,k13,u1.1,r4.1.1,r6.1.1,r6.1.2.1,true,r11.1.1,r15.1,()),k23)) (
 .leaf (k1,k23))) (
 .leaf (k1,k7))) (
 .leaf (k1,k7)))) (
 .br k10 (
 .br k15 (
 .ob k19 fun r16=>letI k24:=(a0.1,r16.2.2.1,r16.2.2.2.1,());
 .br r16.1.1 (
 .ob k11 fun r17=>
 .leaf ((r3.1,r3.2.1,r10.1,r10.2.1,u8.1,u8.2.1,u9.1,k13,u1.1,r4.1.1,r6.1.1,r6.1.2.1,true,r11.1.1,r17.1,()),k24)) (
 .leaf (k1,k24))) (
 .leaf (k1,k7))) (
 .leaf (k1,k7)))) (
 .br k10 (
 .br k21 (
 .ob (Ax k18 (2,())) fun r18=>letI k25:=(a0.1,r18.2.2.1,r18.2.2.2.1,());
 .br r18.1.1 (
 .ob k9 fun r19=>
 .leaf ((r3.1,r3.2.1,r3.2.2.1,u1.1,r4.1.1,r6.1.1,r6.1.2.1,u3.1,u3.2.1,u4.1,u4.2.1,u5.1,u5.2.1,u5.2.2.1,r19.1,()),k25)) (
 .leaf (k5,k25))) (
 .leaf (k5,k18))) (
 .leaf (k5,k18)))) (
 .ob (Ax k30 (2,())) fun r20=>letI u11:=r20.2.2;letI k16:=(a0.1,u11.1,u11.2.1,());
 .br r20.1.1 (
 .ob (Bp k16 ([(1,()),(1,()),(2,()),(4294967295,())],())) fun r21=>
 .ob k9 fun r22=>
 .ob (Gl r21.1 r22) fun r23=>letI u12:=r23.2.2;letI u13:=u12.2.2;letI k4:=(r3.1,r3.2.1,r23.1,r23.2.1,u12.1,u12.2.1,u13.1,i64.wrap (r23.1-(1:Int)),u1.1,r4.1.1,u2.1,u2.2.1,true,(5:Int),u6.1,());letI k12:=Eb (r23.2.1,()) (Dq [114,101,107,101,121],());letI k14:=i64.wrap (r23.1-(1:Int));letI k17:=decide (r23.1<(4294967295:Int));
 .ob (Bp (a0.1,r21.2.2.1,r21.2.2.2.1,()) ([(-1,()),(0,()),(5,()),(7,()),(1000005,())],())) fun r24=>letI u14:=r24.2.2;letI k2:=(r3.1,r3.2.1,r23.1,r23.2.1,u12.1,u12.2.1,u13.1,k14,u1.1,r4.1.1,u2.1,u2.2.1,true,r24.1.1,u6.1,());letI k8:=(a0.1,u14.1,u14.2.1,());letI k20:=Ax k8 ((2:Int),());
 .br k10 (
 .br (decide (r24.1.1<0)) (
 .br k10 (
 .br k17 (
 .ob k20 fun r25=>letI k26:=(a0.1,r25.2.2.1,r25.2.2.2.1,());
 .br r25.1.1 (
 .ob k12 fun r26=>
 .leaf ((r3.1,r3.2.1,r23.1,r23.2.1,u12.1,u12.2.1,u13.1,k14,u1.1,r4.1.1,u2.1,u2.2.1,true,5,r26.1,()),k26)) (
 .leaf (k4,k26))) (
 .leaf (k4,k8))) (
 .leaf (k4,k8))) (
 .br k10 (
 .br k17 (
 .ob k20 fun r27=>letI k27:=(a0.1,r27.2.2.1,r27.2.2.2.1,());
 .br r27.1.1 (
 .ob k12 fun r28=>
 .leaf ((r3.1,r3.2.1,r23.1,r23.2.1,u12.1,u12.2.1,u13.1,k14,u1.1,r4.1.1,u2.1,u2.2.1,true,r24.1.1,r28.1,()),k27)) (
 .leaf (k2,k27))) (
 .leaf (k2,k8))) (
 .leaf (k2,k8)))) (
 .br k10 (
 .br k17 (
 .ob k20 fun r29=>letI k28:=(a0.1,r29.2.2.1,r29.2.2.2.1,());
 .br r29.1.1 (
 .ob k12 fun r30=>
 .leaf ((r3.1,r3.2.1,r23.1,r23.2.1,u12.1,u12.2.1,u13.1,k14,u1.1,r4.1.1,u2.1,u2.2.1,true,r24.1.1,r30.1,()),k28)) (
 .leaf (k2,k28))) (
 .leaf (k2,k8))) (
 .leaf (k2,k8)))) (
 .br k10 (
 .br k21 (
 .ob (Ax k16 (2,())) fun r31=>letI k29:=(a0.1,r31.2.2.1,r31.2.2.2.1,());
 .br r31.1.1 (
 .ob k9 fun r32=>
 .leaf ((r3.1,r3.2.1,r3.2.2.1,u1.1,r4.1.1,u2.1,u2.2.1,u3.1,u3.2.1,u4.1,u4.2.1,u5.1,u5.2.1,u5.2.2.1,r32.1,()),k29)) (
 .leaf (k6,k29))) (
 .leaf (k6,k16))) (
 .leaf (k6,k16))))
def Ac5 a0 a1:=(Alw a0 a1).val
def Alx (a0:Bb):Tree (Bb):=
 .chk (decide (([]:List YB).length+a0.2.2.1.length<=4294967296)) <|
 .leaf (a0.1,a0.2.1,([]:List YB)++a0.2.2.1,a0.2.2.2.1,())
def Q7 a0:=(Alx a0).val
def Mf:Lst (Int×Int×Int×List Bb×Int×Int×List Bb×Int×Int×List Bb×Unit) (Int×Int×List Bb×Int×Int×List Bb×Unit):=fun x1=>
 letI u1:=x1.2.2.2;letI u2:=u1.2.2;letI u3:=u2.2.2;Tree.val <|
 .br (decide (x1.1<(x1.2.2.2.1.length:Int))) (
 .ob (idx u1.1 x1.1) fun e2=>
 .ob (Q7 e2) fun r3=>
 .chk (decide (x1.2.2.2.2.2.2.2.2.2.1.length+[r3].length<=4294967296)) <|
 .leaf (.inl (i64.wrap (x1.1+1),x1.2.1,x1.2.2.1,u1.1,u1.2.1,u2.1,u2.2.1,u3.1,u3.2.1,u3.2.2.1++[r3],()))) (
 .leaf (.inr (u1.2.1,u2.1,u2.2.1,u3.1,u3.2.1,u3.2.2.1,())))
def Aly (a0:Bn):Tree (Bn):=
 .ob (A0 Mf (0,a0.1,a0.2.1,a0.2.2.1,0,0,[],a0.1,a0.2.1,[],())) fun o4=>
 .leaf (o4.2.2.2.1,o4.2.2.2.2.1,o4.2.2.2.2.2.1,())
def Ei a0:=(Aly a0).val
def Le:Lst (Int×Int×Int×Int×List Bb×Int×Int×List Bb×Int×Int×List Bb×Unit) (Int×Int×List Bb×Int×Int×List Bb×Unit):=fun x5=>
 letI u1:=x5.2.2;letI u2:=u1.2.2;letI u3:=u2.2.2;letI u4:=u3.2.2;letI k1:=i64.wrap (x5.2.1+(1:Int));Tree.val <|
 .br (decide (x5.2.1<(x5.2.2.2.2.1.length:Int))) (
 .ob (idx u2.1 x5.2.1) fun e6=>
 .br (decide (e6.2.2.2.1≥x5.1)) (
 .ob (idx u2.1 x5.2.1) fun e7=>
 .ob (Q7 e7) fun r8=>
 .chk (decide (x5.2.2.2.2.2.2.2.2.2.2.1.length+[r8].length<=4294967296)) <|
 .leaf (.inl (x5.1,k1,u1.1,u1.2.1,u2.1,u2.2.1,u3.1,u3.2.1,u4.1,u4.2.1,u4.2.2.1++[r8],()))) (
 .leaf (.inl (x5.1,k1,u1.1,u1.2.1,u2.1,u2.2.1,u3.1,u3.2.1,u4.1,u4.2.1,u4.2.2.1,())))) (
 .leaf (.inr (u2.2.1,u3.1,u3.2.1,u4.1,u4.2.1,u4.2.2.1,())))
def Aha (a0:Bn) (a1:YI):Tree (Bn):=
 .ob (Q6 a0) fun r1=>
 .br (!r1.1) (
 .ob (Ei a0) fun r2=>
 .leaf r2) (
 .ob (Bs a1 (0,()) (1000000,())) fun r3=>
 .br (!r3.1) (
 .ob (Ei a0) fun r4=>
 .leaf r4) (
 .ob (A0 Le (a1.1,0,a0.1,a0.2.1,a0.2.2.1,0,0,[],a0.1,a0.2.1,[],())) fun o9=>
 .leaf (o9.2.2.2.1,o9.2.2.2.2.1,o9.2.2.2.2.2.1,())))
def Aiq a0 a1:=(Aha a0 a1).val
def Q1:Lst (Int×List YB×Int×Int×Int×List Bb×Int×Int×Int×Int×List Bb×Int×Int×List Bb×Unit) ((Bool×Int×Int×List Bb×Unit)⊕(Int×List YB×Int×Int×List Bb×Int×Int×Int×Int×List Bb×Int×Int×List Bb×Unit)):=fun x10=>
 letI u1:=x10.2.2;letI u2:=u1.2.2;letI u3:=u2.2.2;letI u4:=u3.2.2;letI u5:=u4.2.2;letI u6:=u5.2.2;Tree.val <|
 .br (decide (u1.1<(x10.2.2.2.2.2.2.2.2.2.2.2.2.2.1.length:Int))) (
 .ob (idx u6.2.1 u1.1) fun e11=>
 .br (and (e11.1==u3.1) (and (e11.2.1==u3.2.1) true)) (
 .ob (Ei (u1.2.1,u2.1,u2.2.1,())) fun r12=>
 .leaf (.inr (.inl (false,r12.1,r12.2.1,r12.2.2.1,())))) (
 .leaf (.inl (x10.1,x10.2.1,i64.wrap (u1.1+1),u1.2.1,u2.1,u2.2.1,u3.1,u3.2.1,u4.1,u4.2.1,u5.1,u5.2.1,u6.1,u6.2.1,())))) (
 .leaf (.inr (.inr (x10.1,x10.2.1,u1.2.1,u2.1,u2.2.1,u3.1,u3.2.1,u4.1,u4.2.1,u5.1,u5.2.1,u6.1,u6.2.1,()))))
def Axp (a0:Bn) (a1:YI) (a2:A8) (a3:YBs):Tree (Bn×(Bool×Unit)):=
 .ob (Q6 a0) fun r1=>
 .br (!r1.1) (
 .ob (Ei a0) fun r2=>
 .leaf (r2,(false,()))) (
 .ob (Bs a1 (0,()) (1000000,())) fun r3=>
 .br (!r3.1) (
 .ob (Ei a0) fun r4=>
 .leaf (r4,(false,()))) (
 .ob (Gr a2) fun r5=>
 .br (!r5.1) (
 .ob (Ei a0) fun r6=>
 .leaf (r6,(false,()))) (
 .br ((a3.1.length:Int) != 12) (
 .ob (Ei a0) fun r7=>
 .leaf (r7,(false,()))) (
 .br (and (a2.1==a0.1) (and (a2.2.1==a0.2.1) true)) (
 .ob (Ei a0) fun r8=>
 .leaf (r8,(false,()))) (
 .ob (Aiq a0 a1) fun r9=>
 .ob (A0 Q1 (a1.1,a3.1,0,a0.1,a0.2.1,a0.2.2.1,a2.1,a2.2.1,0,0,[],r9.1,r9.2.1,r9.2.2.1,())) fun o13=>
 .sm o13 (fun o14=>
 .leaf ((o14.2.1,o14.2.2.1,o14.2.2.2.1,()),(o14.1,()))) (fun o15=>letI u1:=o15.2.2;letI u2:=u1.2.2.2;letI u3:=u2.2.2.2.2.2;letI k1:=(u2.1,u2.2.1,([]:List YB)++o15.2.1,i64.wrap (o15.1+(6:Int)),());
 .br ((o15.2.2.2.2.2.2.2.2.2.2.2.2.1.length:Int)==3) (
 .ob (Ei (u1.1,u1.2.1,u1.2.2.1,())) fun r16=>
 .leaf (r16,(false,()))) (
 .chk (decide (([]:List YB).length+o15.2.1.length<=4294967296)) <|
 .chk (decide (o15.2.2.2.2.2.2.2.2.2.2.2.2.1.length+[k1].length<=4294967296)) <|
 .leaf ((u3.1,u3.2.1,u3.2.2.1++[k1],()),(true,())))))))))
def E6 a0 a1 a2 a3:=(Axp a0 a1 a2 a3).val
def Aeo:Lst (Int×Int×List YB×Int×Int×Int×Int×List Bb×Int×Int×List Bb×Unit) (List YB×Int×Int×Int×Int×List Bb×Int×Int×List Bb×Unit):=fun x6=>
 letI u1:=x6.2.2;letI u2:=u1.2.2;letI u3:=u2.2.2;letI u4:=u3.2.2;Tree.val <|
 .br (decide (x6.2.1>0)) (
 .ob (Be (u1.1,u1.2.1,u2.1,()) (7,())) fun r7=>
 .ob (Kd r7.1) fun r8=>
 .ob (Ci (u1.1,r7.2.2.1,r7.2.2.2.1,()) (12,())) fun r9=>
 .ob (E6 (u4.1,u4.2.1,u4.2.2.1,()) (x6.1,()) r8 r9.1) fun r10=>
 .ob (Be (u1.1,r9.2.2.1,r9.2.2.2.1,()) (3,())) fun r11=>
 .leaf (.inl (i64.wrap (x6.1+r11.1.1),i64.wrap (x6.2.1-1),u1.1,r11.2.2.1,r11.2.2.2.1,u2.2.1,u3.1,u3.2.1,r10.1.1,r10.1.2.1,r10.1.2.2.1,()))) (
 .leaf (.inr (u1.1,u1.2.1,u2.1,u2.2.1,u3.1,u3.2.1,u4.1,u4.2.1,u4.2.2.1,())))
def Al0 (a0:Aw):Tree (Bn×Aw):=
 .ob (Be a0 (5,())) fun r1=>
 .ob (Kd r1.1) fun r2=>
 .ob (Sp r2) fun r3=>
 .ob (Be (a0.1,r1.2.2.1,r1.2.2.2.1,()) (6,())) fun r4=>
 .ob (Be (a0.1,r4.2.2.1,r4.2.2.2.1,()) (5,())) fun r5=>
 .ob (A0 Aeo (r4.1.1,r5.1.1,a0.1,r5.2.2.1,r5.2.2.2.1,0,0,[],r3.1,r3.2.1,r3.2.2.1,())) fun o12=>letI u1:=o12.2.2.2.2.2.2;
 .leaf ((u1.1,u1.2.1,u1.2.2.1,()),(o12.1,o12.2.1,o12.2.2.1,()))
def Vc a0:=(Al0 a0).val
def Al1 (a0:Aw):Tree (Al×Aw):=
 .ob (Ci a0 (16,())) fun r1=>
 .ob (Be (a0.1,r1.2.2.1,r1.2.2.2.1,()) (2,())) fun r2=>
 .ob (Afa (a0.1,r2.2.2.1,r2.2.2.2.1,())) fun r3=>
 .ob (Lx r1.1 (i64.wrap (1+r2.1.1),()) r3.1) fun r4=>
 .ob (Ci (a0.1,r3.2.2.1,r3.2.2.2.1,()) (16,())) fun r5=>
 .ob (Bp (a0.1,r5.2.2.1,r5.2.2.2.1,()) ([(0,()),(5,()),(90,())],())) fun r6=>
 .ob (Be (a0.1,r6.2.2.1,r6.2.2.2.1,()) (5,())) fun r7=>
 .ob (Kd (i64.wrap (1+r7.1.1),())) fun r8=>
 .ob (Nt r5.1 r6.1 r8 r4.1) fun r9=>letI u1:=r9.2.2.2;letI u2:=u1.2.2.2;letI u3:=u2.2.2.2;letI u4:=u3.2.2.2;letI u5:=u4.2.2.2;letI u6:=u5.2.2.2;letI u7:=u6.2.2.2;
 .ob (Ax (a0.1,r7.2.2.1,r7.2.2.2.1,()) (2,())) fun r10=>letI k1:=(a0.1,r10.2.2.1,r10.2.2.2.1,());
 .br r10.1.1 (
 .ob (Ac5 k1 (1,())) fun r11=>letI u8:=r11.1.2.2;letI u9:=u8.2.2;letI u10:=u9.2.2;letI u11:=u10.2.2;letI u12:=u11.2.2;letI u13:=u12.2.2;
 .ob (Ax (a0.1,r11.2.2.1,r11.2.2.2.1,()) (2,())) fun r12=>letI k2:=(a0.1,r12.2.2.1,r12.2.2.2.1,());
 .br r12.1.1 (
 .ob (Vc k2) fun r13=>
 .leaf ((r9.1,r9.2.1,r11.1.2.1,r11.1.1,r11.1.2.1,u8.1,u8.2.1,u9.1,u9.2.1,u10.1,u10.2.1,u11.1,u11.2.1,u12.1,u12.2.1,u13.1,u13.2.1,u13.2.2.1,r13.1.1,r13.1.2.1,r13.1.2.2.1,u7.1,u7.2.1,u7.2.2.1,()),(a0.1,r13.2.2.1,r13.2.2.2.1,()))) (
 .leaf ((r9.1,r9.2.1,r11.1.2.1,r11.1.1,r11.1.2.1,u8.1,u8.2.1,u9.1,u9.2.1,u10.1,u10.2.1,u11.1,u11.2.1,u12.1,u12.2.1,u13.1,u13.2.1,u13.2.2.1,u6.1,u6.2.1,u6.2.2.1,u7.1,u7.2.1,u7.2.2.1,()),k2))) (
 .ob (Ax k1 (2,())) fun r14=>letI k3:=(a0.1,r14.2.2.1,r14.2.2.2.1,());
 .br r14.1.1 (
 .ob (Vc k3) fun r15=>
 .leaf ((r9.1,r9.2.1,r9.2.2.1,u1.1,u1.2.1,u1.2.2.1,u2.1,u2.2.1,u2.2.2.1,u3.1,u3.2.1,u3.2.2.1,u4.1,u4.2.1,u4.2.2.1,u5.1,u5.2.1,u5.2.2.1,r15.1.1,r15.1.2.1,r15.1.2.2.1,u7.1,u7.2.1,u7.2.2.1,()),(a0.1,r15.2.2.1,r15.2.2.2.1,()))) (
 .leaf (r9,k3)))
def Q8 a0:=(Al1 a0).val
def Aq8 (a0:YEp):Tree (YEp):=
 .chk (decide (([]:List YB).length+a0.2.1.length<=4294967296)) <|
 .ob (Atf (a0.2.2.2.1,a0.2.2.2.2.1,())) fun r1=>
 .leaf (a0.1,([]:List YB)++a0.2.1,a0.2.2.1,r1.1,r1.2.1,())
def T6 a0:=(Aq8 a0).val
def Axr (a0:YEp) (a1:Bool×Unit):Tree (YEp):=
 .br (!a1.1) (
 .chk (decide (([]:List YB).length+a0.2.1.length<=4294967296)) <|
 .chk (decide (([]:List YI).length+a0.2.2.2.2.1.length<=4294967296)) <|
 .leaf (a0.1,([]:List YB)++a0.2.1,a0.2.2.1,a0.2.2.2.1,([]:List YI)++a0.2.2.2.2.1,())) (
 .ob (T6 a0) fun r1=>
 .leaf r1)
def Azg a0 a1:=(Axr a0 a1).val
def Al2 (a0:Au):Tree (Au):=
 letI u1:=a0.2.2.2;letI u2:=u1.2.2.2;letI u3:=u2.2.2.2;letI u4:=u3.2.2.2;.chk (decide (([]:List YB).length+a0.2.1.length<=4294967296)) <|
 .ob (T6 (a0.2.2.1,u1.1,u1.2.1,u1.2.2.1,u2.1,())) fun r1=>
 .ob (Azg (u2.2.1,u2.2.2.1,u3.1,u3.2.1,u3.2.2.1,()) (u4.1,())) fun r2=>
 .chk (decide (([]:List YB).length+a0.2.2.2.2.2.2.2.2.2.2.2.2.2.2.1.length<=4294967296)) <|
 .leaf (a0.1,([]:List YB)++a0.2.1,r1.1,r1.2.1,r1.2.2.1,r1.2.2.2.1,r1.2.2.2.2.1,r2.1,r2.2.1,r2.2.2.1,r2.2.2.2.1,r2.2.2.2.2.1,u4.1,u4.2.1,([]:List YB)++u4.2.2.1,())
def Jb a0:=(Al2 a0).val
def Al3 (a0:Al):Tree (Al):=
 letI u1:=a0.2.2.2;letI u2:=u1.2.2.2;letI u3:=u2.2.2.2;letI u4:=u3.2.2.2;letI u5:=u4.2.2.2;letI u6:=u5.2.2.2.2;.chk (decide (([]:List YB).length+a0.2.1.length<=4294967296)) <|
 .chk (decide (([]:List YB).length+a0.2.2.1.length<=4294967296)) <|
 .ob (Jb (u1.1,u1.2.1,u1.2.2.1,u2.1,u2.2.1,u2.2.2.1,u3.1,u3.2.1,u3.2.2.1,u4.1,u4.2.1,u4.2.2.1,u5.1,u5.2.1,u5.2.2.1,())) fun r1=>letI u7:=r1.2.2.2;letI u8:=u7.2.2.2;letI u9:=u8.2.2.2.2;
 .ob (Ei (u5.2.2.2.1,u6.1,u6.2.1,())) fun r2=>
 .leaf (a0.1,([]:List YB)++a0.2.1,([]:List YB)++a0.2.2.1,r1.1,r1.2.1,r1.2.2.1,u7.1,u7.2.1,u7.2.2.1,u8.1,u8.2.1,u8.2.2.1,u8.2.2.2.1,u9.1,u9.2.1,u9.2.2.1,u9.2.2.2.1,u9.2.2.2.2.1,r2.1,r2.2.1,r2.2.2.1,u6.2.2.1,u6.2.2.2.1,u6.2.2.2.2.1,())
def Nu a0:=(Al3 a0).val
def Mg:Lst (Int×Int×List Al×Int×List Al×Int×List Al×Unit) (Int×List Al×Int×List Al×Unit):=fun x1=>
 letI u1:=x1.2.2;letI u2:=u1.2.2;Tree.val <|
 .br (decide (x1.1<(x1.2.2.1.length:Int))) (
 .ob (idx u1.1 x1.1) fun e2=>
 .ob (Nu e2) fun r3=>
 .chk (decide (x1.2.2.2.2.2.2.1.length+[r3].length<=4294967296)) <|
 .leaf (.inl (i64.wrap (x1.1+1),x1.2.1,u1.1,u1.2.1,u2.1,u2.2.1,u2.2.2.1++[r3],()))) (
 .leaf (.inr (u1.2.1,u2.1,u2.2.1,u2.2.2.1,())))
def Al5 (a0:Ck):Tree (Ck):=
 .ob (A0 Mg (0,a0.1,a0.2.1,0,[],a0.1,[],())) fun o4=>
 .leaf (o4.2.2.1,o4.2.2.2.1,())
def Ac6 a0:=(Al5 a0).val
def Al6 (a0:Ck) (a1:Al):Tree (Ck×YI):=
 .ob (Ac6 a0) fun r1=>
 .ob (Akh a0) fun r2=>
 .br (!r2.1) (
 .leaf (r1,(1,()))) (
 .ob (Po a1) fun r3=>
 .br (!r3.1) (
 .leaf (r1,(1,()))) (
 .br a1.2.2.2.2.2.2.2.2.2.2.2.2.2.2.2.2.2.2.2.2.2.2.2.1 (
 .leaf (r1,(1,()))) (
 .ob (T5 a0 (a1.2.2.1,())) fun r4=>
 .br (decide (r4.1≥0)) (
 .leaf (r1,(3,()))) (
 .ob (Aio a0) fun r5=>
 .br (r5.1==a0.1) (
 .leaf (r1,(7,()))) (
 .br ((a0.2.1.length:Int)==12) (
 .leaf (r1,(7,()))) (
 .ob (Nu a1) fun r6=>
 .chk (decide (r1.2.1.length+[r6].length<=4294967296)) <|
 .leaf ((r1.1,r1.2.1++[r6],()),(0,()))))))))
def Q9 a0 a1:=(Al6 a0 a1).val
def A4a (a0:Al):Tree (Al):=
 .ob (Po a0) fun r1=>
 .br (!r1.1) (
 .ob (Nu a0) fun r2=>
 .leaf r2) (
 .chk (decide (([]:List YB).length+a0.2.1.length<=4294967296)) <|
 .chk (decide (([]:List YB).length+a0.2.2.1.length<=4294967296)) <|
 .leaf (a0.1,([]:List YB)++a0.2.1,([]:List YB)++a0.2.2.1,0,[],0,[],0,0,[],0,[],0,0,[],false,0,[],0,0,[],a0.2.2.2.2.2.2.2.2.2.2.2.2.2.2.2.2.2.2.2.2.2.1,0,true,()))
def Wj a0:=(A4a a0).val
def Vv:Lst (Int×List YB×Int×Int×Int×List Al×Int×List Al×Unit) (List YB×Int×Int×Int×List Al×Int×List Al×Unit):=fun x4=>
 letI u1:=x4.2.2.2;letI u2:=u1.2.2;letI k1:=i64.wrap (x4.1-(1:Int));Tree.val <|
 .br (decide (x4.1>0)) (
 .ob (Q8 (x4.2.1,x4.2.2.1,u1.1,())) fun r5=>
 .ob (Q9 (u2.2.1,u2.2.2.1,()) r5.1) fun r6=>
 .br (decide ((r6.1.2.1.length:Int)>0)) (
 .ob (Ax (x4.2.1,r5.2.2.1,r5.2.2.2.1,()) (3,())) fun r7=>
 .br r7.1.1 (
 .ob (Be (x4.2.1,r7.2.2.1,r7.2.2.2.1,()) ((r6.1.2.1.length:Int),())) fun r8=>
 .ob (idx r6.1.2.1 r8.1.1) fun e9=>
 .ob (Wj e9) fun r10=>
 .ob (idx r6.1.2.1 r8.1.1) fun e11=>
 let q12:=(r6.1.2.1.set (r8.1.1).toNat r10)
 .leaf (.inl (k1,x4.2.1,r8.2.2.1,r8.2.2.2.1,u1.2.1,u2.1,r6.1.1,q12,()))) (
 .leaf (.inl (k1,x4.2.1,r7.2.2.1,r7.2.2.2.1,u1.2.1,u2.1,r6.1.1,r6.1.2.1,())))) (
 .leaf (.inl (k1,x4.2.1,r5.2.2.1,r5.2.2.2.1,u1.2.1,u2.1,r6.1.1,r6.1.2.1,())))) (
 .leaf (.inr (x4.2.1,x4.2.2.1,u1.1,u1.2.1,u2.1,u2.2.1,u2.2.2.1,())))
def Al8 (a0:Aw):Tree (Ck×Aw):=
 .ob (Be a0 (6,())) fun r1=>
 .ob (Z1 (i64.wrap (1+r1.1.1),())) fun r2=>
 .ob (Be (a0.1,r1.2.2.1,r1.2.2.2.1,()) (6,())) fun r3=>
 .ob (A0 Vv (r3.1.1,a0.1,r3.2.2.1,r3.2.2.2.1,0,[],r2.1,r2.2.1,())) fun o13=>
 .leaf ((o13.2.2.2.2.2.1,o13.2.2.2.2.2.2.1,()),(o13.1,o13.2.1,o13.2.2.1,()))
def Ac7 a0:=(Al8 a0).val
def U2:Lst (List An×Int×Int×Int×Unit) (YI⊕(Unit)):=fun x1=>
 Tree.val <|
 .br (decide (x1.2.1<(x1.1.length:Int))) (
 .ob (idx x1.1 x1.2.1) fun e2=>
 .br (and (e2.1==x1.2.2.1) (and (e2.2.1==x1.2.2.2.1) true)) (
 .leaf (.inr (.inl (x1.2.1,())))) (
 .leaf (.inl (x1.1,i64.wrap (x1.2.1+1),x1.2.2.1,x1.2.2.2.1,())))) (
 .leaf (.inr (.inr ())))
def Axu (a0:List An×Unit) (a1:A8):Tree (YI):=
 .ob (A0 U2 (a0.1,0,a1.1,a1.2.1,())) fun o3=>
 .sm o3 (fun o4=>
 .leaf o4) (fun o5=>
 .leaf (-1,()))
def Adz a0 a1:=(Axu a0 a1).val
def Ara (a0:List An×Unit) (a1:A8) (a2:YI):Tree (List An×Unit):=
 letI k1:=([]:List An)++a0.1;letI k2:=(a1.1,a1.2.1,a2.1,(0:Int),()); .chk (decide (([]:List An).length+a0.1.length<=4294967296)) <|
 .ob (Mn a0) fun r1=>
 .br (!r1.1) (
 .leaf (k1,())) (
 .ob (Gr a1) fun r2=>
 .br (!r2.1) (
 .leaf (k1,())) (
 .ob (Bs a2 (0,()) (1000000,())) fun r3=>
 .br (!r3.1) (
 .leaf (k1,())) (
 .ob (Adz a0 a1) fun r4=>
 .br (decide (r4.1<0)) (
 .br ((a0.1.length:Int)==8) (
 .leaf (k1,())) (
 .chk (decide (k1.length+[k2].length<=4294967296)) <|
 .leaf (k1++[k2],()))) (
 .ob (idx k1 r4.1) fun e5=>
 .ob (idx k1 r4.1) fun e6=>
 let q7:=(k1.set (r4.1).toNat (e6.1,e6.2.1,i64.wrap (e5.2.2.1+a2.1),e6.2.2.2.1,()))
 .ob (idx q7 r4.1) fun e8=>
 .br (decide (e8.2.2.1>1000000)) (
 .ob (idx q7 r4.1) fun e9=>
 let q10:=(q7.set (r4.1).toNat (e9.1,e9.2.1,1000000,e9.2.2.2.1,()))
 .leaf (q10,())) (
 .leaf (q7,()))))))
def Wk a0 a1 a2:=(Ara a0 a1 a2).val
def U3 (a0:List An×Unit) (a1:A8):Tree (YI):=
 .ob (Adz a0 a1) fun r1=>
 .ob (Mn a0) fun r2=>
 .br (!r2.1) (
 .leaf (0,())) (
 .br (decide (r1.1<0)) (
 .leaf (0,())) (
 .ob (idx a0.1 r1.1) fun e3=>
 .ob (idx a0.1 r1.1) fun e4=>
 .leaf (i64.wrap (i64.wrap (3*e3.2.2.1)-e4.2.2.2.1),())))
def Jc a0 a1:=(U3 a0 a1).val
def Aj3 (a0:List An×Unit) (a1:A8) (a2:YI):Tree ((List An×Unit)×(Bool×Unit)):=
 letI k1:=([]:List An)++a0.1; .chk (decide (([]:List An).length+a0.1.length<=4294967296)) <|
 .ob (Adz a0 a1) fun r1=>
 .br (decide (r1.1<0)) (
 .leaf ((k1,()),(false,()))) (
 .ob (Mn a0) fun r2=>
 .br (!r2.1) (
 .leaf ((k1,()),(false,()))) (
 .ob (Jc a0 a1) fun r3=>
 .ob (Bs a2 (0,()) r3) fun r4=>
 .br (!r4.1) (
 .leaf ((k1,()),(false,()))) (
 .ob (idx k1 r1.1) fun e5=>
 .ob (idx k1 r1.1) fun e6=>
 let q7:=(k1.set (r1.1).toNat (e6.1,e6.2.1,e6.2.2.1,i64.wrap (e5.2.2.2.1+a2.1),()))
 .leaf ((q7,()),(true,())))))
def Sq a0 a1 a2:=(Aj3 a0 a1 a2).val
def Vw:Lst (List An×Int×List YB×Int×Int×Unit) (List An×List YB×Int×Int×Unit):=fun x2=>
 letI u1:=x2.2.2;Tree.val <|
 .br (decide (x2.2.1>0)) (
 .ob (Be (u1.1,u1.2.1,u1.2.2.1,()) (10,())) fun r3=>
 .ob (Kd r3.1) fun r4=>
 .ob (Bp (u1.1,r3.2.2.1,r3.2.2.2.1,()) ([(0,()),(1,()),(34,()),(60,()),(999999,()),(1000000,())],())) fun r5=>
 .ob (Wk (x2.1,()) r4 r5.1) fun r6=>
 .ob (Bp (u1.1,r5.2.2.1,r5.2.2.2.1,()) ([(0,()),(3,()),(45,()),(102,()),(1000,())],())) fun r7=>
 .ob (Sq r6 r4 r7.1) fun r8=>
 .leaf (.inl (r8.1.1,i64.wrap (x2.2.1-1),u1.1,r7.2.2.1,r7.2.2.2.1,()))) (
 .leaf (.inr (x2.1,u1.1,u1.2.1,u1.2.2.1,())))
def Amb (a0:Aw) (a1:YI):Tree ((List An×Unit)×Aw):=
 .ob (Be a0 (i64.wrap (a1.1+1),())) fun r1=>
 .ob (A0 Vw ([],r1.1.1,a0.1,r1.2.2.1,r1.2.2.2.1,())) fun o9=>
 .leaf ((o9.1,()),(o9.2.1,o9.2.2.1,o9.2.2.2.1,()))
def Ac8 a0 a1:=(Amb a0 a1).val
def Vx:Lst (Int×List YB×Int×Int×List YBs×List YB×List YB×Int×Int×List Al×List An×List YBs×List YB×List YB×Int×Int×List Al×List An×Int×List Al×Unit) (List YB×Int×Int×List YBs×List YB×List YB×Int×Int×List Al×List An×List YBs×List YB×List YB×Int×Int×List Al×List An×Unit):=fun x6=>
 letI u1:=x6.2.2;letI u2:=u1.2.2;letI u3:=u2.2.2;letI u4:=u3.2.2;letI u5:=u4.2.2;letI u6:=u5.2.2;letI u7:=u6.2.2;letI u8:=u7.2.2;letI u9:=u8.2.2;letI k1:=i64.wrap (x6.1+(1:Int));Tree.val <|
 .br (decide (x6.1<(x6.2.2.2.2.2.2.2.2.2.2.2.2.2.2.2.2.2.2.2.1.length:Int))) (
 .ob (idx u9.2.1 x6.1) fun e7=>
 .br (decide (e7.1<=(x6.2.2.2.2.2.2.2.2.2.2.2.1.length:Int))) (
 .ob (idx u9.2.1 x6.1) fun e8=>
 .ob (Q9 (u7.2.1,u8.1,()) e8) fun r9=>
 .leaf (.inl (k1,x6.2.1,u1.1,u1.2.1,u2.1,u2.2.1,u3.1,u3.2.1,u4.1,u4.2.1,u5.1,u5.2.1,u6.1,u6.2.1,u7.1,r9.1.1,r9.1.2.1,u8.2.1,u9.1,u9.2.1,()))) (
 .leaf (.inl (k1,x6.2.1,u1.1,u1.2.1,u2.1,u2.2.1,u3.1,u3.2.1,u4.1,u4.2.1,u5.1,u5.2.1,u6.1,u6.2.1,u7.1,u7.2.1,u8.1,u8.2.1,u9.1,u9.2.1,())))) (
 .leaf (.inr (x6.2.1,u1.1,u1.2.1,u2.1,u2.2.1,u3.1,u3.2.1,u4.1,u4.2.1,u5.1,u5.2.1,u6.1,u6.2.1,u7.1,u7.2.1,u8.1,u8.2.1,())))
def Amc (a0:Aw):Tree (Bc×Aw):=
 .ob (Am6 a0) fun r1=>
 .ob (Ci (a0.1,r1.2.2.1,r1.2.2.2.1,()) (8,())) fun r2=>
 .ob (Be (a0.1,r2.2.2.1,r2.2.2.2.1,()) (4,())) fun r3=>
 .ob (Ae9 r1.1 r2.1 (i64.wrap (1+r3.1.1),())) fun r4=>letI u1:=r4.2.2.2;
 .ob (Ac7 (a0.1,r3.2.2.1,r3.2.2.2.1,())) fun r5=>
 .ob (A0 Vx (0,a0.1,r5.2.2.1,r5.2.2.2.1,[],[],[],0,0,[],[],r4.1,r4.2.1,r4.2.2.1,u1.1,u1.2.1,u1.2.2.1,u1.2.2.2.1,r5.1.1,r5.1.2.1,())) fun o10=>letI u2:=o10.2.2.2.2.2.2.2.2.2.2;
 .ob (Ac8 (o10.1,o10.2.1,o10.2.2.1,()) (6,())) fun r11=>
 .ob (Be (o10.1,r11.2.2.1,r11.2.2.2.1,()) (30,())) fun r12=>
 .leaf ((u2.1,u2.2.1,u2.2.2.1,i64.wrap (1+r12.1.1),u2.2.2.2.2.1,u2.2.2.2.2.2.1,r11.1.1,()),(o10.1,r12.2.2.1,r12.2.2.2.1,()))
def Am9 a0:=(Amc a0).val
def Arb (a0:Aw) (a1 a2:List YBs×Unit):Tree ((List YBs×Unit)×Aw):=
 .ob (Ax a0 (2,())) fun r1=>letI k1:=(a0.1,r1.2.2.1,r1.2.2.2.1,());
 .br r1.1.1 (
 .leaf (a1,k1)) (
 .leaf (a2,k1))
def Atg a0 a1 a2:=(Arb a0 a1 a2).val
def Arc (a0:Aw):Tree (YBs×Aw):=
 .ob (Ci a0 (12,())) fun r1=>
 .ob (Z0 r1.1) fun r2=>
 .ob (Ax (a0.1,r1.2.2.1,r1.2.2.2.1,()) (10,())) fun r3=>letI k1:=(a0.1,r3.2.2.1,r3.2.2.2.1,());
 .br r3.1.1 (
 .ob (Bp k1 ([(0,()),(31,()),(32,())],())) fun r4=>
 .ob (Ci (a0.1,r4.2.2.1,r4.2.2.2.1,()) r4.1) fun r5=>
 .leaf (r5.1,(a0.1,r5.2.2.1,r5.2.2.2.1,()))) (
 .leaf (r2,k1))
def Ath a0:=(Arc a0).val
def A4c (a0:Aw):Tree (YEp×Aw):=
 .ob (Bp a0 ([(0,()),(0,()),(1,()),(2,()),(4294967295,())],())) fun r1=>
 .ob (Ci (a0.1,r1.2.2.1,r1.2.2.2.1,()) (32,())) fun r2=>
 .ob (Gl r1.1 r2.1) fun r3=>
 .ob (Bp (a0.1,r2.2.2.1,r2.2.2.2.1,()) ([(0,()),(0,()),(1,()),(5,()),(281474976709655,()),(281474976709656,()),(281474976710655,()),(281474976710656,())],())) fun r4=>
 .ob (Ax (a0.1,r4.2.2.1,r4.2.2.2.1,()) (3,())) fun r5=>letI k1:=(a0.1,r5.2.2.1,r5.2.2.2.1,());
 .br r5.1.1 (
 .ob (Z5 k1) fun r6=>
 .leaf ((r3.1,r3.2.1,r4.1.1,r6.1.1,r6.1.2.1,()),(a0.1,r6.2.2.1,r6.2.2.2.1,()))) (
 .leaf ((r3.1,r3.2.1,r4.1.1,r3.2.2.2.1,r3.2.2.2.2.1,()),k1))
def A5a a0:=(A4c a0).val
def Axy (a0:Aw):Tree (Dg×Aw):=
 .ob (Z5 a0) fun r1=>
 .ob (Be (a0.1,r1.2.2.1,r1.2.2.2.1,()) (12,())) fun r2=>letI u1:=r2.2.2;letI k1:=(a0.1,u1.1,u1.2.1,());
 .br (r2.1.1==0) (
 .ob (Bp k1 ([(-2,()),(-1,()),(0,()),(700,()),(281474976710656,())],())) fun r3=>
 .leaf ((r3.1.1,r1.1.2.1,()),(a0.1,r3.2.2.1,r3.2.2.2.1,()))) (
 .br (r2.1.1==1) (
 .ob (Be k1 (32,())) fun r4=>
 .ob (Bp (a0.1,r4.2.2.1,r4.2.2.2.1,()) ([(-1,()),(0,()),(1,()),(4294967295,()),(4294967296,())],())) fun r5=>
 .ob (idx r1.1.2.1 r4.1.1) fun e6=>
 let q7:=(r1.1.2.1.set (r4.1.1).toNat r5.1)
 .leaf ((r1.1.1,q7,()),(a0.1,r5.2.2.1,r5.2.2.2.1,()))) (
 .br (r2.1.1==2) (
 .ob (Be k1 (32,())) fun r8=>
 .chk (decide (0<=r8.1.1)) <|
 .chk (decide (r8.1.1<=(r1.1.2.1.length:Int))) <|
 .leaf ((r1.1.1,(r1.1.2.1.take (r8.1.1).toNat).drop (0:Int).toNat,()),(a0.1,r8.2.2.1,r8.2.2.2.1,()))) (
 .leaf (r1.1,k1))))
def Azh a0:=(Axy a0).val
def Axz (a0:Aw):Tree (YEp×Aw):=
 .ob (A5a a0) fun r1=>letI u1:=r1.1.2.2;
 .ob (Be (a0.1,r1.2.2.1,r1.2.2.2.1,()) (14,())) fun r2=>letI u2:=r2.2.2;letI k1:=(a0.1,u2.1,u2.2.1,());
 .br (r2.1.1==0) (
 .ob (Bp k1 ([(-1,()),(4294967296,())],())) fun r3=>
 .leaf ((r3.1.1,r1.1.2.1,u1.1,u1.2.1,u1.2.2.1,()),(a0.1,r3.2.2.1,r3.2.2.2.1,()))) (
 .br (r2.1.1==1) (
 .ob (Bp k1 ([(0,()),(31,()),(33,())],())) fun r4=>
 .ob (Ci (a0.1,r4.2.2.1,r4.2.2.2.1,()) r4.1) fun r5=>
 .leaf ((r1.1.1,r5.1.1,u1.1,u1.2.1,u1.2.2.1,()),(a0.1,r5.2.2.1,r5.2.2.2.1,()))) (
 .br (r2.1.1==2) (
 .ob (Bp k1 ([(-1,()),(281474976710657,())],())) fun r6=>
 .leaf ((r1.1.1,r1.1.2.1,r6.1.1,u1.2.1,u1.2.2.1,()),(a0.1,r6.2.2.1,r6.2.2.2.1,()))) (
 .br (r2.1.1==3) (
 .ob (Azh k1) fun r7=>
 .leaf ((r1.1.1,r1.1.2.1,u1.1,r7.1.1,r7.1.2.1,()),(a0.1,r7.2.2.1,r7.2.2.2.1,()))) (
 .leaf (r1.1,k1)))))
def Aki a0:=(Axz a0).val
def Ard (a0:Aw):Tree (Au×Aw):=
 .ob (Be a0 (2,())) fun r1=>
 .ob (Ac5 (a0.1,r1.2.2.1,r1.2.2.2.1,()) r1.1) fun r2=>letI u1:=r2.1.2.2;letI u2:=u1.2.2;letI u3:=u2.2.2;letI u4:=u3.2.2;letI u5:=u4.2.2;letI u6:=u5.2.2;letI u7:=u6.2.2;
 .ob (Be (a0.1,r2.2.2.1,r2.2.2.2.1,()) (20,())) fun r3=>letI u8:=r3.2.2;letI k1:=(a0.1,u8.1,u8.2.1,());
 .br (r3.1.1==0) (
 .ob (Bp k1 ([(-1,()),(0,()),(1,()),(2,())],())) fun r4=>
 .leaf ((r4.1.1,r2.1.2.1,u1.1,u1.2.1,u2.1,u2.2.1,u3.1,u3.2.1,u4.1,u4.2.1,u5.1,u5.2.1,u6.1,u6.2.1,u7.1,()),(a0.1,r4.2.2.1,r4.2.2.2.1,()))) (
 .br (r3.1.1==1) (
 .ob (Ci k1 (11,())) fun r5=>
 .leaf ((r2.1.1,r5.1.1,u1.1,u1.2.1,u2.1,u2.2.1,u3.1,u3.2.1,u4.1,u4.2.1,u5.1,u5.2.1,u6.1,u6.2.1,u7.1,()),(a0.1,r5.2.2.1,r5.2.2.2.1,()))) (
 .br (r3.1.1==2) (
 .ob (Aki k1) fun r6=>
 .leaf ((r2.1.1,r2.1.2.1,r6.1.1,r6.1.2.1,r6.1.2.2.1,r6.1.2.2.2.1,r6.1.2.2.2.2.1,u3.2.1,u4.1,u4.2.1,u5.1,u5.2.1,u6.1,u6.2.1,u7.1,()),(a0.1,r6.2.2.1,r6.2.2.2.1,()))) (
 .br (r3.1.1==3) (
 .ob (Aki k1) fun r7=>
 .leaf ((r2.1.1,r2.1.2.1,u1.1,u1.2.1,u2.1,u2.2.1,u3.1,r7.1.1,r7.1.2.1,r7.1.2.2.1,r7.1.2.2.2.1,r7.1.2.2.2.2.1,u6.1,u6.2.1,u7.1,()),(a0.1,r7.2.2.1,r7.2.2.2.1,()))) (
 .br (r3.1.1==4) (
 .leaf ((r2.1.1,r2.1.2.1,u1.1,u1.2.1,u2.1,u2.2.1,u3.1,u3.2.1,u4.1,u4.2.1,u5.1,u5.2.1,!u6.1,u6.2.1,u7.1,()),k1)) (
 .br (r3.1.1==5) (
 .ob (Bp k1 ([(-2,()),(-1,()),(1,()),(1000006,())],())) fun r8=>
 .leaf ((r2.1.1,r2.1.2.1,u1.1,u1.2.1,u2.1,u2.2.1,u3.1,u3.2.1,u4.1,u4.2.1,u5.1,u5.2.1,u6.1,r8.1.1,u7.1,()),(a0.1,r8.2.2.1,r8.2.2.2.1,()))) (
 .br (r3.1.1==6) (
 .ob (Bp k1 ([(0,()),(31,()),(32,())],())) fun r9=>
 .ob (Ci (a0.1,r9.2.2.1,r9.2.2.2.1,()) r9.1) fun r10=>
 .leaf ((r2.1.1,r2.1.2.1,u1.1,u1.2.1,u2.1,u2.2.1,u3.1,u3.2.1,u4.1,u4.2.1,u5.1,u5.2.1,u6.1,u6.2.1,r10.1.1,()),(a0.1,r10.2.2.1,r10.2.2.2.1,()))) (
 .leaf (r2.1,k1))))))))
def Ati a0:=(Ard a0).val
def Are (a0:Aw):Tree (A8×Aw):=
 .ob (Ax a0 (3,())) fun r1=>letI k1:=(a0.1,r1.2.2.1,r1.2.2.2.1,());
 .br r1.1.1 (
 .ob (Be k1 (16777216,())) fun r2=>
 .ob (Kp (a0.1,r2.2.2.1,r2.2.2.2.1,())) fun r3=>
 .ob (Be (a0.1,r3.2.2.1,r3.2.2.2.1,()) (65536,())) fun r4=>
 .leaf ((i64.wrap (i64.wrap (r2.1.1*256)+r3.1.1),r4.1.1,()),(a0.1,r4.2.2.1,r4.2.2.2.1,()))) (
 .ob (Be k1 (6,())) fun r5=>
 .ob (Kd r5.1) fun r6=>
 .leaf (r6,(a0.1,r5.2.2.1,r5.2.2.2.1,())))
def Atj a0:=(Are a0).val
def Ax1 (a0:Aw):Tree (YI×Aw):=
 .ob (Bp a0 ([(-1,()),(0,()),(1,()),(2,()),(255,()),(256,()),(65535,()),(2147483647,()),(2147483648,()),(4294967295,()),(4294967296,()),(-2147483648,()),(9223372036854775807,()),(-9223372036854775808,())],())) fun r1=>
 .leaf (r1.1,(a0.1,r1.2.2.1,r1.2.2.2.1,()))
def Akj a0:=(Ax1 a0).val
def Ax2 (a0:Aw):Tree (A8×Aw):=
 .ob (Atj a0) fun r1=>
 .ob (Be (a0.1,r1.2.2.1,r1.2.2.2.1,()) (10,())) fun r2=>letI u1:=r2.2.2;letI k1:=(a0.1,u1.1,u1.2.1,());
 .br (r2.1.1==0) (
 .ob (Akj k1) fun r3=>
 .leaf ((r3.1.1,r1.1.2.1,()),(a0.1,r3.2.2.1,r3.2.2.2.1,()))) (
 .br (r2.1.1==1) (
 .ob (Bp k1 ([(-1,()),(65535,()),(65536,()),(0,())],())) fun r4=>
 .leaf ((r1.1.1,r4.1.1,()),(a0.1,r4.2.2.1,r4.2.2.2.1,()))) (
 .leaf (r1.1,k1)))
def E7 a0:=(Ax2 a0).val
def Arf (a0:Aw):Tree (Bn×Aw):=
 .ob (Vc a0) fun r1=>letI u1:=r1.1.2.2;letI k3:=(a0.1,r1.2.2.1,r1.2.2.2.1,());letI k5:=(r1.1.2.2.1.length:Int);
 .br (k5==0) (
 .leaf (r1.1,k3)) (
 .ob (Ax k3 (2,())) fun r2=>letI k4:=(a0.1,r2.2.2.1,r2.2.2.2.1,());
 .br r2.1.1 (
 .leaf (r1.1,k4)) (
 .ob (Be k4 (k5,())) fun r3=>letI k2:=idx u1.1 r3.1.1;
 .ob (Be (a0.1,r3.2.2.1,r3.2.2.2.1,()) (6,())) fun r4=>letI u2:=r4.2.2;letI k1:=(a0.1,u2.1,u2.2.1,());
 .br (r4.1.1==0) (
 .ob (E7 k1) fun r5=>
 .leaf ((r5.1.1,r5.1.2.1,u1.1,()),(a0.1,r5.2.2.1,r5.2.2.2.1,()))) (
 .br (r4.1.1==1) (
 .ob (E7 k1) fun r6=>
 .ob k2 fun e7=>
 let q8:=(r1.1.2.2.1.set (r3.1.1).toNat (r6.1.1,r6.1.2.1,e7.2.2.1,e7.2.2.2.1,()))
 .leaf ((r1.1.1,r1.1.2.1,q8,()),(a0.1,r6.2.2.1,r6.2.2.2.1,()))) (
 .br (r4.1.1==2) (
 .ob (Ci k1 (11,())) fun r9=>
 .ob k2 fun e10=>
 let q11:=(r1.1.2.2.1.set (r3.1.1).toNat (e10.1,e10.2.1,r9.1.1,e10.2.2.2.1,()))
 .leaf ((r1.1.1,r1.1.2.1,q11,()),(a0.1,r9.2.2.1,r9.2.2.2.1,()))) (
 .br (r4.1.1==3) (
 .ob (Bp k1 ([(-1,()),(1000006,()),(1000007,())],())) fun r12=>
 .ob k2 fun e13=>
 let q14:=(r1.1.2.2.1.set (r3.1.1).toNat (e13.1,e13.2.1,e13.2.2.1,r12.1.1,()))
 .leaf ((r1.1.1,r1.1.2.1,q14,()),(a0.1,r12.2.2.1,r12.2.2.2.1,()))) (
 .br (r4.1.1==4) (
 .ob k2 fun e15=>
 .leaf ((e15.1,e15.2.1,u1.1,()),k1)) (
 .leaf (r1.1,k1))))))))
def Atk a0:=(Arf a0).val
def Arg (a0:Aw):Tree (Al×Aw):=
 .ob (Q8 a0) fun r1=>letI u1:=r1.1.2.2;letI u2:=u1.2.2;letI u3:=u2.2.2;letI u4:=u3.2.2;letI u5:=u4.2.2;letI u6:=u5.2.2;letI u7:=u6.2.2;letI u8:=u7.2.2;letI u9:=u8.2.2;letI u10:=u9.2.2;letI u11:=u10.2.2;
 .ob (Be (a0.1,r1.2.2.1,r1.2.2.2.1,()) (22,())) fun r2=>letI u12:=r2.2.2;letI k1:=(a0.1,u12.1,u12.2.1,());
 .br (r2.1.1==0) (
 .ob (Bp k1 ([(0,()),(10,())],())) fun r3=>
 .leaf ((r3.1.1,r1.1.2.1,u1.1,u1.2.1,u2.1,u2.2.1,u3.1,u3.2.1,u4.1,u4.2.1,u5.1,u5.2.1,u6.1,u6.2.1,u7.1,u7.2.1,u8.1,u8.2.1,u9.1,u9.2.1,u10.1,u10.2.1,u11.1,u11.2.1,()),(a0.1,r3.2.2.1,r3.2.2.2.1,()))) (
 .br (r2.1.1==1) (
 .ob (Ci k1 (11,())) fun r4=>
 .leaf ((r1.1.1,r4.1.1,u1.1,u1.2.1,u2.1,u2.2.1,u3.1,u3.2.1,u4.1,u4.2.1,u5.1,u5.2.1,u6.1,u6.2.1,u7.1,u7.2.1,u8.1,u8.2.1,u9.1,u9.2.1,u10.1,u10.2.1,u11.1,u11.2.1,()),(a0.1,r4.2.2.1,r4.2.2.2.1,()))) (
 .br (r2.1.1==2) (
 .ob (Bp k1 ([(11,()),(12,())],())) fun r5=>
 .ob (Ci (a0.1,r5.2.2.1,r5.2.2.2.1,()) r5.1) fun r6=>
 .leaf ((r1.1.1,r1.1.2.1,r6.1.1,u1.2.1,u2.1,u2.2.1,u3.1,u3.2.1,u4.1,u4.2.1,u5.1,u5.2.1,u6.1,u6.2.1,u7.1,u7.2.1,u8.1,u8.2.1,u9.1,u9.2.1,u10.1,u10.2.1,u11.1,u11.2.1,()),(a0.1,r6.2.2.1,r6.2.2.2.1,()))) (
 .br (r2.1.1==3) (
 .ob (Ati k1) fun r7=>letI u13:=r7.1.2.2.2;letI u14:=u13.2.2.2;letI u15:=u14.2.2.2.2;
 .leaf ((r1.1.1,r1.1.2.1,u1.1,r7.1.1,r7.1.2.1,r7.1.2.2.1,u13.1,u13.2.1,u13.2.2.1,u14.1,u14.2.1,u14.2.2.1,u14.2.2.2.1,u15.1,u15.2.1,u15.2.2.1,u15.2.2.2.1,u15.2.2.2.2.1,u9.1,u9.2.1,u10.1,u10.2.1,u11.1,u11.2.1,()),(a0.1,r7.2.2.1,r7.2.2.2.1,()))) (
 .br (r2.1.1==4) (
 .ob (Atk k1) fun r8=>
 .leaf ((r1.1.1,r1.1.2.1,u1.1,u1.2.1,u2.1,u2.2.1,u3.1,u3.2.1,u4.1,u4.2.1,u5.1,u5.2.1,u6.1,u6.2.1,u7.1,u7.2.1,u8.1,u8.2.1,r8.1.1,r8.1.2.1,r8.1.2.2.1,u10.2.1,u11.1,u11.2.1,()),(a0.1,r8.2.2.1,r8.2.2.2.1,()))) (
 .br (r2.1.1==5) (
 .ob (Bp k1 ([(-1,()),(1000001,())],())) fun r9=>
 .leaf ((r1.1.1,r1.1.2.1,u1.1,u1.2.1,u2.1,u2.2.1,u3.1,u3.2.1,u4.1,u4.2.1,u5.1,u5.2.1,u6.1,u6.2.1,u7.1,u7.2.1,u8.1,u8.2.1,u9.1,u9.2.1,u10.1,r9.1.1,u11.1,u11.2.1,()),(a0.1,r9.2.2.1,r9.2.2.2.1,()))) (
 .br (r2.1.1==6) (
 .ob (Bp k1 ([(-1,()),(1000001,())],())) fun r10=>
 .leaf ((r1.1.1,r1.1.2.1,u1.1,u1.2.1,u2.1,u2.2.1,u3.1,u3.2.1,u4.1,u4.2.1,u5.1,u5.2.1,u6.1,u6.2.1,u7.1,u7.2.1,u8.1,u8.2.1,u9.1,u9.2.1,u10.1,u10.2.1,r10.1.1,u11.2.1,()),(a0.1,r10.2.2.1,r10.2.2.2.1,()))) (
 .br (r2.1.1==7) (
 .leaf ((r1.1.1,r1.1.2.1,u1.1,u1.2.1,u2.1,u2.2.1,u3.1,u3.2.1,u4.1,u4.2.1,u5.1,u5.2.1,u6.1,u6.2.1,u7.1,u7.2.1,u8.1,u8.2.1,u9.1,u9.2.1,u10.1,u10.2.1,u11.1,true,()),k1)) (
 .br (r2.1.1==8) (
 .ob (Wj r1.1) fun r11=>
 .leaf (r11,k1)) (
 .br (r2.1.1==9) (
 .ob (Wj r1.1) fun r12=>
 .leaf (r12,k1)) (
 .leaf (r1.1,k1)))))))))))
def Atl a0:=(Arg a0).val
def Vy:Lst (Int×List YB×Int×Int×Int×List Al×Int×List Al×Int×List YB×List YB×Int×List YB×Int×List YB×Int×Int×List YI×Int×List YB×Int×Int×List YI×Bool×Int×List YB×Int×Int×List Bb×Int×Int×Bool×Unit) (List YB×Int×Int×Int×List Al×Int×List Al×Unit):=fun x15=>
 letI u1:=x15.2.2;letI u2:=u1.2.2;letI u3:=u2.2.2;letI u4:=u3.2.2;letI u5:=u4.2.2.2;letI u6:=u5.2.2;letI u7:=u6.2.2;letI u8:=u7.2.2;letI u9:=u8.2.2;letI u10:=u9.2.2;letI u11:=u10.2.2;letI u12:=u11.2.2;letI u13:=u12.2.2;letI u14:=u13.2.2;Tree.val <|
 .br (decide (x15.1>(x15.2.2.2.2.2.2.2.1.length:Int))) (
 .ob (Ci (x15.2.1,u1.1,u1.2.1,()) (12,())) fun r16=>letI k1:=(u4.1,u4.2.1,r16.1.1,u5.1,u5.2.1,u6.1,u6.2.1,u7.1,u7.2.1,u8.1,u8.2.1,u9.1,u9.2.1,u10.1,u10.2.1,u11.1,u11.2.1,u12.1,u12.2.1,u13.1,u13.2.1,u14.1,u14.2.1,u14.2.2.1,());
 .chk (decide (x15.2.2.2.2.2.2.2.1.length+[k1].length<=4294967296)) <|
 .leaf (.inl (i64.wrap (x15.1-1),x15.2.1,r16.2.2.1,r16.2.2.2.1,u2.1,u2.2.1,u3.1,u3.2.1++[k1],u4.1,u4.2.1,r16.1.1,u5.1,u5.2.1,u6.1,u6.2.1,u7.1,u7.2.1,u8.1,u8.2.1,u9.1,u9.2.1,u10.1,u10.2.1,u11.1,u11.2.1,u12.1,u12.2.1,u13.1,u13.2.1,u14.1,u14.2.1,u14.2.2.1,()))) (
 .leaf (.inr (x15.2.1,u1.1,u1.2.1,u2.1,u2.2.1,u3.1,u3.2.1,())))
def Afr (a0:Aw):Tree (Ck×Aw):=
 .ob (Ac7 a0) fun r1=>
 .ob (Be (a0.1,r1.2.2.1,r1.2.2.2.1,()) (12,())) fun r2=>letI u1:=r2.2.2;letI k1:=(a0.1,u1.1,u1.2.1,());
 .br (r2.1.1==0) (
 .ob (Bp k1 ([(0,()),(1,()),(7,())],())) fun r3=>
 .leaf ((r3.1.1,r1.1.2.1,()),(a0.1,r3.2.2.1,r3.2.2.2.1,()))) (
 .br (r2.1.1==1) (
 .ob (Atl k1) fun r4=>
 .chk (decide (r1.1.2.1.length+[r4.1].length<=4294967296)) <|
 .leaf ((r1.1.1,r1.1.2.1++[r4.1],()),(a0.1,r4.2.2.1,r4.2.2.2.1,()))) (
 .br (r2.1.1==2) (
 .br (decide ((r1.1.2.1.length:Int)>1)) (
 .ob (idx r1.1.2.1 0) fun e5=>
 .ob (idx r1.1.2.1 1) fun e6=>letI u2:=e6.2.2.2;letI u3:=u2.2.2.2;letI u4:=u3.2.2.2;letI u5:=u4.2.2.2;letI u6:=u5.2.2.2;letI u7:=u6.2.2.2.2;
 let q7:=(r1.1.2.1.set (1:Int).toNat (e6.1,e6.2.1,e5.2.2.1,u2.1,u2.2.1,u2.2.2.1,u3.1,u3.2.1,u3.2.2.1,u4.1,u4.2.1,u4.2.2.1,u5.1,u5.2.1,u5.2.2.1,u6.1,u6.2.1,u6.2.2.1,u6.2.2.2.1,u7.1,u7.2.1,u7.2.2.1,u7.2.2.2.1,u7.2.2.2.2.1,()))
 .leaf ((r1.1.1,q7,()),k1)) (
 .leaf (r1.1,k1))) (
 .br (r2.1.1==3) (
 .ob (Q8 k1) fun r8=>
 .ob (Wj r8.1) fun r9=>letI u8:=r9.2.2.2;letI u9:=u8.2.2.2;letI u10:=u9.2.2.2;letI u11:=u10.2.2.2;letI u12:=u11.2.2.2;letI u13:=u12.2.2.2.2;
 .ob (Bp (a0.1,r8.2.2.1,r8.2.2.2.1,()) ([(9,()),(12,()),(13,())],())) fun r10=>
 .ob (A0 Vy (r10.1.1,a0.1,r10.2.2.1,r10.2.2.2.1,0,[],r1.1.1,r1.1.2.1,r9.1,r9.2.1,r9.2.2.1,u8.1,u8.2.1,u8.2.2.1,u9.1,u9.2.1,u9.2.2.1,u10.1,u10.2.1,u10.2.2.1,u11.1,u11.2.1,u11.2.2.1,u12.1,u12.2.1,u12.2.2.1,u12.2.2.2.1,u13.1,u13.2.1,u13.2.2.1,u13.2.2.2.1,u13.2.2.2.2.1,())) fun o17=>
 .leaf ((o17.2.2.2.2.2.1,o17.2.2.2.2.2.2.1,()),(o17.1,o17.2.1,o17.2.2.1,()))) (
 .leaf (r1.1,k1)))))
def Atm a0:=(Afr a0).val
def Ari (a0:Aw):Tree ((List An×Unit)×Aw):=
 .ob (Ac8 a0 (14,())) fun r1=>letI k3:=(a0.1,r1.2.2.1,r1.2.2.2.1,());
 .br ((r1.1.1.length:Int)==0) (
 .leaf (r1.1,k3)) (
 .ob (Be k3 ((r1.1.1.length:Int),())) fun r2=>letI k2:=idx r1.1.1 r2.1.1;
 .ob (Be (a0.1,r2.2.2.1,r2.2.2.2.1,()) (10,())) fun r3=>letI u1:=r3.2.2;letI k1:=(a0.1,u1.1,u1.2.1,());
 .br (r3.1.1==0) (
 .ob (E7 k1) fun r4=>
 .ob k2 fun e5=>
 let q6:=(r1.1.1.set (r2.1.1).toNat (r4.1.1,r4.1.2.1,e5.2.2.1,e5.2.2.2.1,()))
 .leaf ((q6,()),(a0.1,r4.2.2.1,r4.2.2.2.1,()))) (
 .br (r3.1.1==1) (
 .ob (Bp k1 ([(-1,()),(0,()),(1000001,())],())) fun r7=>
 .ob k2 fun e8=>
 let q9:=(r1.1.1.set (r2.1.1).toNat (e8.1,e8.2.1,r7.1.1,e8.2.2.2.1,()))
 .leaf ((q9,()),(a0.1,r7.2.2.1,r7.2.2.2.1,()))) (
 .br (r3.1.1==2) (
 .ob k2 fun e10=>
 .ob (Bp k1 ([(-1,()),(0,()),(i64.wrap (i64.wrap (3*e10.2.2.1)+1),())],())) fun r11=>
 .ob k2 fun e12=>
 let q13:=(r1.1.1.set (r2.1.1).toNat (e12.1,e12.2.1,e12.2.2.1,r11.1.1,()))
 .leaf ((q13,()),(a0.1,r11.2.2.1,r11.2.2.2.1,()))) (
 .br (r3.1.1==3) (
 .ob k2 fun e14=>
 .chk (decide (r1.1.1.length+[e14].length<=4294967296)) <|
 .leaf ((r1.1.1++[e14],()),k1)) (
 .leaf (r1.1,k1))))))
def Atn a0:=(Ari a0).val
def Arj (a0:Aw):Tree (Bc×Aw):=
 .ob (Am9 a0) fun r1=>letI u1:=r1.1.2.2;letI u2:=u1.2.2;letI u3:=u2.2.2;
 .ob (Be (a0.1,r1.2.2.1,r1.2.2.2.1,()) (16,())) fun r2=>letI u4:=r2.2.2;letI k1:=(a0.1,u4.1,u4.2.1,());
 .br (r2.1.1==0) (
 .ob (Atg k1 ([([],()),([(1,())],())],()) (r1.1.1,())) fun r3=>
 .leaf ((r3.1.1,r1.1.2.1,u1.1,u1.2.1,u2.1,u2.2.1,u3.1,()),(a0.1,r3.2.2.1,r3.2.2.2.1,()))) (
 .br (r2.1.1==1) (
 .ob (Ath k1) fun r4=>
 .leaf ((r1.1.1,r4.1.1,u1.1,u1.2.1,u2.1,u2.2.1,u3.1,()),(a0.1,r4.2.2.1,r4.2.2.2.1,()))) (
 .br (r2.1.1==2) (
 .ob (Bp k1 ([(-1,()),(9999,()),(10000,()),(10001,())],())) fun r5=>
 .leaf ((r1.1.1,r1.1.2.1,u1.1,r5.1.1,u2.1,u2.2.1,u3.1,()),(a0.1,r5.2.2.1,r5.2.2.2.1,()))) (
 .br (r2.1.1==3) (
 .ob (Atm k1) fun r6=>
 .leaf ((r1.1.1,r1.1.2.1,u1.1,u1.2.1,r6.1.1,r6.1.2.1,u3.1,()),(a0.1,r6.2.2.1,r6.2.2.2.1,()))) (
 .br (r2.1.1==4) (
 .ob (Atn k1) fun r7=>
 .leaf ((r1.1.1,r1.1.2.1,u1.1,u1.2.1,u2.1,u2.2.1,r7.1.1,()),(a0.1,r7.2.2.1,r7.2.2.2.1,()))) (
 .br (r2.1.1==5) (
 .chk (decide (r1.1.1.length+[(([]:List YB),())].length<=4294967296)) <|
 .leaf ((r1.1.1++[(([]:List YB),())],r1.1.2.1,u1.1,u1.2.1,u2.1,u2.2.1,u3.1,()),k1)) (
 .br (r2.1.1==6) (
 .ob (Q8 k1) fun r8=>
 .ob (Wj r8.1) fun r9=>
 .chk (decide (r1.1.2.2.2.2.2.1.length+[r9].length<=4294967296)) <|
 .leaf ((r1.1.1,r1.1.2.1,u1.1,u1.2.1,u2.1,u2.2.1++[r9],u3.1,()),(a0.1,r8.2.2.1,r8.2.2.2.1,()))) (
 .leaf (r1.1,k1))))))))
def Ato a0:=(Arj a0).val
def J1:Lst (Gq) (YBs):=fun x2=>
 Tree.val <|
 .br (decide (x2.2.1<20)) (
 .chk (decide (x2.1.length+[((0:Int),())].length<=4294967296)) <|
 .leaf (.inl (x2.1++[((0:Int),())],i64.wrap (x2.2.1+1),()))) (
 .leaf (.inr (x2.1,())))
def Ahd (a0:Ap):Tree (YBs):=
 letI u1:=a0.2.2;letI u2:=u1.2.2.2;letI u3:=u2.2.2.2;.ob (I9 a0) fun r1=>
 .br (!r1.1) (
 .leaf ([],())) (
 .br (a0.1==1) (
 .chk (decide ([(u8.wrap a0.1,())].length+[(u8.wrap a0.2.1,())].length<=4294967296)) <|
 .chk (decide (([(u8.wrap a0.1,())]++[(u8.wrap a0.2.1,())]).length+a0.2.2.1.length<=4294967296)) <|
 .ob (A0 J1 (([(u8.wrap a0.1,())]++[(u8.wrap a0.2.1,())])++u1.1,0,())) fun o3=>
 .leaf o3) (
 .br (a0.1==2) (
 .chk (decide ([(u8.wrap a0.1,())].length+a0.2.2.1.length<=4294967296)) <|
 .chk (decide (([(u8.wrap a0.1,())]++u1.1).length+a0.2.2.2.1.length<=4294967296)) <|
 .ob (Fb (([(u8.wrap a0.1,())]++u1.1)++u1.2.1,()) (u1.2.2.1,()) (4,())) fun r4=>
 .chk (decide (r4.1.length+a0.2.2.2.2.2.1.length<=4294967296)) <|
 .leaf (r4.1++u2.1,())) (
 .br (a0.1==3) (
 .chk (decide ([(u8.wrap a0.1,())].length+[(u8.wrap a0.2.1,())].length<=4294967296)) <|
 .chk (decide (([(u8.wrap a0.1,())]++[(u8.wrap a0.2.1,())]).length+a0.2.2.1.length<=4294967296)) <|
 .chk (decide ((([(u8.wrap a0.1,())]++[(u8.wrap a0.2.1,())])++u1.1).length+a0.2.2.2.1.length<=4294967296)) <|
 .ob (Fb ((([(u8.wrap a0.1,())]++[(u8.wrap a0.2.1,())])++u1.1)++u1.2.1,()) (u1.2.2.1,()) (4,())) fun r5=>
 .chk (decide (r5.1.length+a0.2.2.2.2.2.1.length<=4294967296)) <|
 .chk (decide ((r5.1++u2.1).length+a0.2.2.2.2.2.2.1.length<=4294967296)) <|
 .leaf ((r5.1++u2.1)++u2.2.1,())) (
 .chk (decide ([(u8.wrap a0.1,())].length+a0.2.2.2.1.length<=4294967296)) <|
 .ob (Fb ([(u8.wrap a0.1,())]++u1.2.1,()) (u2.2.2.1,()) (4,())) fun r6=>
 .ob (Fb r6 (u3.1,()) (6,())) fun r7=>
 .chk (decide (r7.1.length+a0.2.2.2.2.2.2.2.2.2.2.1.length<=4294967296)) <|
 .chk (decide ((r7.1++u3.2.2.1).length+a0.2.2.2.2.2.2.2.2.2.1.length<=4294967296)) <|
 .leaf ((r7.1++u3.2.2.1)++u3.2.1,())))))
def Ft a0:=(Ahd a0).val
def Amd (a0:YBs) (a1:A8):Tree (YBs):=
 .ob (Gr a1) fun r1=>
 .br (!r1.1) (
 .chk (decide (([]:List YB).length+a0.1.length<=4294967296)) <|
 .leaf (([]:List YB)++a0.1,())) (
 .ob (Fb a0 (a1.1,()) (4,())) fun r2=>
 .ob (Fb r2 (a1.2.1,()) (2,())) fun r3=>
 .leaf r3)
def A25 a0 a1:=(Amd a0 a1).val
def Zb (a0:A8) (a1:YI) (a2 a3:YBs) (a4:YI):Tree (YBs):=
 .ob (Gr a0) fun r1=>
 .br (!r1.1) (
 .leaf ([],())) (
 .ob (Bs a1 (1,()) (9,())) fun r2=>
 .br (!r2.1) (
 .leaf ([],())) (
 .br ((a2.1.length:Int) != 12) (
 .leaf ([],())) (
 .br ((a3.1.length:Int) != 12) (
 .leaf ([],())) (
 .ob (Bs a4 (0,()) (1000000,())) fun r3=>
 .br (!r3.1) (
 .leaf ([],())) (
 .ob (A25 ([(99,())],()) a0) fun r4=>
 .chk (decide (r4.1.length+[(u8.wrap a1.1,())].length<=4294967296)) <|
 .chk (decide ((r4.1++[(u8.wrap a1.1,())]).length+a2.1.length<=4294967296)) <|
 .chk (decide (((r4.1++[(u8.wrap a1.1,())])++a2.1).length+a3.1.length<=4294967296)) <|
 .ob (Fb (((r4.1++[(u8.wrap a1.1,())])++a2.1)++a3.1,()) a4 (4,())) fun r5=>
 .leaf r5)))))
def Jl a0 a1 a2 a3 a4:=(Zb a0 a1 a2 a3 a4).val
def Arl (a0:YBs) (a1:A8) (a2:YI) (a3 a4:YBs) (a5:YI):Tree (YBs):=
 .ob (Jl a1 a2 a3 a4 a5) fun r1=>
 .ob (Akf a0) fun r2=>
 .br (!r2.1) (
 .leaf ([],())) (
 .br ((r1.1.length:Int)==0) (
 .leaf ([],())) (
 .ob (Agl a0 r1) fun r3=>
 .leaf r3))
def Sr a0 a1 a2 a3 a4 a5:=(Arl a0 a1 a2 a3 a4 a5).val
def Arn (a0:Aw) (a1:YBs):Tree (YBs×Aw):=
 letI k1:=([]:List YB)++a1.1;letI k3:=(k1.length:Int); .chk (decide (([]:List YB).length+a1.1.length<=4294967296)) <|
 .ob (Be a0 (8,())) fun r1=>letI u1:=r1.2.2;letI k2:=(a0.1,u1.1,u1.2.1,());
 .br (r1.1.1==0) (
 .br (decide (k3>0)) (
 .ob (Be k2 (k3,())) fun r2=>
 .ob (idx k1 r2.1.1) fun e3=>
 .ob (Be (a0.1,r2.2.2.1,r2.2.2.2.1,()) (255,())) fun r4=>
 .ob (idx k1 r2.1.1) fun e5=>
 let q6:=(k1.set (r2.1.1).toNat (u8.wrap ((BitVec.ofInt u8.bits e3.1 ^^^ BitVec.ofInt u8.bits (u8.wrap (i64.wrap (1+r4.1.1)))).toNat:Nat),()))
 .leaf ((q6,()),(a0.1,r4.2.2.1,r4.2.2.2.1,()))) (
 .leaf ((k1,()),k2))) (
 .br (r1.1.1==1) (
 .br (decide (k3>0)) (
 .ob (Be k2 (k3,())) fun r7=>
 .chk (decide (0<=r7.1.1)) <|
 .chk (decide (r7.1.1<=k3)) <|
 .leaf (((k1.take (r7.1.1).toNat).drop (0:Int).toNat,()),(a0.1,r7.2.2.1,r7.2.2.2.1,()))) (
 .leaf ((k1,()),k2))) (
 .br (r1.1.1==2) (
 .ob (Kp k2) fun r8=>
 .chk (decide (k1.length+[(u8.wrap r8.1.1,())].length<=4294967296)) <|
 .leaf ((k1++[(u8.wrap r8.1.1,())],()),(a0.1,r8.2.2.1,r8.2.2.2.1,()))) (
 .leaf ((k1,()),k2))))
def Ks a0 a1:=(Arn a0 a1).val
def Aro (a0:Aw):Tree (YI×YBs×Aw):=
 .ob (Be a0 (6,())) fun r1=>letI u1:=r1.2.2;letI k1:=(a0.1,u1.1,u1.2.1,());
 .br (r1.1.1==0) (
 .ob (Be k1 (2,())) fun r2=>
 .ob (Ci (a0.1,r2.2.2.1,r2.2.2.2.1,()) (12,())) fun r3=>
 .leaf ((i64.wrap (5+r2.1.1),()),r3.1,(a0.1,r3.2.2.1,r3.2.2.2.1,()))) (
 .br (r1.1.1==1) (
 .ob (Be k1 (2,())) fun r4=>
 .ob (Ci (a0.1,r4.2.2.1,r4.2.2.2.1,()) (4,())) fun r5=>
 .leaf ((i64.wrap (7+r4.1.1),()),r5.1,(a0.1,r5.2.2.1,r5.2.2.2.1,()))) (
 .ob (Bp k1 ([(0,()),(1,()),(3,()),(12,()),(33,()),(40,())],())) fun r6=>
 .ob (Ci (a0.1,r6.2.2.1,r6.2.2.2.1,()) r6.1) fun r7=>
 .leaf ((4,()),r7.1,(a0.1,r7.2.2.1,r7.2.2.2.1,()))))
def Atp a0:=(Aro a0).val
def Arp (a0:YI) (a1:YBs) (a2 a3:YI):Tree (YBs):=
 .ob (Bs a0 (0,()) (1,())) fun r1=>
 .br (!r1.1) (
 .leaf ([],())) (
 .br ((a1.1.length:Int) != 12) (
 .leaf ([],())) (
 .ob (Bs a2 (0,()) (4294967295,())) fun r2=>
 .br (!r2.1) (
 .leaf ([],())) (
 .ob (Bs a3 (0,()) (281474976710655,())) fun r3=>
 .br (!r3.1) (
 .leaf ([],())) (
 .chk (decide ([(u8.wrap a0.1,())].length+a1.1.length<=4294967296)) <|
 .ob (Fb ([(u8.wrap a0.1,())]++a1.1,()) a2 (4,())) fun r4=>
 .ob (Fb r4 a3 (6,())) fun r5=>
 .leaf r5))))
def T7 a0 a1 a2 a3:=(Arp a0 a1 a2 a3).val
def Ame (a0 a1:YBs) (a2:YI):Tree (YBs):=
 .ob (Bs a2 (0,()) (6,())) fun r1=>
 .br (!r1.1) (
 .leaf ([],())) (
 .br (decide ((a1.1.length:Int)>100)) (
 .leaf ([],())) (
 .chk (decide ([((115:Int),())].length+a1.1.length<=4294967296)) <|
 .ob (Fb ([((115:Int),())]++a1.1,()) a2 (4,())) fun r2=>
 .ob (Wh a0 r2) fun r3=>
 .leaf r3))
def Ana a0 a1 a2:=(Ame a0 a1 a2).val
def Oa:Lst (List YB×List YB×Int×List YB×Int×Unit) (Int×List YB×Unit):=fun x2=>
 letI u1:=x2.2.2;Tree.val <|
 .br (decide ((x2.2.2.2.1.length:Int)<u1.1)) (
 .ob (Ana (x2.1,()) (x2.2.1,()) (u1.2.2.1,())) fun r3=>
 .chk (decide (x2.2.2.2.1.length+r3.1.length<=4294967296)) <|
 .leaf (.inl (x2.1,x2.2.1,u1.1,u1.2.1++r3.1,i64.wrap (u1.2.2.1+1),()))) (
 .leaf (.inr (u1.1,u1.2.1,())))
def Arq (a0 a1:YBs) (a2:YI):Tree (YBs):=
 .ob (Bs a2 (0,()) (200,())) fun r1=>
 .br (!r1.1) (
 .leaf ([],())) (
 .br (decide ((a1.1.length:Int)>100)) (
 .leaf ([],())) (
 .br (decide ((a0.1.length:Int)>1048576)) (
 .leaf ([],())) (
 .ob (A0 Oa (a0.1,a1.1,a2.1,[],0,())) fun o4=>letI k1:=(o4.2.1.take (o4.1).toNat).drop (0:Int).toNat;
 .chk (decide (0<=o4.1)) <|
 .chk (decide (o4.1<=(o4.2.1.length:Int))) <|
 .chk (decide (([]:List YB).length+k1.length<=4294967296)) <|
 .leaf (([]:List YB)++k1,()))))
def Atq a0 a1 a2:=(Arq a0 a1 a2).val
def W5:Lst (List YB×List YB×List YB×Int×Unit) (YBs):=fun x2=>
 letI u1:=x2.2.2;Tree.val <|
 .br (decide (u1.2.1<(x2.1.length:Int))) (
 .ob (idx x2.1 u1.2.1) fun e3=>
 .ob (idx u1.1 u1.2.1) fun e4=>
 .chk (decide (x2.2.1.length+[(u8.wrap ((BitVec.ofInt u8.bits e3.1 ^^^ BitVec.ofInt u8.bits e4.1).toNat:Nat),())].length<=4294967296)) <|
 .leaf (.inl (x2.1,x2.2.1++[(u8.wrap ((BitVec.ofInt u8.bits e3.1 ^^^ BitVec.ofInt u8.bits e4.1).toNat:Nat),())],u1.1,i64.wrap (u1.2.1+1),()))) (
 .leaf (.inr (x2.2.1,())))
def Baf (a0 a1 a2:YBs):Tree (YBs):=
 .br (decide ((a2.1.length:Int)>200)) (
 .leaf ([],())) (
 .br (decide ((a1.1.length:Int)>100)) (
 .leaf ([],())) (
 .br (decide ((a0.1.length:Int)>1048576)) (
 .leaf ([],())) (
 .ob (Atq a0 a1 ((a2.1.length:Int),())) fun r1=>
 .ob (A0 W5 (a2.1,[],r1.1,0,())) fun o5=>
 .leaf o5)))
def A06 a0 a1 a2:=(Baf a0 a1 a2).val
def Ahf (a0:YI) (a1:Ap):Tree (YBs):=
 letI u1:=a1.2.2.2.2.2.2.2;.ob (Bs a0 (0,()) (1,())) fun r1=>
 .br (!r1.1) (
 .leaf ([],())) (
 .ob (I9 a1) fun r2=>
 .br (!r2.1) (
 .leaf ([],())) (
 .ob (M0 (a1.1,())) fun r3=>
 .br (!r3.1) (
 .leaf ([],())) (
 .ob (T7 a0 (a1.2.2.2.1,()) (u1.1,()) (u1.2.1,())) fun r4=>
 .chk (decide ([((116:Int),())].length+r4.1.length<=4294967296)) <|
 .chk (decide (([((116:Int),())]++r4.1).length+[(u8.wrap a1.1,())].length<=4294967296)) <|
 .chk (decide ((([((116:Int),())]++r4.1)++[(u8.wrap a1.1,())]).length+a1.2.2.2.2.2.2.2.2.2.1.length<=4294967296)) <|
 .leaf ((([((116:Int),())]++r4.1)++[(u8.wrap a1.1,())])++u1.2.2.1,()))))
def Ly a0 a1:=(Ahf a0 a1).val
def Pm:Lst (List YB×Int×Int×Int×Int×List YB×List YB×Int×List YB×List YB×Int×Int×List YB×List YB×Int×Int×List YB×List YB×Int×List YB×List YB×Int×Int×List YB×List YB×Unit) (List YB×Int×Int×Int×List YB×List YB×Int×List YB×List YB×Int×Int×List YB×List YB×Int×Int×List YB×List YB×Int×List YB×List YB×Int×Int×List YB×List YB×Unit):=fun x5=>
 letI u1:=x5.2.2;letI u2:=u1.2.2;letI u3:=u2.2.2;letI u4:=u3.2.2;letI u5:=u4.2.2;letI u6:=u5.2.2;letI u7:=u6.2.2;letI u8:=u7.2.2;letI u9:=u8.2.2;letI u10:=u9.2.2;letI u11:=u10.2.2;Tree.val <|
 .br (decide (u1.1<16)) (
 .chk (decide (x5.2.2.2.2.2.2.2.2.2.2.2.2.2.2.2.2.2.2.2.2.2.2.2.2.1.length+[((0:Int),())].length<=4294967296)) <|
 .leaf (.inl (x5.1,x5.2.1,i64.wrap (u1.1+1),u1.2.1,u2.1,u2.2.1,u3.1,u3.2.1,u4.1,u4.2.1,u5.1,u5.2.1,u6.1,u6.2.1,u7.1,u7.2.1,u8.1,u8.2.1,u9.1,u9.2.1,u10.1,u10.2.1,u11.1,u11.2.1,u11.2.2.1++[((0:Int),())],()))) (
 .leaf (.inr (x5.1,x5.2.1,u1.2.1,u2.1,u2.2.1,u3.1,u3.2.1,u4.1,u4.2.1,u5.1,u5.2.1,u6.1,u6.2.1,u7.1,u7.2.1,u8.1,u8.2.1,u9.1,u9.2.1,u10.1,u10.2.1,u11.1,u11.2.1,u11.2.2.1,())))
def Ars (a0:YBs) (a1:YI) (a2:YBs) (a3 a4 a5:YI) (a6:YBs):Tree (Ap×(Bool×Unit)):=
 .ob (T7 a1 a2 a3 a4) fun r1=>
 .br ((a0.1.length:Int) != 32) (
 .leaf ((0,0,[],[],0,[],[],0,0,[],[],()),(false,()))) (
 .br ((r1.1.length:Int)==0) (
 .leaf ((0,0,[],[],0,[],[],0,0,[],[],()),(false,()))) (
 .ob (M0 a5) fun r2=>
 .br (!r2.1) (
 .leaf ((0,0,[],[],0,[],[],0,0,[],[],()),(false,()))) (
 .ob (Z2 a5 ((a6.1.length:Int),())) fun r3=>
 .br (!r3.1) (
 .leaf ((0,0,[],[],0,[],[],0,0,[],[],()),(false,()))) (
 .chk (decide (([]:List YB).length+a2.1.length<=4294967296)) <|
 .ob (A06 a0 r1 a6) fun r4=>
 .ob (A0 Pm (a0.1,a1.1,0,0,0,[],[],0,[],[],0,0,[],[],a5.1,0,[],([]:List YB)++a2.1,0,[],[],a3.1,a4.1,r4.1,[],())) fun o6=>letI u1:=o6.2.2.2.2.2.2.2.2.2.2.2.2.2;letI u2:=u1.2.2;letI u3:=u2.2.2;letI u4:=u3.2.2;letI u5:=u4.2.2;
 .ob (Ly (o6.2.1,()) (u1.1,u1.2.1,u2.1,u2.2.1,u3.1,u3.2.1,u4.1,u4.2.1,u5.1,u5.2.1,u5.2.2.1,())) fun r7=>
 .ob (Agl (o6.1,()) r7) fun r8=>
 .leaf ((u1.1,u1.2.1,u2.1,u2.2.1,u3.1,u3.2.1,u4.1,u4.2.1,u5.1,u5.2.1,r8.1,()),(true,()))))))
def B6 a0 a1 a2 a3 a4 a5 a6:=(Ars a0 a1 a2 a3 a4 a5 a6).val
def Aru (a0:Aw) (a1:Ap):Tree (Ap×Aw):=
 .ob (Afz a1) fun r1=>letI u1:=r1.2.2;letI u2:=u1.2.2;letI u3:=u2.2.2;letI u4:=u3.2.2;letI u5:=u4.2.2;
 .ob (Be a0 (14,())) fun r2=>letI u6:=r2.2.2;letI k1:=(a0.1,u6.1,u6.2.1,());
 .br (r2.1.1==0) (
 .ob (Bp k1 ([(1,()),(-1,()),(7,())],())) fun r3=>
 .leaf ((r1.1,r1.2.1,u1.1,u1.2.1,u2.1,u2.2.1,u3.1,u3.2.1,i64.wrap (u4.1+r3.1.1),u4.2.1,u5.1,()),(a0.1,r3.2.2.1,r3.2.2.2.1,()))) (
 .br (r2.1.1==1) (
 .ob (Bp k1 ([(1,()),(-1,())],())) fun r4=>
 .leaf ((r1.1,r1.2.1,u1.1,u1.2.1,u2.1,u2.2.1,u3.1,i64.wrap (u3.2.1+r4.1.1),u4.1,u4.2.1,u5.1,()),(a0.1,r4.2.2.1,r4.2.2.2.1,()))) (
 .br (r2.1.1==2) (
 .ob (Ks k1 (u1.2.1,())) fun r5=>
 .leaf ((r1.1,r1.2.1,u1.1,r5.1.1,u2.1,u2.2.1,u3.1,u3.2.1,u4.1,u4.2.1,u5.1,()),(a0.1,r5.2.2.1,r5.2.2.2.1,()))) (
 .br (r2.1.1==3) (
 .ob (Ks k1 (u4.2.1,())) fun r6=>
 .leaf ((r1.1,r1.2.1,u1.1,u1.2.1,u2.1,u2.2.1,u3.1,u3.2.1,u4.1,r6.1.1,u5.1,()),(a0.1,r6.2.2.1,r6.2.2.2.1,()))) (
 .br (r2.1.1==4) (
 .ob (Ks k1 (u4.2.1,())) fun r7=>
 .leaf ((r1.1,r1.2.1,u1.1,u1.2.1,u2.1,u2.2.1,u3.1,u3.2.1,u4.1,r7.1.1,u5.1,()),(a0.1,r7.2.2.1,r7.2.2.2.1,()))) (
 .br (r2.1.1==5) (
 .ob (Ks k1 (u5.1,())) fun r8=>
 .leaf ((r1.1,r1.2.1,u1.1,u1.2.1,u2.1,u2.2.1,u3.1,u3.2.1,u4.1,u4.2.1,r8.1.1,()),(a0.1,r8.2.2.1,r8.2.2.2.1,()))) (
 .br (r2.1.1==6) (
 .ob (Ks k1 (u5.1,())) fun r9=>
 .leaf ((r1.1,r1.2.1,u1.1,u1.2.1,u2.1,u2.2.1,u3.1,u3.2.1,u4.1,u4.2.1,r9.1.1,()),(a0.1,r9.2.2.1,r9.2.2.2.1,()))) (
 .br (r2.1.1==7) (
 .ob (Be k1 (10,())) fun r10=>
 .leaf ((r10.1.1,r1.2.1,u1.1,u1.2.1,u2.1,u2.2.1,u3.1,u3.2.1,u4.1,u4.2.1,u5.1,()),(a0.1,r10.2.2.1,r10.2.2.2.1,()))) (
 .leaf (r1,k1)))))))))
def Ce a0 a1:=(Aru a0 a1).val
def Ahg (a0:Aw) (a1:Au):Tree (Ap×Aw):=
 letI u1:=a1.2.2;letI u2:=u1.2.2.2;letI u3:=u2.2.2;letI u4:=u3.2.2.2;letI u5:=u4.2.2.2.2;letI k1:=(i64.wrap ((1:Int)-a1.1),());letI k4:=decide ((a1.2.2.2.2.2.2.2.2.2.2.2.2.2.2.1.length:Int)>(0:Int));letI k5:=Gl (i64.wrap (u1.1+(1:Int)),()) (u5.1,());.ob (Atp a0) fun r1=>letI u6:=r1.2.2.2;letI k2:=B6 (u1.2.1,()) (a1.1,()) (a1.2.1,()) (u1.1,()) ((0:Int),()) r1.1 r1.2.1;letI k3:=B6 (u1.2.1,()) k1 (a1.2.1,()) (u1.1,()) ((0:Int),()) r1.1 r1.2.1;letI k6:=B6 (u3.2.1,()) (a1.1,()) (a1.2.1,()) (u3.1,()) ((0:Int),()) r1.1 r1.2.1;letI k7:=B6 (u3.2.1,()) k1 (a1.2.1,()) (u3.1,()) ((0:Int),()) r1.1 r1.2.1;letI k45:=(a0.1,u6.1,u6.2.1,());
 .br u4.2.2.1 (
 .ob (Ax k45 (3,())) fun r2=>letI u7:=r2.2.2;letI k10:=(a0.1,u7.1,u7.2.1,());
 .br r2.1.1 (
 .br k4 (
 .ob (Ax k10 (2,())) fun r3=>letI k85:=(a0.1,r3.2.2.1,r3.2.2.2.1,());
 .br r3.1.1 (
 .ob k5 fun r4=>
 .ob (Bp k85 ([(1,()),(1,()),(2,()),(0,()),(-1,()),(5,())],())) fun r5=>letI k11:=i64.wrap (r4.2.2.2.1+r5.1.1);letI k39:=Ax (a0.1,r5.2.2.1,r5.2.2.2.1,()) ((10:Int),());
 .br (decide (k11<0)) (
 .ob k39 fun r6=>letI k40:=Ax (a0.1,r6.2.2.1,r6.2.2.2.1,()) ((5:Int),());
 .br r6.1.1 (
 .ob (B6 (r4.2.1,()) (a1.1,()) (a1.2.1,()) (r4.1,()) (0,()) r1.1 r1.2.1) fun r7=>
 .ob k40 fun r8=>letI k86:=(a0.1,r8.2.2.1,r8.2.2.2.1,());
 .br r8.1.1 (
 .ob (Ce k86 r7.1) fun r9=>
 .leaf (r9.1,(a0.1,r9.2.2.1,r9.2.2.2.1,()))) (
 .leaf (r7.1,k86))) (
 .ob (B6 (r4.2.1,()) k1 (a1.2.1,()) (r4.1,()) (0,()) r1.1 r1.2.1) fun r10=>
 .ob k40 fun r11=>letI k58:=(a0.1,r11.2.2.1,r11.2.2.2.1,());
 .br r11.1.1 (
 .ob (Ce k58 r10.1) fun r12=>
 .leaf (r12.1,(a0.1,r12.2.2.1,r12.2.2.2.1,()))) (
 .leaf (r10.1,k58)))) (
 .ob k39 fun r13=>letI k26:=Ax (a0.1,r13.2.2.1,r13.2.2.2.1,()) ((5:Int),());
 .br r13.1.1 (
 .ob (B6 (r4.2.1,()) (a1.1,()) (a1.2.1,()) (r4.1,()) (k11,()) r1.1 r1.2.1) fun r14=>
 .ob k26 fun r15=>letI k59:=(a0.1,r15.2.2.1,r15.2.2.2.1,());
 .br r15.1.1 (
 .ob (Ce k59 r14.1) fun r16=>
 .leaf (r16.1,(a0.1,r16.2.2.1,r16.2.2.2.1,()))) (
 .leaf (r14.1,k59))) (
 .ob (B6 (r4.2.1,()) k1 (a1.2.1,()) (r4.1,()) (k11,()) r1.1 r1.2.1) fun r17=>
 .ob k26 fun r18=>letI k60:=(a0.1,r18.2.2.1,r18.2.2.2.1,());
 .br r18.1.1 (
 .ob (Ce k60 r17.1) fun r19=>
 .leaf (r19.1,(a0.1,r19.2.2.1,r19.2.2.2.1,()))) (
 .leaf (r17.1,k60))))) (
 .ob (Bp k85 ([(1,()),(1,()),(2,()),(0,()),(-1,()),(5,())],())) fun r20=>letI k20:=Ax (a0.1,r20.2.2.1,r20.2.2.2.1,()) ((10:Int),());letI k41:=i64.wrap (u4.1+r20.1.1);
 .br (decide (k41<0)) (
 .ob k20 fun r21=>letI k27:=Ax (a0.1,r21.2.2.1,r21.2.2.2.1,()) ((5:Int),());
 .br r21.1.1 (
 .ob k6 fun r22=>
 .ob k27 fun r23=>letI k61:=(a0.1,r23.2.2.1,r23.2.2.2.1,());
 .br r23.1.1 (
 .ob (Ce k61 r22.1) fun r24=>
 .leaf (r24.1,(a0.1,r24.2.2.1,r24.2.2.2.1,()))) (
 .leaf (r22.1,k61))) (
 .ob k7 fun r25=>
 .ob k27 fun r26=>letI k62:=(a0.1,r26.2.2.1,r26.2.2.2.1,());
 .br r26.1.1 (
 .ob (Ce k62 r25.1) fun r27=>
 .leaf (r27.1,(a0.1,r27.2.2.1,r27.2.2.2.1,()))) (
 .leaf (r25.1,k62)))) (
 .ob k20 fun r28=>letI k28:=Ax (a0.1,r28.2.2.1,r28.2.2.2.1,()) ((5:Int),());
 .br r28.1.1 (
 .ob (B6 (u3.2.1,()) (a1.1,()) (a1.2.1,()) (u3.1,()) (k41,()) r1.1 r1.2.1) fun r29=>
 .ob k28 fun r30=>letI k63:=(a0.1,r30.2.2.1,r30.2.2.2.1,());
 .br r30.1.1 (
 .ob (Ce k63 r29.1) fun r31=>
 .leaf (r31.1,(a0.1,r31.2.2.1,r31.2.2.2.1,()))) (
 .leaf (r29.1,k63))) (
 .ob (B6 (u3.2.1,()) k1 (a1.2.1,()) (u3.1,()) (k41,()) r1.1 r1.2.1) fun r32=>
 .ob k28 fun r33=>letI k64:=(a0.1,r33.2.2.1,r33.2.2.2.1,());
 .br r33.1.1 (
 .ob (Ce k64 r32.1) fun r34=>
 .leaf (r34.1,(a0.1,r34.2.2.1,r34.2.2.2.1,()))) (
 .leaf (r32.1,k64)))))) (
 .ob (Bp k10 ([(1,()),(1,()),(2,()),(0,()),(-1,()),(5,())],())) fun r35=>letI k21:=Ax (a0.1,r35.2.2.1,r35.2.2.2.1,()) ((10:Int),());letI k42:=i64.wrap (u4.1+r35.1.1);
 .br (decide (k42<0)) (
 .ob k21 fun r36=>letI k29:=Ax (a0.1,r36.2.2.1,r36.2.2.2.1,()) ((5:Int),());
 .br r36.1.1 (
 .ob k6 fun r37=>
 .ob k29 fun r38=>letI k65:=(a0.1,r38.2.2.1,r38.2.2.2.1,());
 .br r38.1.1 (
 .ob (Ce k65 r37.1) fun r39=>
 .leaf (r39.1,(a0.1,r39.2.2.1,r39.2.2.2.1,()))) (
 .leaf (r37.1,k65))) (
 .ob k7 fun r40=>
 .ob k29 fun r41=>letI k66:=(a0.1,r41.2.2.1,r41.2.2.2.1,());
 .br r41.1.1 (
 .ob (Ce k66 r40.1) fun r42=>
 .leaf (r42.1,(a0.1,r42.2.2.1,r42.2.2.2.1,()))) (
 .leaf (r40.1,k66)))) (
 .ob k21 fun r43=>letI k30:=Ax (a0.1,r43.2.2.1,r43.2.2.2.1,()) ((5:Int),());
 .br r43.1.1 (
 .ob (B6 (u3.2.1,()) (a1.1,()) (a1.2.1,()) (u3.1,()) (k42,()) r1.1 r1.2.1) fun r44=>
 .ob k30 fun r45=>letI k67:=(a0.1,r45.2.2.1,r45.2.2.2.1,());
 .br r45.1.1 (
 .ob (Ce k67 r44.1) fun r46=>
 .leaf (r46.1,(a0.1,r46.2.2.1,r46.2.2.2.1,()))) (
 .leaf (r44.1,k67))) (
 .ob (B6 (u3.2.1,()) k1 (a1.2.1,()) (u3.1,()) (k42,()) r1.1 r1.2.1) fun r47=>
 .ob k30 fun r48=>letI k68:=(a0.1,r48.2.2.1,r48.2.2.2.1,());
 .br r48.1.1 (
 .ob (Ce k68 r47.1) fun r49=>
 .leaf (r49.1,(a0.1,r49.2.2.1,r49.2.2.2.1,()))) (
 .leaf (r47.1,k68)))))) (
 .br k4 (
 .ob (Ax k10 (2,())) fun r50=>letI k69:=(a0.1,r50.2.2.1,r50.2.2.2.1,());
 .br r50.1.1 (
 .ob k5 fun r51=>letI k83:=(r51.2.1,());
 .ob (Bp k69 ([(1,()),(1,()),(2,()),(0,()),(-1,()),(5,())],())) fun r52=>letI k8:=i64.wrap (r51.2.2.2.1+r52.1.1);letI k22:=Ax (a0.1,r52.2.2.1,r52.2.2.2.1,()) ((10:Int),());
 .br (decide (k8<0)) (
 .ob k22 fun r53=>letI k31:=Ax (a0.1,r53.2.2.1,r53.2.2.2.1,()) ((5:Int),());
 .br r53.1.1 (
 .ob (B6 k83 (a1.1,()) (a1.2.1,()) (r51.1,()) (0,()) r1.1 r1.2.1) fun r54=>
 .ob k31 fun r55=>letI k70:=(a0.1,r55.2.2.1,r55.2.2.2.1,());
 .br r55.1.1 (
 .ob (Ce k70 r54.1) fun r56=>
 .leaf (r56.1,(a0.1,r56.2.2.1,r56.2.2.2.1,()))) (
 .leaf (r54.1,k70))) (
 .ob (B6 k83 k1 (a1.2.1,()) (r51.1,()) (0,()) r1.1 r1.2.1) fun r57=>
 .ob k31 fun r58=>letI k71:=(a0.1,r58.2.2.1,r58.2.2.2.1,());
 .br r58.1.1 (
 .ob (Ce k71 r57.1) fun r59=>
 .leaf (r59.1,(a0.1,r59.2.2.1,r59.2.2.2.1,()))) (
 .leaf (r57.1,k71)))) (
 .ob k22 fun r60=>letI k32:=Ax (a0.1,r60.2.2.1,r60.2.2.2.1,()) ((5:Int),());
 .br r60.1.1 (
 .ob (B6 k83 (a1.1,()) (a1.2.1,()) (r51.1,()) (k8,()) r1.1 r1.2.1) fun r61=>
 .ob k32 fun r62=>letI k72:=(a0.1,r62.2.2.1,r62.2.2.2.1,());
 .br r62.1.1 (
 .ob (Ce k72 r61.1) fun r63=>
 .leaf (r63.1,(a0.1,r63.2.2.1,r63.2.2.2.1,()))) (
 .leaf (r61.1,k72))) (
 .ob (B6 k83 k1 (a1.2.1,()) (r51.1,()) (k8,()) r1.1 r1.2.1) fun r64=>
 .ob k32 fun r65=>letI k73:=(a0.1,r65.2.2.1,r65.2.2.2.1,());
 .br r65.1.1 (
 .ob (Ce k73 r64.1) fun r66=>
 .leaf (r66.1,(a0.1,r66.2.2.1,r66.2.2.2.1,()))) (
 .leaf (r64.1,k73))))) (
 .ob (Bp k69 ([(1,()),(1,()),(2,()),(0,()),(-1,()),(5,())],())) fun r67=>letI k23:=Ax (a0.1,r67.2.2.1,r67.2.2.2.1,()) ((10:Int),());letI k43:=i64.wrap (u2.1+r67.1.1);
 .br (decide (k43<0)) (
 .ob k23 fun r68=>letI k33:=Ax (a0.1,r68.2.2.1,r68.2.2.2.1,()) ((5:Int),());
 .br r68.1.1 (
 .ob k2 fun r69=>
 .ob k33 fun r70=>letI k74:=(a0.1,r70.2.2.1,r70.2.2.2.1,());
 .br r70.1.1 (
 .ob (Ce k74 r69.1) fun r71=>
 .leaf (r71.1,(a0.1,r71.2.2.1,r71.2.2.2.1,()))) (
 .leaf (r69.1,k74))) (
 .ob k3 fun r72=>
 .ob k33 fun r73=>letI k75:=(a0.1,r73.2.2.1,r73.2.2.2.1,());
 .br r73.1.1 (
 .ob (Ce k75 r72.1) fun r74=>
 .leaf (r74.1,(a0.1,r74.2.2.1,r74.2.2.2.1,()))) (
 .leaf (r72.1,k75)))) (
 .ob k23 fun r75=>letI k34:=Ax (a0.1,r75.2.2.1,r75.2.2.2.1,()) ((5:Int),());
 .br r75.1.1 (
 .ob (B6 (u1.2.1,()) (a1.1,()) (a1.2.1,()) (u1.1,()) (k43,()) r1.1 r1.2.1) fun r76=>
 .ob k34 fun r77=>letI k76:=(a0.1,r77.2.2.1,r77.2.2.2.1,());
 .br r77.1.1 (
 .ob (Ce k76 r76.1) fun r78=>
 .leaf (r78.1,(a0.1,r78.2.2.1,r78.2.2.2.1,()))) (
 .leaf (r76.1,k76))) (
 .ob (B6 (u1.2.1,()) k1 (a1.2.1,()) (u1.1,()) (k43,()) r1.1 r1.2.1) fun r79=>
 .ob k34 fun r80=>letI k77:=(a0.1,r80.2.2.1,r80.2.2.2.1,());
 .br r80.1.1 (
 .ob (Ce k77 r79.1) fun r81=>
 .leaf (r81.1,(a0.1,r81.2.2.1,r81.2.2.2.1,()))) (
 .leaf (r79.1,k77)))))) (
 .ob (Bp k10 ([(1,()),(1,()),(2,()),(0,()),(-1,()),(5,())],())) fun r82=>letI k24:=Ax (a0.1,r82.2.2.1,r82.2.2.2.1,()) ((10:Int),());letI k44:=i64.wrap (u2.1+r82.1.1);
 .br (decide (k44<0)) (
 .ob k24 fun r83=>letI k35:=Ax (a0.1,r83.2.2.1,r83.2.2.2.1,()) ((5:Int),());
 .br r83.1.1 (
 .ob k2 fun r84=>
 .ob k35 fun r85=>letI k78:=(a0.1,r85.2.2.1,r85.2.2.2.1,());
 .br r85.1.1 (
 .ob (Ce k78 r84.1) fun r86=>
 .leaf (r86.1,(a0.1,r86.2.2.1,r86.2.2.2.1,()))) (
 .leaf (r84.1,k78))) (
 .ob k3 fun r87=>
 .ob k35 fun r88=>letI k79:=(a0.1,r88.2.2.1,r88.2.2.2.1,());
 .br r88.1.1 (
 .ob (Ce k79 r87.1) fun r89=>
 .leaf (r89.1,(a0.1,r89.2.2.1,r89.2.2.2.1,()))) (
 .leaf (r87.1,k79)))) (
 .ob k24 fun r90=>letI k36:=Ax (a0.1,r90.2.2.1,r90.2.2.2.1,()) ((5:Int),());
 .br r90.1.1 (
 .ob (B6 (u1.2.1,()) (a1.1,()) (a1.2.1,()) (u1.1,()) (k44,()) r1.1 r1.2.1) fun r91=>
 .ob k36 fun r92=>letI k80:=(a0.1,r92.2.2.1,r92.2.2.2.1,());
 .br r92.1.1 (
 .ob (Ce k80 r91.1) fun r93=>
 .leaf (r93.1,(a0.1,r93.2.2.1,r93.2.2.2.1,()))) (
 .leaf (r91.1,k80))) (
 .ob (B6 (u1.2.1,()) k1 (a1.2.1,()) (u1.1,()) (k44,()) r1.1 r1.2.1) fun r94=>
 .ob k36 fun r95=>letI k81:=(a0.1,r95.2.2.1,r95.2.2.2.1,());
 .br r95.1.1 (
 .ob (Ce k81 r94.1) fun r96=>
 .leaf (r96.1,(a0.1,r96.2.2.1,r96.2.2.2.1,()))) (
 .leaf (r94.1,k81))))))) (
 .br k4 (
 .ob (Ax k45 (2,())) fun r97=>letI k82:=(a0.1,r97.2.2.1,r97.2.2.2.1,());
 .br r97.1.1 (
 .ob k5 fun r98=>letI k84:=(r98.2.1,());
 .ob (Bp k82 ([(1,()),(1,()),(2,()),(0,()),(-1,()),(5,())],())) fun r99=>letI k9:=i64.wrap (r98.2.2.2.1+r99.1.1);letI k25:=Ax (a0.1,r99.2.2.1,r99.2.2.2.1,()) ((10:Int),());
 .br (decide (k9<0)) (
 .ob k25 fun r100=>letI k14:=Ax (a0.1,r100.2.2.1,r100.2.2.2.1,()) ((5:Int),());
 .br r100.1.1 (
 .ob (B6 k84 (a1.1,()) (a1.2.1,()) (r98.1,()) (0,()) r1.1 r1.2.1) fun r101=>
 .ob k14 fun r102=>letI k46:=(a0.1,r102.2.2.1,r102.2.2.2.1,());
 .br r102.1.1 (
 .ob (Ce k46 r101.1) fun r103=>
 .leaf (r103.1,(a0.1,r103.2.2.1,r103.2.2.2.1,()))) (
 .leaf (r101.1,k46))) (
 .ob (B6 k84 k1 (a1.2.1,()) (r98.1,()) (0,()) r1.1 r1.2.1) fun r104=>
 .ob k14 fun r105=>letI k47:=(a0.1,r105.2.2.1,r105.2.2.2.1,());
 .br r105.1.1 (
 .ob (Ce k47 r104.1) fun r106=>
 .leaf (r106.1,(a0.1,r106.2.2.1,r106.2.2.2.1,()))) (
 .leaf (r104.1,k47)))) (
 .ob k25 fun r107=>letI k15:=Ax (a0.1,r107.2.2.1,r107.2.2.2.1,()) ((5:Int),());
 .br r107.1.1 (
 .ob (B6 k84 (a1.1,()) (a1.2.1,()) (r98.1,()) (k9,()) r1.1 r1.2.1) fun r108=>
 .ob k15 fun r109=>letI k48:=(a0.1,r109.2.2.1,r109.2.2.2.1,());
 .br r109.1.1 (
 .ob (Ce k48 r108.1) fun r110=>
 .leaf (r110.1,(a0.1,r110.2.2.1,r110.2.2.2.1,()))) (
 .leaf (r108.1,k48))) (
 .ob (B6 k84 k1 (a1.2.1,()) (r98.1,()) (k9,()) r1.1 r1.2.1) fun r111=>
 .ob k15 fun r112=>letI k49:=(a0.1,r112.2.2.1,r112.2.2.2.1,());
 .br r112.1.1 (
 .ob (Ce k49 r111.1) fun r113=>
 .leaf (r113.1,(a0.1,r113.2.2.1,r113.2.2.2.1,()))) (
 .leaf (r111.1,k49))))) (
 .ob (Bp k82 ([(1,()),(1,()),(2,()),(0,()),(-1,()),(5,())],())) fun r114=>letI k12:=Ax (a0.1,r114.2.2.1,r114.2.2.2.1,()) ((10:Int),());letI k37:=i64.wrap (u2.1+r114.1.1);
 .br (decide (k37<0)) (
 .ob k12 fun r115=>letI k16:=Ax (a0.1,r115.2.2.1,r115.2.2.2.1,()) ((5:Int),());
 .br r115.1.1 (
 .ob k2 fun r116=>
 .ob k16 fun r117=>letI k50:=(a0.1,r117.2.2.1,r117.2.2.2.1,());
 .br r117.1.1 (
 .ob (Ce k50 r116.1) fun r118=>
 .leaf (r118.1,(a0.1,r118.2.2.1,r118.2.2.2.1,()))) (
 .leaf (r116.1,k50))) (
 .ob k3 fun r119=>
 .ob k16 fun r120=>letI k51:=(a0.1,r120.2.2.1,r120.2.2.2.1,());
 .br r120.1.1 (
 .ob (Ce k51 r119.1) fun r121=>
 .leaf (r121.1,(a0.1,r121.2.2.1,r121.2.2.2.1,()))) (
 .leaf (r119.1,k51)))) (
 .ob k12 fun r122=>letI k17:=Ax (a0.1,r122.2.2.1,r122.2.2.2.1,()) ((5:Int),());
 .br r122.1.1 (
 .ob (B6 (u1.2.1,()) (a1.1,()) (a1.2.1,()) (u1.1,()) (k37,()) r1.1 r1.2.1) fun r123=>
 .ob k17 fun r124=>letI k52:=(a0.1,r124.2.2.1,r124.2.2.2.1,());
 .br r124.1.1 (
 .ob (Ce k52 r123.1) fun r125=>
 .leaf (r125.1,(a0.1,r125.2.2.1,r125.2.2.2.1,()))) (
 .leaf (r123.1,k52))) (
 .ob (B6 (u1.2.1,()) k1 (a1.2.1,()) (u1.1,()) (k37,()) r1.1 r1.2.1) fun r126=>
 .ob k17 fun r127=>letI k53:=(a0.1,r127.2.2.1,r127.2.2.2.1,());
 .br r127.1.1 (
 .ob (Ce k53 r126.1) fun r128=>
 .leaf (r128.1,(a0.1,r128.2.2.1,r128.2.2.2.1,()))) (
 .leaf (r126.1,k53)))))) (
 .ob (Bp k45 ([(1,()),(1,()),(2,()),(0,()),(-1,()),(5,())],())) fun r129=>letI k13:=Ax (a0.1,r129.2.2.1,r129.2.2.2.1,()) ((10:Int),());letI k38:=i64.wrap (u2.1+r129.1.1);
 .br (decide (k38<0)) (
 .ob k13 fun r130=>letI k18:=Ax (a0.1,r130.2.2.1,r130.2.2.2.1,()) ((5:Int),());
 .br r130.1.1 (
 .ob k2 fun r131=>
 .ob k18 fun r132=>letI k54:=(a0.1,r132.2.2.1,r132.2.2.2.1,());
 .br r132.1.1 (
 .ob (Ce k54 r131.1) fun r133=>
 .leaf (r133.1,(a0.1,r133.2.2.1,r133.2.2.2.1,()))) (
 .leaf (r131.1,k54))) (
 .ob k3 fun r134=>
 .ob k18 fun r135=>letI k55:=(a0.1,r135.2.2.1,r135.2.2.2.1,());
 .br r135.1.1 (
 .ob (Ce k55 r134.1) fun r136=>
 .leaf (r136.1,(a0.1,r136.2.2.1,r136.2.2.2.1,()))) (
 .leaf (r134.1,k55)))) (
 .ob k13 fun r137=>letI k19:=Ax (a0.1,r137.2.2.1,r137.2.2.2.1,()) ((5:Int),());
 .br r137.1.1 (
 .ob (B6 (u1.2.1,()) (a1.1,()) (a1.2.1,()) (u1.1,()) (k38,()) r1.1 r1.2.1) fun r138=>
 .ob k19 fun r139=>letI k56:=(a0.1,r139.2.2.1,r139.2.2.2.1,());
 .br r139.1.1 (
 .ob (Ce k56 r138.1) fun r140=>
 .leaf (r140.1,(a0.1,r140.2.2.1,r140.2.2.2.1,()))) (
 .leaf (r138.1,k56))) (
 .ob (B6 (u1.2.1,()) k1 (a1.2.1,()) (u1.1,()) (k38,()) r1.1 r1.2.1) fun r141=>
 .ob k19 fun r142=>letI k57:=(a0.1,r142.2.2.1,r142.2.2.2.1,());
 .br r142.1.1 (
 .ob (Ce k57 r141.1) fun r143=>
 .leaf (r143.1,(a0.1,r143.2.2.1,r143.2.2.2.1,()))) (
 .leaf (r141.1,k57))))))
def Z6 a0 a1:=(Ahg a0 a1).val
def Aeq (a0:YI):Tree (YBs):=
 .ob (Bs a0 (0,()) (4294967295,())) fun r1=>
 .br (!r1.1) (
 .leaf ([],())) (
 .ob (Fb ([],()) a0 (4,())) fun r2=>
 .leaf r2)
def Fp a0:=(Aeq a0).val
def Ahh (a0:Aw) (a1:Al):Tree (A8×Ap×Aw):=
 letI u1:=a1.2.2;letI u2:=u1.2.2.2;letI u3:=u2.2.2.2;letI u4:=u3.2.2;letI u5:=u4.2.2.2;letI u6:=u5.2.2;letI u7:=u6.2.2.2;letI k1:=(a1.2.2.2.2.2.2.2.2.2.2.2.2.2.2.2.2.2.2.2.2.1.length:Int);letI k2:=(i64.wrap (u3.1+(1:Int)),());letI k3:=(u1.2.1,u1.2.2.1,u2.1,u2.2.1,u2.2.2.1,u3.1,u3.2.1,u4.1,u4.2.1,u4.2.2.1,u5.1,u5.2.1,u6.1,u6.2.1,u6.2.2.1,());letI k4:=Fp (i64.wrap (u2.1+(1:Int)),());letI k7:=(u7.1,u7.2.1,());letI k10:=Fp (i64.wrap (u4.1+(1:Int)),());letI k22:=(i64.wrap (u5.1+(1:Int)),());.ob (Ax a0 (2,())) fun r1=>letI k23:=(a0.1,r1.2.2.1,r1.2.2.2.1,());
 .br r1.1.1 (
 .ob (Be k23 (7,())) fun r2=>
 .ob (Kd (i64.wrap (1+r2.1.1),())) fun r3=>
 .ob (Z6 (a0.1,r2.2.2.1,r2.2.2.2.1,()) k3) fun r4=>
 .ob (Be (a0.1,r4.2.2.1,r4.2.2.2.1,()) (5,())) fun r5=>letI u8:=r5.2.2;letI k5:=Ax (a0.1,u8.1,u8.2.1,()) ((12:Int),());
 .br (r5.1.1==0) (
 .br (decide (k1>0)) (
 .ob (Be (a0.1,u8.1,u8.2.1,()) (k1,())) fun r6=>
 .ob (idx u7.2.2.1 r6.1.1) fun e7=>
 .ob (B6 (u2.2.1,()) (0,()) (u1.1,()) (u2.1,()) k2 (6,()) (e7.2.2.1,())) fun r8=>
 .ob (Ax (a0.1,r6.2.2.1,r6.2.2.2.1,()) (12,())) fun r9=>letI k24:=(a0.1,r9.2.2.1,r9.2.2.2.1,());
 .br r9.1.1 (
 .ob (E7 k24) fun r10=>
 .leaf (r10.1,r8.1,(a0.1,r10.2.2.1,r10.2.2.2.1,()))) (
 .leaf ((e7.1,e7.2.1,()),r8.1,k24))) (
 .ob k5 fun r11=>letI k11:=(a0.1,r11.2.2.1,r11.2.2.2.1,());
 .br r11.1.1 (
 .ob (E7 k11) fun r12=>
 .leaf (r12.1,r4.1,(a0.1,r12.2.2.1,r12.2.2.2.1,()))) (
 .leaf (r3,r4.1,k11)))) (
 .br (r5.1.1==1) (
 .br u6.1 (
 .ob (Ax (a0.1,u8.1,u8.2.1,()) (2,())) fun r13=>letI k8:=Ax (a0.1,r13.2.2.1,r13.2.2.2.1,()) ((12:Int),());
 .br r13.1.1 (
 .ob k10 fun r14=>
 .ob (B6 (u4.2.1,()) (0,()) (u1.1,()) (u4.1,()) k22 (7,()) r14) fun r15=>
 .ob k8 fun r16=>letI k12:=(a0.1,r16.2.2.1,r16.2.2.2.1,());
 .br r16.1.1 (
 .ob (E7 k12) fun r17=>
 .leaf (r17.1,r15.1,(a0.1,r17.2.2.1,r17.2.2.2.1,()))) (
 .leaf (r3,r15.1,k12))) (
 .ob k4 fun r18=>
 .ob (B6 (u2.2.1,()) (0,()) (u1.1,()) (u2.1,()) k2 (7,()) r18) fun r19=>
 .ob k8 fun r20=>letI k13:=(a0.1,r20.2.2.1,r20.2.2.2.1,());
 .br r20.1.1 (
 .ob (E7 k13) fun r21=>
 .leaf (r21.1,r19.1,(a0.1,r21.2.2.1,r21.2.2.2.1,()))) (
 .leaf (r3,r19.1,k13)))) (
 .ob k4 fun r22=>
 .ob (B6 (u2.2.1,()) (0,()) (u1.1,()) (u2.1,()) k2 (7,()) r22) fun r23=>
 .ob k5 fun r24=>letI k14:=(a0.1,r24.2.2.1,r24.2.2.2.1,());
 .br r24.1.1 (
 .ob (E7 k14) fun r25=>
 .leaf (r25.1,r23.1,(a0.1,r25.2.2.1,r25.2.2.2.1,()))) (
 .leaf (r3,r23.1,k14)))) (
 .ob k5 fun r26=>letI k15:=(a0.1,r26.2.2.1,r26.2.2.2.1,());
 .br r26.1.1 (
 .ob (E7 k15) fun r27=>
 .leaf (r27.1,r4.1,(a0.1,r27.2.2.1,r27.2.2.2.1,()))) (
 .leaf (r3,r4.1,k15))))) (
 .ob (Z6 k23 k3) fun r28=>
 .ob (Be (a0.1,r28.2.2.1,r28.2.2.2.1,()) (5,())) fun r29=>letI u9:=r29.2.2;letI k6:=Ax (a0.1,u9.1,u9.2.1,()) ((12:Int),());
 .br (r29.1.1==0) (
 .br (decide (k1>0)) (
 .ob (Be (a0.1,u9.1,u9.2.1,()) (k1,())) fun r30=>
 .ob (idx u7.2.2.1 r30.1.1) fun e31=>
 .ob (B6 (u2.2.1,()) (0,()) (u1.1,()) (u2.1,()) k2 (6,()) (e31.2.2.1,())) fun r32=>
 .ob (Ax (a0.1,r30.2.2.1,r30.2.2.2.1,()) (12,())) fun r33=>letI k16:=(a0.1,r33.2.2.1,r33.2.2.2.1,());
 .br r33.1.1 (
 .ob (E7 k16) fun r34=>
 .leaf (r34.1,r32.1,(a0.1,r34.2.2.1,r34.2.2.2.1,()))) (
 .leaf ((e31.1,e31.2.1,()),r32.1,k16))) (
 .ob k6 fun r35=>letI k17:=(a0.1,r35.2.2.1,r35.2.2.2.1,());
 .br r35.1.1 (
 .ob (E7 k17) fun r36=>
 .leaf (r36.1,r28.1,(a0.1,r36.2.2.1,r36.2.2.2.1,()))) (
 .leaf (k7,r28.1,k17)))) (
 .br (r29.1.1==1) (
 .br u6.1 (
 .ob (Ax (a0.1,u9.1,u9.2.1,()) (2,())) fun r37=>letI k9:=Ax (a0.1,r37.2.2.1,r37.2.2.2.1,()) ((12:Int),());
 .br r37.1.1 (
 .ob k10 fun r38=>
 .ob (B6 (u4.2.1,()) (0,()) (u1.1,()) (u4.1,()) k22 (7,()) r38) fun r39=>
 .ob k9 fun r40=>letI k18:=(a0.1,r40.2.2.1,r40.2.2.2.1,());
 .br r40.1.1 (
 .ob (E7 k18) fun r41=>
 .leaf (r41.1,r39.1,(a0.1,r41.2.2.1,r41.2.2.2.1,()))) (
 .leaf (k7,r39.1,k18))) (
 .ob k4 fun r42=>
 .ob (B6 (u2.2.1,()) (0,()) (u1.1,()) (u2.1,()) k2 (7,()) r42) fun r43=>
 .ob k9 fun r44=>letI k19:=(a0.1,r44.2.2.1,r44.2.2.2.1,());
 .br r44.1.1 (
 .ob (E7 k19) fun r45=>
 .leaf (r45.1,r43.1,(a0.1,r45.2.2.1,r45.2.2.2.1,()))) (
 .leaf (k7,r43.1,k19)))) (
 .ob k4 fun r46=>
 .ob (B6 (u2.2.1,()) (0,()) (u1.1,()) (u2.1,()) k2 (7,()) r46) fun r47=>
 .ob k6 fun r48=>letI k20:=(a0.1,r48.2.2.1,r48.2.2.2.1,());
 .br r48.1.1 (
 .ob (E7 k20) fun r49=>
 .leaf (r49.1,r47.1,(a0.1,r49.2.2.1,r49.2.2.2.1,()))) (
 .leaf (k7,r47.1,k20)))) (
 .ob k6 fun r50=>letI k21:=(a0.1,r50.2.2.1,r50.2.2.2.1,());
 .br r50.1.1 (
 .ob (E7 k21) fun r51=>
 .leaf (r51.1,r28.1,(a0.1,r51.2.2.1,r51.2.2.2.1,()))) (
 .leaf (k7,r28.1,k21)))))
def Air a0 a1:=(Ahh a0 a1).val
def Pp (a0:Aw) (j:YBs) (r2:A8) (r3:YI×Aw) (e:YBs) (x:Int) (cn sn:YBs) (c:Aw):Tree (YI×A8×YBs×Aw):=
 .ob (Sr j r2 (i64.wrap (1+x),()) cn sn r3.1) fun r16=>
 .ob (Lx e (i64.wrap (1+x),()) (2,0,cn.1,sn.1,r3.1.1,r16.1,[],0,0,[],[],())) fun r17=>
 .ob (Ft r17.1) fun r18=>
 .ob (Ax c (3,())) fun r19=>letI k1:=(a0.1,r19.2.2.1,r19.2.2.2.1,());
 .br r19.1.1 (
 .ob (Ks k1 r18) fun r20=>
 .ob (Bp (a0.1,r20.2.2.1,r20.2.2.2.1,()) ([(0,()),(0,()),(0,()),(10,()),(11,())],())) fun r21=>
 .leaf ((i64.wrap (r3.1.1+r21.1.1),()),r2,r20.1,(a0.1,r21.2.2.1,r21.2.2.2.1,()))) (
 .ob (Bp k1 ([(0,()),(0,()),(0,()),(10,()),(11,())],())) fun r22=>
 .leaf ((i64.wrap (r3.1.1+r22.1.1),()),r2,r18,(a0.1,r22.2.2.1,r22.2.2.2.1,())))
def A5b (a0:Aw) (a1:Bc) (r2:A8) (r3 r4:YI×Aw):Tree (YI×A8×YBs×Aw):=
 letI k1:=(a1.2.2.2.2.2.1.length:Int); .ob (Ci (a0.1,r4.2.2.1,r4.2.2.2.1,()) (12,())) fun r8=>
 .ob (Ci (a0.1,r8.2.2.1,r8.2.2.2.1,()) (12,())) fun r9=>
 .ob (Be (a0.1,r9.2.2.1,r9.2.2.2.1,()) (3,())) fun r10=>letI u1:=r10.2.2;letI k2:=(a0.1,u1.1,u1.2.1,());letI k7:=i64.wrap ((1:Int)+r10.1.1);
 .br (decide (k7<=(a1.1.length:Int))) (
 .ob (idx a1.1 (i64.wrap (k7-1))) fun e11=>
 .br (decide (k1>0)) (
 .ob (Ax k2 (3,())) fun r12=>letI k3:=(a0.1,r12.2.2.1,r12.2.2.2.1,());
 .br r12.1.1 (
 .ob (Be k3 (k1,())) fun r13=>
 .ob (idx a1.2.2.2.2.2.1 r13.1.1) fun e14=>
 .ob (Ax (a0.1,r13.2.2.1,r13.2.2.2.1,()) (2,())) fun r15=>letI k4:=(a0.1,r15.2.2.1,r15.2.2.2.1,());
 .br r15.1.1 (
 Pp a0 (a1.2.1,()) r2 r3 e11 r10.1.1 (e14.2.1,()) (e14.2.2.1,()) k4) (
 Pp a0 (a1.2.1,()) r2 r3 e11 r10.1.1 r8.1 (e14.2.2.1,()) k4)) (
 Pp a0 (a1.2.1,()) r2 r3 e11 r10.1.1 r8.1 r9.1 k3)) (
 Pp a0 (a1.2.1,()) r2 r3 e11 r10.1.1 r8.1 r9.1 k2)) (
 .br (decide (k1>0)) (
 .ob (Ax k2 (3,())) fun r44=>letI k5:=(a0.1,r44.2.2.1,r44.2.2.2.1,());
 .br r44.1.1 (
 .ob (Be k5 (k1,())) fun r45=>
 .ob (idx a1.2.2.2.2.2.1 r45.1.1) fun e46=>
 .ob (Ax (a0.1,r45.2.2.1,r45.2.2.2.1,()) (2,())) fun r47=>letI k6:=(a0.1,r47.2.2.1,r47.2.2.2.1,());
 .br r47.1.1 (
 Pp a0 (a1.2.1,()) r2 r3 ([(1,())],()) r10.1.1 (e46.2.1,()) (e46.2.2.1,()) k6) (
 Pp a0 (a1.2.1,()) r2 r3 ([(1,())],()) r10.1.1 r8.1 (e46.2.2.1,()) k6)) (
 Pp a0 (a1.2.1,()) r2 r3 ([(1,())],()) r10.1.1 r8.1 r9.1 k5)) (
 Pp a0 (a1.2.1,()) r2 r3 ([(1,())],()) r10.1.1 r8.1 r9.1 k2))
def Ahi (a0:Aw) (a1:Bc):Tree (YI×A8×YBs×Aw):=
 letI k2:=(a1.2.2.2.2.2.1.length:Int); .ob (Be a0 (9,())) fun r1=>
 .ob (Kd (i64.wrap (1+r1.1.1),())) fun r2=>
 .ob (Bp (a0.1,r1.2.2.1,r1.2.2.2.1,()) ([(0,()),(5,()),(6,()),(8,()),(300,()),(95,())],())) fun r3=>
 .ob (Be (a0.1,r3.2.2.1,r3.2.2.2.1,()) (5,())) fun r4=>letI u1:=r4.2.2;letI k1:=(a0.1,u1.1,u1.2.1,());
 .br (r4.1.1==0) (
 .ob (Be k1 (4,())) fun r5=>
 .ob (Ci (a0.1,r5.2.2.1,r5.2.2.2.1,()) (12,())) fun r6=>
 .ob (Ft (1,i64.wrap (1+r5.1.1),r6.1.1,[],0,[],[],0,0,[],[],())) fun r7=>
 .leaf (r3.1,r2,r7,(a0.1,r6.2.2.1,r6.2.2.2.1,()))) (
 .br (r4.1.1==1) (A5b a0 a1 r2 r3 r4) (
 .br (r4.1.1==2) (A5b a0 a1 r2 r3 r4) (
 .br (r4.1.1==3) (
 .br (decide (k2>0)) (
 .ob (Be k1 (k2,())) fun r144=>
 .ob (idx a1.2.2.2.2.2.1 r144.1.1) fun e145=>
 .ob (Air (a0.1,r144.2.2.1,r144.2.2.2.1,()) e145) fun r146=>
 .ob (Bp (a0.1,r146.2.2.2.1,r146.2.2.2.2.1,()) ([(0,()),(5,()),(6,()),(8,())],())) fun r147=>
 .ob (Ft r146.2.1) fun r148=>
 .leaf (r147.1,r146.1,r148,(a0.1,r147.2.2.1,r147.2.2.2.1,()))) (
 .ob (Be k1 (80,())) fun r149=>
 .ob (Ci (a0.1,r149.2.2.1,r149.2.2.2.1,()) r149.1) fun r150=>
 .leaf (r3.1,r2,r150.1,(a0.1,r150.2.2.1,r150.2.2.2.1,())))) (
 .ob (Be k1 (80,())) fun r151=>
 .ob (Ci (a0.1,r151.2.2.1,r151.2.2.2.1,()) r151.1) fun r152=>
 .leaf (r3.1,r2,r152.1,(a0.1,r152.2.2.1,r152.2.2.2.1,()))))))
def Ais a0 a1:=(Ahi a0 a1).val
def Mu (a0:YBs):Tree (Bc×YI×A8×YBs):=
 .ob (Azc a0) fun r1=>
 .ob (Ato r1) fun r2=>
 .ob (Ais (r1.1,r2.2.2.1,r2.2.2.2.1,()) r2.1) fun r3=>letI u1:=r3.2.2;
 .ob (Ax (r1.1,u1.2.2.1,u1.2.2.2.1,()) (12,())) fun r4=>letI k1:=(r1.1,r4.2.2.1,r4.2.2.2.1,());
 .br r4.1.1 (
 .ob (Akj k1) fun r5=>
 .ob (Ax (r1.1,r5.2.2.1,r5.2.2.2.1,()) (12,())) fun r6=>
 .br r6.1.1 (
 .ob (E7 (r1.1,r6.2.2.1,r6.2.2.2.1,())) fun r7=>
 .leaf (r2.1,r5.1,r7.1,u1.1)) (
 .leaf (r2.1,r5.1,r3.2.1,u1.1))) (
 .ob (Ax k1 (12,())) fun r8=>
 .br r8.1.1 (
 .ob (E7 (r1.1,r8.2.2.1,r8.2.2.2.1,())) fun r9=>
 .leaf (r2.1,r3.1,r9.1,u1.1)) (
 .leaf (r2.1,r3.1,r3.2.1,u1.1)))
def Hy a0:=(Mu a0).val
def Ax8 (a0:YBs):Tree (YBs):=
 .chk (decide (([]:List YB).length+a0.1.length<=4294967296)) <|
 .leaf (([]:List YB)++a0.1,())
def Bq a0:=(Ax8 a0).val
def Lf:Lst (List YBs×List YBs×Int×Int×Unit) (List YBs×Unit):=fun x1=>
 letI u1:=x1.2.2;Tree.val <|
 .br (decide (u1.2.1<u1.1)) (
 .ob (idx x1.2.1 u1.2.1) fun e2=>
 .ob (Bq e2) fun r3=>
 .chk (decide (x1.1.length+[r3].length<=4294967296)) <|
 .leaf (.inl (x1.1++[r3],x1.2.1,u1.1,i64.wrap (u1.2.1+1),()))) (
 .leaf (.inr (x1.1,())))
def Ahj (a0:List YBs×Unit):Tree (List YBs×Unit):=
 .ob (A0 Lf ([],a0.1,(a0.1.length:Int),0,())) fun o4=>
 .leaf o4
def Ait a0:=(Ahj a0).val
def Amg (a0:Dg):Tree (Dg):=
 .chk (decide (([]:List YI).length+a0.2.1.length<=4294967296)) <|
 .leaf (a0.1,([]:List YI)++a0.2.1,())
def Ac9 a0:=(Amg a0).val
def Arv (a0:YEp):Tree (YEp):=
 .ob (Bq (a0.2.1,())) fun r1=>
 .ob (Ac9 (a0.2.2.2.1,a0.2.2.2.2.1,())) fun r2=>
 .leaf (a0.1,r1.1,a0.2.2.1,r2.1,r2.2.1,())
def T8 a0:=(Arv a0).val
def Ahk (a0:Au):Tree (Au):=
 letI u1:=a0.2.2.2;letI u2:=u1.2.2.2;letI u3:=u2.2.2.2.2;.ob (Bq (a0.2.1,())) fun r1=>
 .ob (Bq (u3.2.2.2.2.1,())) fun r2=>
 .ob (T8 (a0.2.2.1,u1.1,u1.2.1,u1.2.2.1,u2.1,())) fun r3=>
 .ob (T8 (u2.2.1,u2.2.2.1,u2.2.2.2.1,u3.1,u3.2.1,())) fun r4=>
 .leaf (a0.1,r1.1,r3.1,r3.2.1,r3.2.2.1,r3.2.2.2.1,r3.2.2.2.2.1,r4.1,r4.2.1,r4.2.2.1,r4.2.2.2.1,r4.2.2.2.2.1,u3.2.2.1,u3.2.2.2.1,r2.1,())
def Ih a0:=(Ahk a0).val
def J2:Lst (List Bb×Int×Int×Int×Int×List Bb×Int×Int×List Bb×Unit) (Int×Int×List Bb×Int×Int×List Bb×Unit):=fun x1=>
 letI u1:=x1.2.2;letI u2:=u1.2.2;letI u3:=u2.2.2;Tree.val <|
 .br (decide (u1.1<x1.2.1)) (
 .ob (idx x1.1 u1.1) fun e2=>
 .ob (Bq (e2.2.2.1,())) fun r3=>letI k1:=(e2.1,e2.2.1,r3.1,e2.2.2.2.1,());
 .chk (decide (x1.2.2.2.2.2.2.2.2.1.length+[k1].length<=4294967296)) <|
 .leaf (.inl (x1.1,x1.2.1,i64.wrap (u1.1+1),u1.2.1,u2.1,u2.2.1,u3.1,u3.2.1,u3.2.2.1++[k1],()))) (
 .leaf (.inr (u1.2.1,u2.1,u2.2.1,u3.1,u3.2.1,u3.2.2.1,())))
def Aer (a0:Bn):Tree (Bn):=
 .ob (A0 J2 (a0.2.2.1,(a0.2.2.1.length:Int),0,0,0,[],a0.1,a0.2.1,[],())) fun o4=>
 .leaf (o4.2.2.2.1,o4.2.2.2.2.1,o4.2.2.2.2.2.1,())
def Fr a0:=(Aer a0).val
def Ahl (a0:Al):Tree (Al):=
 letI u1:=a0.2.2.2;letI u2:=u1.2.2.2;letI u3:=u2.2.2.2;letI u4:=u3.2.2.2;letI u5:=u4.2.2.2;letI u6:=u5.2.2.2.2;.ob (Bq (a0.2.1,())) fun r1=>
 .ob (Bq (a0.2.2.1,())) fun r2=>
 .ob (Ih (u1.1,u1.2.1,u1.2.2.1,u2.1,u2.2.1,u2.2.2.1,u3.1,u3.2.1,u3.2.2.1,u4.1,u4.2.1,u4.2.2.1,u5.1,u5.2.1,u5.2.2.1,())) fun r3=>letI u7:=r3.2.2.2;letI u8:=u7.2.2.2;letI u9:=u8.2.2.2.2;
 .ob (Fr (u5.2.2.2.1,u6.1,u6.2.1,())) fun r4=>
 .leaf (a0.1,r1.1,r2.1,r3.1,r3.2.1,r3.2.2.1,u7.1,u7.2.1,u7.2.2.1,u8.1,u8.2.1,u8.2.2.1,u8.2.2.2.1,u9.1,u9.2.1,u9.2.2.1,u9.2.2.2.1,u9.2.2.2.2.1,r4.1,r4.2.1,r4.2.2.1,u6.2.2.1,u6.2.2.2.1,u6.2.2.2.2.1,())
def Lz a0:=(Ahl a0).val
def Mi:Lst (List Al×Int×Int×Int×List Al×Int×List Al×Unit) (Int×List Al×Int×List Al×Unit):=fun x1=>
 letI u1:=x1.2.2;letI u2:=u1.2.2;Tree.val <|
 .br (decide (u1.1<x1.2.1)) (
 .ob (idx x1.1 u1.1) fun e2=>
 .ob (Lz e2) fun r3=>
 .chk (decide (x1.2.2.2.2.2.2.1.length+[r3].length<=4294967296)) <|
 .leaf (.inl (x1.1,x1.2.1,i64.wrap (u1.1+1),u1.2.1,u2.1,u2.2.1,u2.2.2.1++[r3],()))) (
 .leaf (.inr (u1.2.1,u2.1,u2.2.1,u2.2.2.1,())))
def Ami (a0:Ck):Tree (Ck):=
 .ob (A0 Mi (a0.2.1,(a0.2.1.length:Int),0,0,[],a0.1,[],())) fun o4=>
 .leaf (o4.2.2.1,o4.2.2.2.1,())
def Ra a0:=(Ami a0).val
def Zd (a0:List An×Unit):Tree (List An×Unit):=
 .chk (decide (([]:List An).length+a0.1.length<=4294967296)) <|
 .leaf (([]:List An)++a0.1,())
def M4 a0:=(Zd a0).val
def Abh (a0:Bc):Tree (Bc):=
 letI u1:=a0.2.2.2;.ob (Ait (a0.1,())) fun r1=>
 .ob (Bq (a0.2.1,())) fun r2=>
 .ob (Bq (a0.2.2.1,())) fun r3=>
 .ob (Ra (u1.2.1,u1.2.2.1,())) fun r4=>
 .ob (M4 (u1.2.2.2.1,())) fun r5=>
 .leaf (r1.1,r2.1,r3.1,u1.1,r4.1,r4.2.1,r5.1,())
def Abn a0:=(Abh a0).val
def Arw (a0 a1 a2:YI):Tree (Bool×Unit):=
 .br (decide (a0.1≥a1.1)) (
 .leaf (decide (a0.1<=a2.1),())) (
 .leaf (false,()))
def Bl a0 a1 a2:=(Arw a0 a1 a2).val
def Bcr (a0:YBs):Tree (Bool×Unit):=
 .leaf ((a0.1.length:Int)==32,())
def Akk a0:=(Bcr a0).val
def Arz (a0:Gq):Tree (Bool×Unit):=
 .ob (Bl ((a0.1.length:Int),()) (1,()) (32,())) fun r1=>
 .br r1.1 (
 .ob (Bl (a0.2.1,()) (0,()) (10000,())) fun r2=>
 .leaf r2) (
 .leaf (false,()))
def Af2 a0:=(Arz a0).val
def Ko:Lst (Int×List Al×Int×Int×Unit) (YI):=fun x1=>
 letI u1:=x1.2.2;letI k1:=i64.wrap (u1.2.1+(1:Int));Tree.val <|
 .br (decide (u1.2.1<u1.1)) (
 .ob (idx x1.2.1 u1.2.1) fun e2=>
 .br (!e2.2.2.2.2.2.2.2.2.2.2.2.2.2.2.2.2.2.2.2.2.2.2.2.1) (
 .leaf (.inl (i64.wrap (x1.1+1),x1.2.1,u1.1,k1,()))) (
 .leaf (.inl (x1.1,x1.2.1,u1.1,k1,())))) (
 .leaf (.inr (x1.1,())))
def Ar0 (a0:Ck):Tree (YI):=
 .ob (A0 Ko (0,a0.2.1,(a0.2.1.length:Int),0,())) fun o3=>
 .leaf o3
def Wl a0:=(Ar0 a0).val
def A2g (a0:YBs):Tree (Bool×Unit):=
 .leaf ((a0.1.length:Int)==12,())
def D5 a0:=(A2g a0).val
def Av1 (a0 a1:YBs):Tree (Bool×Unit):=
 .leaf (decide ((Ht a0.1)=(Ht a1.1)),())
def B7 a0 a1:=(Av1 a0 a1).val
def Aom:Lst (List YI×List YI×Int×Int×Unit) ((Bool×Unit)⊕(Unit)):=fun x1=>
 letI u1:=x1.2.2;Tree.val <|
 .br (decide (u1.2.1<u1.1)) (
 .ob (idx x1.2.1 u1.2.1) fun e2=>
 .ob (idx x1.1 u1.2.1) fun e3=>
 .br (e2.1 != e3.1) (
 .leaf (.inr (.inl (false,())))) (
 .leaf (.inl (x1.1,x1.2.1,u1.1,i64.wrap (u1.2.1+1),())))) (
 .leaf (.inr (.inr ())))
def Ahn (a0 a1:List YI×Unit):Tree (Bool×Unit):=
 .br ((a0.1.length:Int) != (a1.1.length:Int)) (
 .leaf (false,())) (
 .ob (A0 Aom (a1.1,a0.1,(a0.1.length:Int),0,())) fun o4=>
 .sm o4 (fun o5=>
 .leaf o5) (fun o6=>
 .leaf (true,())))
def Aiu a0 a1:=(Ahn a0 a1).val
def Ar2 (a0 a1:YEp):Tree (Bool×Unit):=
 .br (a0.1==a1.1) (
 .ob (B7 (a0.2.1,()) (a1.2.1,())) fun r1=>
 .br r1.1 (
 .br (a0.2.2.1==a1.2.2.1) (
 .br (a0.2.2.2.1==a1.2.2.2.1) (
 .ob (Aiu (a0.2.2.2.2.1,()) (a1.2.2.2.2.1,())) fun r2=>
 .leaf r2) (
 .leaf (false,()))) (
 .leaf (false,()))) (
 .leaf (false,()))) (
 .leaf (false,()))
def Z7 a0 a1:=(Ar2 a0 a1).val
def Abi (a0:Au):Tree (Bool×Unit):=
 letI u1:=a0.2.2.2;letI u2:=u1.2.2.2;letI u3:=u2.2.2.2;.br (a0.1==0) (
 .br ((a0.2.1.length:Int)==0) (
 .ob (Z7 (a0.2.2.1,u1.1,u1.2.1,u1.2.2.1,u2.1,()) (0,[],0,0,[],())) fun r1=>
 .br r1.1 (
 .ob (Z7 (u2.2.1,u2.2.2.1,u3.1,u3.2.1,u3.2.2.1,()) (0,[],0,0,[],())) fun r2=>
 .br r2.1 (
 .br (!u3.2.2.2.1) (
 .br (u3.2.2.2.2.1==0) (
 .leaf ((a0.2.2.2.2.2.2.2.2.2.2.2.2.2.2.1.length:Int)==0,())) (
 .leaf (false,()))) (
 .leaf (false,()))) (
 .leaf (false,()))) (
 .leaf (false,()))) (
 .leaf (false,()))) (
 .leaf (false,()))
def Abo a0:=(Abi a0).val
def Ar3 (a0:YI):Tree (Bool×Unit):=
 .br (a0.1==0) (
 .leaf (true,())) (
 .leaf (a0.1==1,()))
def Pq a0:=(Ar3 a0).val
def Od:Lst (List YI×Int×List YI×Int×Int×Unit) ((Bool×Unit)⊕(List YI×Int×Unit)):=fun x1=>
 letI u1:=x1.2.2;Tree.val <|
 .br (decide (u1.2.2.1<u1.2.1)) (
 .ob (idx u1.1 u1.2.2.1) fun e2=>
 .ob (Bl e2 (0,()) (4294967295,())) fun r3=>
 .br (!r3.1) (
 .leaf (.inr (.inl (false,())))) (
 .leaf (.inl (x1.1,x1.2.1,u1.1,u1.2.1,i64.wrap (u1.2.2.1+1),())))) (
 .leaf (.inr (.inr (x1.1,x1.2.1,()))))
def Aho (a0:List YI×Unit) (a1:YI):Tree (Bool×Unit):=
 .ob (A0 Od (a0.1,a1.1,a0.1,(a0.1.length:Int),0,())) fun o4=>
 .sm o4 (fun o5=>
 .leaf o5) (fun o6=>
 .leaf ((o6.1.length:Int)==o6.2.1,()))
def Ss a0 a1:=(Aho a0 a1).val
def Ar5 (a0:Dg) (a1:YI):Tree (Bool×Unit):=
 letI k1:=decide ((0:Int)<=a1.1); .chk k1 <|
 .chk (decide (0<=(a1.1%1024))) <|
 .ob (idx a0.2.1 ((a1.1%1024)/(32:Int))) fun e1=>
 .chk k1 <|
 .chk (decide (0<=(a1.1%32))) <|
 .leaf ((i64.wrap ((BitVec.ofInt i64.bits (Int.fdiv e1.1 (2^(min (a1.1%32).toNat i64.bits))) &&& BitVec.ofInt i64.bits 1).toNat:Nat))==1,())
def Z8 a0 a1:=(Ar5 a0 a1).val
def Q3:Lst (Int×Int×List YI×Unit) ((Bool×Unit)⊕Dg):=fun x3=>
 Tree.val <|
 .br (decide (x3.1<1024)) (
 .ob (Z8 (x3.2.1,x3.2.2.1,()) (x3.1,())) fun r4=>
 .br r4.1 (
 .leaf (.inr (.inl (false,())))) (
 .leaf (.inl (i64.wrap (x3.1+1),x3.2.1,x3.2.2.1,())))) (
 .leaf (.inr (.inr (x3.2.1,x3.2.2.1,()))))
def Ayd (a0:Dg):Tree (Bool×Unit):=
 .ob (Bl (a0.1,()) (-1,()) (281474976710655,())) fun r1=>
 .br (!r1.1) (
 .leaf (false,())) (
 .ob (Ss (a0.2.1,()) (32,())) fun r2=>
 .br (!r2.1) (
 .leaf (false,())) (
 .ob (A0 Q3 (i64.wrap (a0.1+1),a0.1,a0.2.1,())) fun o5=>
 .sm o5 (fun o6=>
 .leaf o6) (fun o7=>
 .br (o7.1==(-1:Int)) (
 .leaf (true,())) (
 .ob (Z8 o7 (o7.1,())) fun r8=>
 .leaf r8))))
def Akl a0:=(Ayd a0).val
def A4f (a0:YEp):Tree (Bool×Unit):=
 .ob (Bl (a0.1,()) (0,()) (4294967295,())) fun r1=>
 .br r1.1 (
 .br ((a0.2.1.length:Int)==32) (
 .ob (Bl (a0.2.2.1,()) (0,()) (281474976710656,())) fun r2=>
 .br r2.1 (
 .ob (Akl (a0.2.2.2.1,a0.2.2.2.2.1,())) fun r3=>
 .leaf r3) (
 .leaf (false,()))) (
 .leaf (false,()))) (
 .leaf (false,()))
def Abp a0:=(A4f a0).val
def Aye (a0:Au):Tree (Bool×Unit):=
 letI u1:=a0.2.2.2.2.2.2.2;letI u2:=u1.2.2;letI u3:=u2.2.2;letI k1:=(u1.1,u1.2.1,u2.1,u2.2.1,u3.1,());.br (!u3.2.1) (
 .ob (Z7 k1 (0,[],0,0,[],())) fun r1=>
 .br r1.1 (
 .leaf (u3.2.2.1==0,())) (
 .leaf (false,()))) (
 .ob (Abp k1) fun r2=>
 .br (!r2.1) (
 .leaf (false,())) (
 .br (u1.1 != i64.wrap (a0.2.2.1-1)) (
 .leaf (false,())) (
 .ob (Bl (u3.2.2.1,()) (0,()) (1000005,())) fun r3=>
 .br r3.1 (
 .leaf (true,())) (
 .br (u3.2.2.1==(-1:Int)) (
 .leaf (a0.1==1,())) (
 .leaf (false,()))))))
def Azi a0:=(Aye a0).val
def Ar6 (a0:Au):Tree (Bool×Unit):=
 letI u1:=a0.2.2;letI k1:=(a0.2.2.2.2.2.2.2.2.2.2.2.2.2.2.1.length:Int);.ob (Pq (a0.1,())) fun r1=>
 .br (!r1.1) (
 .leaf (false,())) (
 .ob (D5 (a0.2.1,())) fun r2=>
 .br (!r2.1) (
 .leaf (false,())) (
 .ob (Abp (u1.1,u1.2.1,u1.2.2.1,u1.2.2.2.1,u1.2.2.2.2.1,())) fun r3=>
 .br (!r3.1) (
 .leaf (false,())) (
 .ob (Azi a0) fun r4=>
 .br (!r4.1) (
 .leaf (false,())) (
 .br (k1==0) (
 .leaf (true,())) (
 .br (a0.1==0) (
 .br (k1==32) (
 .leaf (decide (u1.1<4294967295),())) (
 .leaf (false,()))) (
 .leaf (false,())))))))
def Kt a0:=(Ar6 a0).val
def Ar7 (a0:A8):Tree (Bool×Unit):=
 .ob (Bl (a0.1,()) (0,()) (4294967295,())) fun r1=>
 .br r1.1 (
 .ob (Bl (a0.2.1,()) (0,()) (65535,())) fun r2=>
 .leaf r2) (
 .leaf (false,()))
def Ha a0:=(Ar7 a0).val
def Kc:Lst (List Bb×Int×Int×List Bb×Int×Int×Int×Int×List Bb×Int×Int×List YB×Int×Unit) ((Bool×Unit)⊕(List Bb×Int×Int×Int×Int×List Bb×Unit)):=fun x7=>
 letI u1:=x7.2.2;letI u2:=u1.2.2.2;letI u3:=u2.2.2;letI u4:=u3.2.2;Tree.val <|
 .br (decide (u2.1<u1.2.2.1)) (
 .ob (idx u1.2.1 u2.1) fun e8=>
 .br (and (e8.1==u4.1) (and (e8.2.1==u4.2.1) true)) (
 .leaf (.inr (.inl (false,())))) (
 .leaf (.inl (x7.1,x7.2.1,u1.1,u1.2.1,u1.2.2.1,i64.wrap (u2.1+1),u2.2.1,u3.1,u3.2.1,u4.1,u4.2.1,u4.2.2.1,u4.2.2.2.1,())))) (
 .leaf (.inr (.inr (x7.1,x7.2.1,u1.1,u2.2.1,u3.1,u3.2.1,()))))
def Mj:Lst (List Bb×Int×Int×Int×Int×List Bb×Unit) ((Bool×Unit)⊕(Unit)):=fun x2=>
 letI u1:=x2.2.2;letI k1:=(x2.2.2.2.2.2.1.take (u1.1).toNat).drop (0:Int).toNat;Tree.val <|
 .br (decide (u1.1<x2.2.1)) (
 .ob (idx x2.1 u1.1) fun e3=>
 .ob (Ha (e3.1,e3.2.1,())) fun r4=>
 .br (!r4.1) (
 .leaf (.inr (.inl (false,())))) (
 .br (and (e3.1==u1.2.1) (and (e3.2.1==u1.2.2.1) true)) (
 .leaf (.inr (.inl (false,())))) (
 .ob (D5 (e3.2.2.1,())) fun r5=>
 .br (!r5.1) (
 .leaf (.inr (.inl (false,())))) (
 .ob (Bl (e3.2.2.2.1,()) (0,()) (1000006,())) fun r6=>
 .br (!r6.1) (
 .leaf (.inr (.inl (false,())))) (
 .chk (decide (0<=u1.1)) <|
 .chk (decide (u1.1<=(x2.2.2.2.2.2.1.length:Int))) <|
 .ob (A0 Kc (x2.1,x2.2.1,u1.1,k1,(k1.length:Int),0,u1.2.1,u1.2.2.1,u1.2.2.2.1,e3.1,e3.2.1,e3.2.2.1,e3.2.2.2.1,())) fun o9=>
 .sm o9 (fun o10=>
 .leaf (.inr (.inl o10))) (fun o11=>
 .leaf (.inl (o11.1,o11.2.1,i64.wrap (o11.2.2.1+1),o11.2.2.2.1,o11.2.2.2.2.1,o11.2.2.2.2.2.1,())))))))) (
 .leaf (.inr (.inr ())))
def Acq (a0:Bn):Tree (Bool×Unit):=
 .ob (Ha (a0.1,a0.2.1,())) fun r1=>
 .br (!r1.1) (
 .leaf (false,())) (
 .br (decide ((a0.2.2.1.length:Int)>3)) (
 .leaf (false,())) (
 .ob (A0 Mj (a0.2.2.1,(a0.2.2.1.length:Int),0,a0.1,a0.2.1,a0.2.2.1,())) fun o12=>
 .sm o12 (fun o13=>
 .leaf o13) (fun o14=>
 .leaf (true,()))))
def Vd a0:=(Acq a0).val
def Ar8 (a0:Al):Tree (Bool×Unit):=
 letI u1:=a0.2.2;letI u2:=u1.2.2;letI u3:=u2.2.2;letI u4:=u3.2.2;letI u5:=u4.2.2;letI u6:=u5.2.2;letI u7:=u6.2.2;letI u8:=u7.2.2;letI u9:=u8.2.2;letI u10:=u9.2.2.2;letI k1:=(u1.2.1,u2.1,u2.2.1,u3.1,u3.2.1,u4.1,u4.2.1,u5.1,u5.2.1,u6.1,u6.2.1,u7.1,u7.2.1,u8.1,u8.2.1,());.ob (Bl (a0.1,()) (1,()) (9,())) fun r1=>
 .br (!r1.1) (
 .leaf (false,())) (
 .ob (D5 (a0.2.1,())) fun r2=>
 .br (!r2.1) (
 .leaf (false,())) (
 .ob (D5 (u1.1,())) fun r3=>
 .br (!r3.1) (
 .leaf (false,())) (
 .ob (Bl (u10.1,()) (0,()) (1000000,())) fun r4=>
 .br (!r4.1) (
 .leaf (false,())) (
 .br u10.2.2.1 (
 .ob (Abo k1) fun r5=>
 .br r5.1 (
 .br (and (u9.1==0) (and (u9.2.1==0) true)) (
 .br ((a0.2.2.2.2.2.2.2.2.2.2.2.2.2.2.2.2.2.2.2.2.1.length:Int)==0) (
 .leaf (u10.2.1==0,())) (
 .leaf (false,()))) (
 .leaf (false,()))) (
 .leaf (false,()))) (
 .ob (Kt k1) fun r6=>
 .br r6.1 (
 .br (u1.2.1==1) (
 .ob (B7 (u2.1,()) (u1.1,())) fun r7=>
 .br r7.1 (
 .ob (Vd (u9.1,u9.2.1,u9.2.2.1,())) fun r8=>
 .br r8.1 (
 .ob (Bl (u10.2.1,()) (0,()) (1000000,())) fun r9=>
 .leaf r9) (
 .leaf (false,()))) (
 .leaf (false,()))) (
 .leaf (false,()))) (
 .leaf (false,())))))))
def T9 a0:=(Ar8 a0).val
def R8:Lst (List YB×List Al×Int×Int×Unit) (YI⊕(Unit)):=fun x1=>
 letI u1:=x1.2.2;Tree.val <|
 .br (decide (u1.2.1<u1.1)) (
 .ob (idx x1.2.1 u1.2.1) fun e2=>
 .ob (B7 (e2.2.2.1,()) (x1.1,())) fun r3=>
 .br r3.1 (
 .leaf (.inr (.inl (u1.2.1,())))) (
 .leaf (.inl (x1.1,x1.2.1,u1.1,i64.wrap (u1.2.1+1),())))) (
 .leaf (.inr (.inr ())))
def Ar9 (a0:Ck) (a1:YBs):Tree (YI):=
 .ob (A0 R8 (a1.1,a0.2.1,(a0.2.1.length:Int),0,())) fun o4=>
 .sm o4 (fun o5=>
 .leaf o5) (fun o6=>
 .leaf (-1,()))
def M5 a0 a1:=(Ar9 a0 a1).val
def U7:Lst (List Al×Int×Int×Int×List Al×Unit) ((Bool×Unit)⊕(Unit)):=fun x3=>
 letI u1:=x3.2.2;Tree.val <|
 .br (decide (u1.1<x3.2.1)) (
 .ob (idx x3.1 u1.1) fun e4=>
 .ob (T9 e4) fun r5=>
 .br (!r5.1) (
 .leaf (.inr (.inl (false,())))) (
 .ob (M5 (u1.2.1,u1.2.2.1,()) (e4.2.2.1,())) fun r6=>
 .br (decide (r6.1<u1.1)) (
 .leaf (.inr (.inl (false,())))) (
 .leaf (.inl (x3.1,x3.2.1,i64.wrap (u1.1+1),u1.2.1,u1.2.2.1,()))))) (
 .leaf (.inr (.inr ())))
def Ayf (a0:Ck):Tree (Bool×Unit):=
 .ob (Bl (a0.1,()) (1,()) (6,())) fun r1=>
 .br (!r1.1) (
 .leaf (false,())) (
 .br (decide ((a0.2.1.length:Int)>12)) (
 .leaf (false,())) (
 .ob (Wl a0) fun r2=>
 .br (decide (r2.1>a0.1)) (
 .leaf (false,())) (
 .ob (A0 U7 (a0.2.1,(a0.2.1.length:Int),0,a0.1,a0.2.1,())) fun o7=>
 .sm o7 (fun o8=>
 .leaf o8) (fun o9=>
 .leaf (true,())))))
def W8 a0:=(Ayf a0).val
def Oe:Lst (List An×Int×Int×Int×Int×Unit) (YI⊕(Unit)):=fun x1=>
 letI u1:=x1.2.2;Tree.val <|
 .br (decide (u1.1<x1.2.1)) (
 .ob (idx x1.1 u1.1) fun e2=>
 .br (and (e2.1==u1.2.1) (and (e2.2.1==u1.2.2.1) true)) (
 .leaf (.inr (.inl (u1.1,())))) (
 .leaf (.inl (x1.1,x1.2.1,i64.wrap (u1.1+1),u1.2.1,u1.2.2.1,())))) (
 .leaf (.inr (.inr ())))
def Ahr (a0:List An×Unit) (a1:A8):Tree (YI):=
 .ob (A0 Oe (a0.1,(a0.1.length:Int),0,a1.1,a1.2.1,())) fun o3=>
 .sm o3 (fun o4=>
 .leaf o4) (fun o5=>
 .leaf (-1,()))
def Oo a0 a1:=(Ahr a0 a1).val
def Mw:Lst (List An×List An×Int×Int×Unit) ((Bool×Unit)⊕(Unit)):=fun x1=>
 letI u1:=x1.2.2;Tree.val <|
 .br (decide (u1.2.1<u1.1)) (
 .ob (idx x1.2.1 u1.2.1) fun e2=>
 .ob (Ha (e2.1,e2.2.1,())) fun r3=>
 .br (!r3.1) (
 .leaf (.inr (.inl (false,())))) (
 .ob (Bl (e2.2.2.1,()) (0,()) (1000000,())) fun r4=>
 .br (!r4.1) (
 .leaf (.inr (.inl (false,())))) (
 .ob (Bl (e2.2.2.2.1,()) (0,()) (i64.wrap (3*e2.2.2.1),())) fun r5=>
 .br (!r5.1) (
 .leaf (.inr (.inl (false,())))) (
 .ob (Oo (x1.1,()) (e2.1,e2.2.1,())) fun r6=>
 .br (decide (r6.1<u1.2.1)) (
 .leaf (.inr (.inl (false,())))) (
 .leaf (.inl (x1.1,x1.2.1,u1.1,i64.wrap (u1.2.1+1),()))))))) (
 .leaf (.inr (.inr ())))
def Aet (a0:List An×Unit):Tree (Bool×Unit):=
 .br (decide ((a0.1.length:Int)>8)) (
 .leaf (false,())) (
 .ob (A0 Mw (a0.1,a0.1,(a0.1.length:Int),0,())) fun o7=>
 .sm o7 (fun o8=>
 .leaf o8) (fun o9=>
 .leaf (true,())))
def Mo a0:=(Aet a0).val
def Ayg (a0:YBs):Tree (Bool×Unit):=
 .ob (Bl ((a0.1.length:Int),()) (1,()) (32,())) fun r1=>
 .leaf r1
def W9 a0:=(Ayg a0).val
def Lg:Lst (List YBs×Int×Int×List YBs×List YB×List YB×Int×Int×List Al×List An×Unit) ((Bool×Unit)⊕Bc):=fun x6=>
 letI u1:=x6.2.2;letI u2:=u1.2.2;letI u3:=u2.2.2.2;Tree.val <|
 .br (decide (u1.1<x6.2.1)) (
 .ob (idx x6.1 u1.1) fun e7=>
 .ob (W9 e7) fun r8=>
 .br (!r8.1) (
 .leaf (.inr (.inl (false,())))) (
 .leaf (.inl (x6.1,x6.2.1,i64.wrap (u1.1+1),u1.2.1,u2.1,u2.2.1,u2.2.2.1,u3.1,u3.2.1,u3.2.2.1,())))) (
 .leaf (.inr (.inr (u1.2.1,u2.1,u2.2.1,u2.2.2.1,u3.1,u3.2.1,u3.2.2.1,()))))
def J3:Lst (List Al×Int×Int×List YBs×List YB×List YB×Int×Int×List Al×List An×Unit) ((Bool×Unit)⊕(Unit)):=fun x12=>
 letI u1:=x12.2.2;letI u2:=u1.2.2.2;Tree.val <|
 .br (decide (u1.1<x12.2.1)) (
 .ob (idx x12.1 u1.1) fun e13=>
 .br (decide (e13.1>(x12.2.2.2.1.length:Int))) (
 .leaf (.inr (.inl (false,())))) (
 .leaf (.inl (x12.1,x12.2.1,i64.wrap (u1.1+1),u1.2.1,u1.2.2.1,u2.1,u2.2.1,u2.2.2.1,u2.2.2.2.1,u2.2.2.2.2.1,())))) (
 .leaf (.inr (.inr ())))
def Zh (a0:Bc):Tree (Bool×Unit):=
 letI u1:=a0.2.2;letI u2:=u1.2.2;.ob (Bl ((a0.1.length:Int),()) (1,()) (9,())) fun r1=>
 .br (!r1.1) (
 .leaf (false,())) (
 .ob (Akk (a0.2.1,())) fun r2=>
 .br (!r2.1) (
 .leaf (false,())) (
 .ob (Af2 (u1.1,u1.2.1,())) fun r3=>
 .br (!r3.1) (
 .leaf (false,())) (
 .ob (W8 (u2.1,u2.2.1,())) fun r4=>
 .br (!r4.1) (
 .leaf (false,())) (
 .ob (Mo (u2.2.2.1,())) fun r5=>
 .br (!r5.1) (
 .leaf (false,())) (
 .ob (A0 Lg (a0.1,(a0.1.length:Int),0,a0.1,a0.2.1,u1.1,u1.2.1,u2.1,u2.2.1,u2.2.2.1,())) fun o9=>
 .sm o9 (fun o10=>
 .leaf o10) (fun o11=>letI u3:=o11.2.2.2;
 .ob (A0 J3 (u3.2.2.1,(o11.2.2.2.2.2.1.length:Int),0,o11.1,o11.2.1,o11.2.2.1,u3.1,u3.2.1,u3.2.2.1,u3.2.2.2.1,())) fun o14=>
 .sm o14 (fun o15=>
 .leaf o15) (fun o16=>
 .leaf (true,()))))))))
def Su a0:=(Zh a0).val
def A4h (a0:List An×Unit) (a1:A8) (a2:YI):Tree (List An×Unit):=
 letI k1:=(a1.1,a1.2.1,a2.1,(0:Int),()); .ob (M4 a0) fun r1=>
 .ob (Mo a0) fun r2=>
 .br (!r2.1) (
 .leaf r1) (
 .ob (Ha a1) fun r3=>
 .br (!r3.1) (
 .leaf r1) (
 .ob (Bl a2 (0,()) (1000000,())) fun r4=>
 .br (!r4.1) (
 .leaf r1) (
 .ob (Oo a0 a1) fun r5=>
 .br (decide (r5.1≥0)) (
 .ob (idx r1.1 r5.1) fun e6=>letI k2:=i64.wrap (e6.2.2.1+a2.1);
 .ob (idx r1.1 r5.1) fun e7=>
 let q8:=(r1.1.set (r5.1).toNat (e7.1,e7.2.1,if (1000000:Int)<k2 then(1000000:Int)else k2,e7.2.2.2.1,()))
 .leaf (q8,())) (
 .br (decide ((a0.1.length:Int)<8)) (
 .chk (decide (r1.1.length+[k1].length<=4294967296)) <|
 .leaf (r1.1++[k1],())) (
 .leaf r1)))))
def A5c a0 a1 a2:=(A4h a0 a1 a2).val
def Ayi (a0:YBs) (a1:YI):Tree (YBs×YBs):=
 letI k1:=if (a0.1.length:Int)<a1.1 then(a0.1.length:Int)else a1.1;letI k2:=(a0.1.length:Int); .chk (decide (0<=k1)) <|
 .chk (decide (k1<=k2)) <|
 .ob (Bq ((a0.1.take (k1).toNat).drop (0:Int).toNat,())) fun r1=>
 .chk (decide (0<=k1)) <|
 .chk (decide (k1<=k2)) <|
 .chk (decide (k2<=k2)) <|
 .leaf (r1,((a0.1.take (k2).toNat).drop (k1).toNat,()))
def Co a0 a1:=(Ayi a0 a1).val
def Bai (a0:YBs) (a1 a2:YI):Tree (YBs×(Bool×Unit)):=
 letI k1:=(a0.1.take (i64.wrap (a1.1+a2.1)).toNat).drop (a1.1).toNat;letI k2:=(a0.1.length:Int);letI k3:=i64.wrap (a1.1+a2.1); .br (decide (a1.1<0)) (
 .leaf (([],()),(false,()))) (
 .br (decide (a2.1<0)) (
 .leaf (([],()),(false,()))) (
 .br (decide (a1.1>k2)) (
 .leaf (([],()),(false,()))) (
 .br (decide (a2.1>i64.wrap (k2-a1.1))) (
 .leaf (([],()),(false,()))) (
 .chk (decide (0<=a1.1)) <|
 .chk (decide (a1.1<=k3)) <|
 .chk (decide (k3<=k2)) <|
 .chk (decide (([]:List YB).length+k1.length<=4294967296)) <|
 .leaf ((([]:List YB)++k1,()),(true,()))))))
def Ba5 a0 a1 a2:=(Bai a0 a1 a2).val
def Tw:Lst (Int×Int×Int×List YB×Int×Int×Unit) (Int×Int×Int×Unit):=fun x2=>
 letI u1:=x2.2.2;letI u2:=u1.2.2;Tree.val <|
 .br (decide (u2.2.1<u2.1)) (
 .ob (idx u1.2.1 u2.2.1) fun e3=>
 .leaf (.inl (x2.1,x2.2.1,i64.wrap (i64.wrap (256*u1.1)+i64.wrap e3.1),u1.2.1,u2.1,i64.wrap (u2.2.1+1),()))) (
 .leaf (.inr (x2.1,x2.2.1,u1.1,())))
def A4j (a0:YBs) (a1 a2:YI):Tree (YI×YI×(Bool×Unit)):=
 .br (decide (a2.1<1)) (
 .leaf ((0,()),(0,()),(false,()))) (
 .br (decide (a2.1>6)) (
 .leaf ((0,()),(0,()),(false,()))) (
 .ob (Ba5 a0 a1 a2) fun r1=>
 .br (!r1.2.1) (
 .leaf ((0,()),(0,()),(false,()))) (
 .ob (A0 Tw (a1.1,a2.1,0,r1.1.1,(r1.1.1.length:Int),0,())) fun o4=>
 .leaf ((o4.2.2.1,()),(i64.wrap (o4.1+o4.2.1),()),(true,())))))
def Atr a0 a1 a2:=(A4j a0 a1 a2).val
def Asb (a0:YBs) (a1:YI):Tree (YI×YBs):=
 .ob (Co a0 a1) fun r1=>
 .ob (Atr r1.1 (0,()) a1) fun r2=>
 .leaf (r2.1,r1.2)
def D6 a0 a1:=(Asb a0 a1).val
def Asc (a0:YI):Tree (Bool×Unit):=
 .ob (Bl a0 (4,()) (8,())) fun r1=>
 .leaf r1
def M6 a0:=(Asc a0).val
def Asd (a0 a1:YI):Tree (Bool×Unit):=
 .br (a0.1==4) (
 .leaf (decide (a1.1<=40),())) (
 .br (a0.1==5) (
 .leaf (a1.1==12,())) (
 .br (a0.1==6) (
 .leaf (a1.1==12,())) (
 .leaf (a1.1==4,()))))
def Ats a0 a1:=(Asd a0 a1).val
def Aeu (a0 a1:Ap):Tree (Bool×Unit):=
 letI u1:=a0.2.2.2;letI u2:=u1.2.2.2;letI u3:=a1.2.2.2;letI u4:=u3.2.2.2;.br (a0.1==a1.1) (
 .br (a0.2.1==a1.2.1) (
 .br (u1.2.1==u3.2.1) (
 .br (u2.2.1==u4.2.1) (
 .br (u2.2.2.1==u4.2.2.1) (
 .ob (B7 (a0.2.2.1,()) (a1.2.2.1,())) fun r1=>
 .br r1.1 (
 .ob (B7 (u1.1,()) (u3.1,())) fun r2=>
 .br r2.1 (
 .ob (B7 (u1.2.2.1,()) (u3.2.2.1,())) fun r3=>
 .br r3.1 (
 .ob (B7 (u2.1,()) (u4.1,())) fun r4=>
 .br r4.1 (
 .ob (B7 (u2.2.2.2.1,()) (u4.2.2.2.1,())) fun r5=>
 .br r5.1 (
 .ob (B7 (u2.2.2.2.2.1,()) (u4.2.2.2.2.1,())) fun r6=>
 .leaf r6) (
 .leaf (false,()))) (
 .leaf (false,()))) (
 .leaf (false,()))) (
 .leaf (false,()))) (
 .leaf (false,()))) (
 .leaf (false,()))) (
 .leaf (false,()))) (
 .leaf (false,()))) (
 .leaf (false,()))) (
 .leaf (false,()))
def Mp a0 a1:=(Aeu a0 a1).val
def Amk (a0:Ap):Tree (Bool×Unit):=
 letI u1:=a0.2.2;letI u2:=u1.2.2;letI u3:=u2.2.2.2;letI k1:=Bl (u2.1,()) ((0:Int),()) ((1000000:Int),());letI k2:=Bl (a0.2.1,()) ((1:Int),()) ((9:Int),());letI k3:=(a0.2.2.2.2.2.1.length:Int)==(16:Int);letI k4:=D5 (u1.2.1,());letI k5:=D5 (u1.1,());.br (a0.1==1) (
 .ob k2 fun r1=>
 .br r1.1 (
 .ob k5 fun r2=>
 .br r2.1 (
 .ob (Mp a0 (a0.1,a0.2.1,u1.1,[],0,[],[],0,0,[],[],())) fun r3=>
 .leaf r3) (
 .leaf (false,()))) (
 .leaf (false,()))) (
 .br (a0.1==2) (
 .ob k5 fun r4=>
 .br r4.1 (
 .ob k4 fun r5=>
 .br r5.1 (
 .ob k1 fun r6=>
 .br r6.1 (
 .br k3 (
 .ob (Mp a0 (a0.1,0,u1.1,u1.2.1,u2.1,u2.2.1,[],0,0,[],[],())) fun r7=>
 .leaf r7) (
 .leaf (false,()))) (
 .leaf (false,()))) (
 .leaf (false,()))) (
 .leaf (false,()))) (
 .br (a0.1==3) (
 .ob k2 fun r8=>
 .br r8.1 (
 .ob k5 fun r9=>
 .br r9.1 (
 .ob k4 fun r10=>
 .br r10.1 (
 .ob k1 fun r11=>
 .br r11.1 (
 .br k3 (
 .br ((a0.2.2.2.2.2.2.1.length:Int)==16) (
 .ob (Mp a0 (a0.1,a0.2.1,u1.1,u1.2.1,u2.1,u2.2.1,u2.2.2.1,0,0,[],[],())) fun r12=>
 .leaf r12) (
 .leaf (false,()))) (
 .leaf (false,()))) (
 .leaf (false,()))) (
 .leaf (false,()))) (
 .leaf (false,()))) (
 .leaf (false,()))) (
 .ob (M6 (a0.1,())) fun r13=>
 .br r13.1 (
 .ob k4 fun r14=>
 .br r14.1 (
 .ob (Bl (u3.1,()) (0,()) (4294967295,())) fun r15=>
 .br r15.1 (
 .ob (Bl (u3.2.1,()) (0,()) (281474976710655,())) fun r16=>
 .br r16.1 (
 .br ((a0.2.2.2.2.2.2.2.2.2.2.1.length:Int)==16) (
 .ob (Ats (a0.1,()) ((a0.2.2.2.2.2.2.2.2.2.1.length:Int),())) fun r17=>
 .br r17.1 (
 .ob (Mp a0 (a0.1,0,[],u1.2.1,0,[],[],u3.1,u3.2.1,u3.2.2.1,u3.2.2.2.1,())) fun r18=>
 .leaf r18) (
 .leaf (false,()))) (
 .leaf (false,()))) (
 .leaf (false,()))) (
 .leaf (false,()))) (
 .leaf (false,()))) (
 .leaf (false,())))))
def Dn a0:=(Amk a0).val
def Of:Lst (List YB×List YBs×Int×Int×Unit) (YBs):=fun x1=>
 letI u1:=x1.2.2;Tree.val <|
 .br (decide (u1.2.1<u1.1)) (
 .ob (idx x1.2.1 u1.2.1) fun e2=>
 .chk (decide (x1.1.length+e2.1.length<=4294967296)) <|
 .leaf (.inl (x1.1++e2.1,x1.2.1,u1.1,i64.wrap (u1.2.1+1),()))) (
 .leaf (.inr (x1.1,())))
def Ase (a0:List YBs×Unit):Tree (YBs):=
 .ob (A0 Of ([],a0.1,(a0.1.length:Int),0,())) fun o3=>
 .leaf o3
def Fe a0:=(Ase a0).val
def A7q:Lst (Int×List YB×Int×Unit) (YBs):=fun x1=>
 letI u1:=x1.2.2;letI k1:=(i64.wrap ((BitVec.ofInt i64.bits (Int.fdiv x1.1 (2^(min (i64.wrap ((8:Int)*u1.1)).toNat i64.bits))) &&& BitVec.ofInt i64.bits (255:Int)).toNat:Nat));Tree.val <|
 .br (decide (u1.1≥0)) (
 .chk (decide (0<=i64.wrap (8*u1.1))) <|
 .chk (decide (x1.2.1.length+[(u8.wrap k1,())].length<=4294967296)) <|
 .leaf (.inl (x1.1,x1.2.1++[(u8.wrap k1,())],i64.wrap (u1.1-1),()))) (
 .leaf (.inr (x1.2.1,())))
def Bgm (a0:YBs) (a1 a2:YI):Tree (YBs):=
 letI k1:=([]:List YB)++a0.1; .chk (decide (([]:List YB).length+a0.1.length<=4294967296)) <|
 .br (decide (a2.1<1)) (
 .leaf (k1,())) (
 .br (decide (a2.1>6)) (
 .leaf (k1,())) (
 .ob (A0 A7q (a1.1,k1,i64.wrap (a2.1-1),())) fun o2=>
 .leaf o2))
def Fu a0 a1 a2:=(Bgm a0 a1 a2).val
def Ahv (a0:Ap):Tree (YBs):=
 letI u1:=a0.2.2;letI u2:=u1.2.2;letI u3:=u2.2.2.2;letI k1:=Fu (([]:List YB),()) (u2.1,()) ((4:Int),());.ob (Dn a0) fun r1=>
 .br (!r1.1) (
 .leaf ([],())) (
 .br (a0.1==1) (
 .ob (Fe ([([(u8.wrap a0.1,())],()),([(u8.wrap a0.2.1,())],()),(u1.1,()),(List.replicate (20:Int).toNat (0,()),())],())) fun r2=>
 .leaf r2) (
 .br (a0.1==2) (
 .ob k1 fun r3=>
 .ob (Fe ([([(u8.wrap a0.1,())],()),(u1.1,()),(u1.2.1,()),r3,(u2.2.1,())],())) fun r4=>
 .leaf r4) (
 .br (a0.1==3) (
 .ob k1 fun r5=>
 .ob (Fe ([([(u8.wrap a0.1,())],()),([(u8.wrap a0.2.1,())],()),(u1.1,()),(u1.2.1,()),r5,(u2.2.1,()),(u2.2.2.1,())],())) fun r6=>
 .leaf r6) (
 .ob (Fu ([],()) (u3.1,()) (4,())) fun r7=>
 .ob (Fu ([],()) (u3.2.1,()) (6,())) fun r8=>
 .ob (Fe ([([(u8.wrap a0.1,())],()),(u1.2.1,()),r7,r8,(u3.2.2.2.1,()),(u3.2.2.1,())],())) fun r9=>
 .leaf r9))))
def El a0:=(Ahv a0).val
end
end Go.Proofs.YthccfdmiejmbaaaGreat

/-
  What the functions of the seat answer, as plain terms (printed by a program, proved in the texts P); nothing is assumed.
-/
import Derived.Test.YtggdikabbngbaaaEv2
namespace Go.Proofs.Ytggdikabbngbaaa
open Go.RowKit IntKind
set_option linter.unusedVariables false
set_option maxRecDepth 100000
set_option maxHeartbeats 4000000
noncomputable section
abbrev YB : Type := Int × Unit
abbrev YI : Type := Int × Unit
abbrev YBs : Type := List YB × Unit
abbrev Arn : Type := ByteArray × Int × Unit
abbrev Je : Type := Int × Int × Unit
abbrev Awc : Type := Int × Int × Bool × Int × Unit
abbrev Rg : Type := (List YB) × Int × Int × Unit
abbrev Gj : Type := (List YI) × (List YB) × Int × Unit
abbrev YOp : Type := Int × Int × Int × (List YB) × Unit
abbrev Az : Type := Int × Int × Int × Int × (List YB) × Unit
abbrev Axn : Type := Int × Int × (List YB) × (List YB) × Int × (List YB) × (List YB) × Int × Int × (List YB) × (List YB) × Unit
def Qb (a0 : YBs) (a1 : YI) : Tree (YI) :=
 .br (decide ((i64.wrap (a1.1 - (a0.1.length : Int))) < (0 : Int))) (
 .leaf ((-1 : Int), ())) (
 .leaf ((i64.wrap (a1.1 - (a0.1.length : Int))), ()))
def Iu (a0 : YBs) (a1 : YI) : Option (YI) := (Qb a0 a1).val
def Aba (a0 : YOp) (a1 : YI) : Tree (YI) :=
 .ob (Iu (a0.2.2.2.1, ()) a1) fun r1 =>
 .br (decide (r1.1 < (0 : Int))) (
 .leaf ((-1 : Int), ())) (
 .leaf r1)
def Abb (a0 : YOp) (a1 : YI) : Option (YI) := (Aba a0 a1).val
def Iv (x1 : (List YOp) × Int × Int × Unit) : Option (((List YOp) × Int × Int × Unit) ⊕ (YI ⊕ YI)) :=
 Tree.val (α := ((List YOp) × Int × Int × Unit) ⊕ (YI ⊕ YI)) <|
 .br (decide (x1.2.2.1 < (x1.1.length : Int))) (
 .ob (idx x1.1 x1.2.2.1) fun e2 =>
 .ob (Abb e2 (x1.2.1, ())) fun r3 =>
 .br (decide (r3.1 < (0 : Int))) (
 .leaf (.inr (.inl ((-1 : Int), ())))) (
 .leaf (.inl (x1.1, r3.1, (i64.wrap (x1.2.2.1 + (1 : Int))), ())))) (
 .leaf (.inr (.inr (x1.2.1, ()))))
def Ly (a0 : (List YOp) × Unit) (a1 : YI) : Tree (YI) :=
 .br (decide ((i64.wrap (a1.1 - (a0.1.length : Int))) < (0 : Int))) (
 .leaf ((-1 : Int), ())) (
 .ob (Ar Iv (a0.1, (i64.wrap (a1.1 - (a0.1.length : Int))), (0 : Int), ())) fun o4 =>
 .sm o4 (fun o5 =>
 .leaf o5) (fun o6 =>
 .leaf o6))
def Vw (a0 : (List YOp) × Unit) (a1 : YI) : Option (YI) := (Ly a0 a1).val
def Sx (a0 : Az) (a1 : YI) : Tree (YI) :=
 .ob (Iu (a0.2.2.2.2.1, ()) a1) fun r1 =>
 .br (decide (r1.1 < (0 : Int))) (
 .leaf ((-1 : Int), ())) (
 .leaf r1)
def Sy (a0 : Az) (a1 : YI) : Option (YI) := (Sx a0 a1).val
def Gv (x1 : (List Az) × Int × Int × Unit) : Option (((List Az) × Int × Int × Unit) ⊕ (YI ⊕ YI)) :=
 Tree.val (α := ((List Az) × Int × Int × Unit) ⊕ (YI ⊕ YI)) <|
 .br (decide (x1.2.2.1 < (x1.1.length : Int))) (
 .ob (idx x1.1 x1.2.2.1) fun e2 =>
 .ob (Sy e2 (x1.2.1, ())) fun r3 =>
 .br (decide (r3.1 < (0 : Int))) (
 .leaf (.inr (.inl ((-1 : Int), ())))) (
 .leaf (.inl (x1.1, r3.1, (i64.wrap (x1.2.2.1 + (1 : Int))), ())))) (
 .leaf (.inr (.inr (x1.2.1, ()))))
def Iw (a0 : (List Az) × Unit) (a1 : YI) : Tree (YI) :=
 .br (decide ((i64.wrap (a1.1 - (a0.1.length : Int))) < (0 : Int))) (
 .leaf ((-1 : Int), ())) (
 .ob (Ar Gv (a0.1, (i64.wrap (a1.1 - (a0.1.length : Int))), (0 : Int), ())) fun o4 =>
 .sm o4 (fun o5 =>
 .leaf o5) (fun o6 =>
 .leaf o6))
def Qc (a0 : (List Az) × Unit) (a1 : YI) : Option (YI) := (Iw a0 a1).val
def Fu (x1 : (List YBs) × Int × Int × Unit) : Option (((List YBs) × Int × Int × Unit) ⊕ (YI ⊕ YI)) :=
 Tree.val (α := ((List YBs) × Int × Int × Unit) ⊕ (YI ⊕ YI)) <|
 .br (decide (x1.2.2.1 < (x1.1.length : Int))) (
 .ob (idx x1.1 x1.2.2.1) fun e2 =>
 .ob (Iu e2 (x1.2.1, ())) fun r3 =>
 .br (decide (r3.1 < (0 : Int))) (
 .leaf (.inr (.inl ((-1 : Int), ())))) (
 .leaf (.inl (x1.1, r3.1, (i64.wrap (x1.2.2.1 + (1 : Int))), ())))) (
 .leaf (.inr (.inr (x1.2.1, ()))))
def Hk (a0 : (List YBs) × Unit) (a1 : YI) : Tree (YI) :=
 .br (decide ((i64.wrap (a1.1 - (a0.1.length : Int))) < (0 : Int))) (
 .leaf ((-1 : Int), ())) (
 .ob (Ar Fu (a0.1, (i64.wrap (a1.1 - (a0.1.length : Int))), (0 : Int), ())) fun o4 =>
 .sm o4 (fun o5 =>
 .leaf o5) (fun o6 =>
 .leaf o6))
def Nq (a0 : (List YBs) × Unit) (a1 : YI) : Option (YI) := (Hk a0 a1).val
def E0 (x1 : (List YB) × (List YB) × Int × Unit) : Option (((List YB) × (List YB) × Int × Unit) ⊕ (YBs)) :=
 Tree.val (α := ((List YB) × (List YB) × Int × Unit) ⊕ (YBs)) <|
 .br (decide (x1.2.2.1 < (x1.1.length : Int))) (
 .ob (idx x1.1 x1.2.2.1) fun e2 =>
 .ob (idx x1.2.1 x1.2.2.1) fun e3 =>
 let q4 := (x1.2.1.set (x1.2.2.1).toNat e2)
 .leaf (.inl (x1.1, q4, (i64.wrap (x1.2.2.1 + (1 : Int))), ()))) (
 .leaf (.inr (x1.2.1, ())))
def Ix (a0 : YBs) : Tree (YBs) :=
 .chk (decide ((0 : Int) ≤ (a0.1.length : Int))) <|
 .chk (decide ((a0.1.length : Int) ≤ (4294967296 : Int))) <|
 .chk (decide ((a0.1.length : Int) = (a0.1.length : Int))) <|
 .ob (Ar E0 (a0.1, (List.replicate ((a0.1.length : Int)).toNat ((0 : Int), ())), (0 : Int), ())) fun o5 =>
 .leaf o5
def Iy (a0 : YBs) : Option (YBs) := (Ix a0).val
def Abc (a0 : YOp) : Tree (YOp) :=
 .ob (Iy (a0.2.2.2.1, ())) fun r1 =>
 .leaf (a0.1, a0.2.1, a0.2.2.1, r1.1, ())
def Abd (a0 : YOp) : Option (YOp) := (Abc a0).val
def G5 (x1 : (List YOp) × (List YOp) × Int × Unit) : Option (((List YOp) × (List YOp) × Int × Unit) ⊕ (((List YOp) × Unit))) :=
 Tree.val (α := ((List YOp) × (List YOp) × Int × Unit) ⊕ (((List YOp) × Unit))) <|
 .br (decide (x1.2.2.1 < (x1.1.length : Int))) (
 .ob (idx x1.1 x1.2.2.1) fun e2 =>
 .ob (Abd e2) fun r3 =>
 .ob (idx x1.2.1 x1.2.2.1) fun e4 =>
 let q5 := (x1.2.1.set (x1.2.2.1).toNat r3)
 .leaf (.inl (x1.1, q5, (i64.wrap (x1.2.2.1 + (1 : Int))), ()))) (
 .leaf (.inr (x1.2.1, ())))
def Lz (a0 : (List YOp) × Unit) : Tree (((List YOp) × Unit)) :=
 .chk (decide ((0 : Int) ≤ (a0.1.length : Int))) <|
 .chk (decide ((a0.1.length : Int) ≤ (4294967296 : Int))) <|
 .chk (decide ((a0.1.length : Int) = (a0.1.length : Int))) <|
 .ob (Ar G5 (a0.1, (List.replicate ((a0.1.length : Int)).toNat ((0 : Int), (0 : Int), (0 : Int), ([] : List YB), ())), (0 : Int), ())) fun o6 =>
 .leaf o6
def Jt (a0 : (List YOp) × Unit) : Option (((List YOp) × Unit)) := (Lz a0).val
def Sz (a0 : Je) : Tree (Je) :=
 .leaf a0
def My (a0 : Je) : Option (Je) := (Sz a0).val
def S1 (a0 : Az) : Tree (Az) :=
 .ob (My (a0.1, a0.2.1, ())) fun r1 =>
 .ob (My (a0.2.2.1, a0.2.2.2.1, ())) fun r2 =>
 .ob (Iy (a0.2.2.2.2.1, ())) fun r3 =>
 .leaf (r1.1, r1.2.1, r2.1, r2.2.1, r3.1, ())
def S2 (a0 : Az) : Option (Az) := (S1 a0).val
def E4 (x1 : (List Az) × (List Az) × Int × Unit) : Option (((List Az) × (List Az) × Int × Unit) ⊕ (((List Az) × Unit))) :=
 Tree.val (α := ((List Az) × (List Az) × Int × Unit) ⊕ (((List Az) × Unit))) <|
 .br (decide (x1.2.2.1 < (x1.1.length : Int))) (
 .ob (idx x1.1 x1.2.2.1) fun e2 =>
 .ob (S2 e2) fun r3 =>
 .ob (idx x1.2.1 x1.2.2.1) fun e4 =>
 let q5 := (x1.2.1.set (x1.2.2.1).toNat r3)
 .leaf (.inl (x1.1, q5, (i64.wrap (x1.2.2.1 + (1 : Int))), ()))) (
 .leaf (.inr (x1.2.1, ())))
def Iz (a0 : (List Az) × Unit) : Tree (((List Az) × Unit)) :=
 .chk (decide ((0 : Int) ≤ (a0.1.length : Int))) <|
 .chk (decide ((a0.1.length : Int) ≤ (4294967296 : Int))) <|
 .chk (decide ((a0.1.length : Int) = (a0.1.length : Int))) <|
 .ob (Ar E4 (a0.1, (List.replicate ((a0.1.length : Int)).toNat ((0 : Int), (0 : Int), (0 : Int), (0 : Int), ([] : List YB), ())), (0 : Int), ())) fun o6 =>
 .leaf o6
def G6 (a0 : (List Az) × Unit) : Option (((List Az) × Unit)) := (Iz a0).val
def Eb (x1 : (List YBs) × (List YBs) × Int × Unit) : Option (((List YBs) × (List YBs) × Int × Unit) ⊕ (((List YBs) × Unit))) :=
 Tree.val (α := ((List YBs) × (List YBs) × Int × Unit) ⊕ (((List YBs) × Unit))) <|
 .br (decide (x1.2.2.1 < (x1.1.length : Int))) (
 .ob (idx x1.1 x1.2.2.1) fun e2 =>
 .ob (Iy e2) fun r3 =>
 .ob (idx x1.2.1 x1.2.2.1) fun e4 =>
 let q5 := (x1.2.1.set (x1.2.2.1).toNat r3)
 .leaf (.inl (x1.1, q5, (i64.wrap (x1.2.2.1 + (1 : Int))), ()))) (
 .leaf (.inr (x1.2.1, ())))
def Hl (a0 : (List YBs) × Unit) : Tree (((List YBs) × Unit)) :=
 .chk (decide ((0 : Int) ≤ (a0.1.length : Int))) <|
 .chk (decide ((a0.1.length : Int) ≤ (4294967296 : Int))) <|
 .chk (decide ((a0.1.length : Int) = (a0.1.length : Int))) <|
 .ob (Ar Eb (a0.1, (List.replicate ((a0.1.length : Int)).toNat (([] : List YB), ())), (0 : Int), ())) fun o6 =>
 .leaf o6
def Fv (a0 : (List YBs) × Unit) : Option (((List YBs) × Unit)) := (Hl a0).val
def Abe (a0 : YI) (a1 : YI) (a2 : YI) : Tree ((Bool × Unit)) :=
 .br (decide (a0.1 ≥ a1.1)) (
 .leaf ((decide (a0.1 ≤ a2.1)), ())) (
 .leaf (false, ()))
def Gk (a0 : YI) (a1 : YI) (a2 : YI) : Option ((Bool × Unit)) := (Abe a0 a1 a2).val
def S3 (a0 : YOp) : Tree ((Bool × Unit)) :=
 .ob (Gk (a0.1, ()) ((1 : Int), ()) ((10 : Int), ())) fun r1 =>
 .br r1.1 (
 .br (decide ((a0.2.2.2.1.length : Int) ≤ (200 : Int))) (
 .ob (Gk (a0.2.1, ()) ((0 : Int), ()) ((200 : Int), ())) fun r2 =>
 .br r2.1 (
 .ob (Gk (a0.2.2.1, ()) ((0 : Int), ()) ((200 : Int), ())) fun r3 =>
 .leaf r3) (
 .leaf (false, ()))) (
 .leaf (false, ()))) (
 .leaf (false, ()))
def S4 (a0 : YOp) : Option ((Bool × Unit)) := (S3 a0).val
def Zw (a0 : YI) : Tree (YI) :=
 .ob (idx [((0 : Int), ()), ((0 : Int), ()), ((0 : Int), ()), ((0 : Int), ()), ((1 : Int), ()), ((2 : Int), ()), ((2 : Int), ()), ((2 : Int), ()), ((2 : Int), ()), ((1 : Int), ()), ((3 : Int), ())] a0.1) fun e1 =>
 .leaf e1
def Cg (a0 : YI) : Option (YI) := (Zw a0).val
def Af8 (a0 : YBs) (a1 : YI) (a2 : YI) : Tree (YBs × (Bool × Unit)) :=
 .br (decide (a2.1 < (0 : Int))) (
 .leaf ((([] : List YB), ()), (false, ()))) (
 .br (decide (a1.1 < (0 : Int))) (
 .leaf ((([] : List YB), ()), (false, ()))) (
 .br (decide (a2.1 > (a0.1.length : Int))) (
 .leaf ((([] : List YB), ()), (false, ()))) (
 .br (decide (a1.1 > (i64.wrap ((a0.1.length : Int) - a2.1)))) (
 .leaf ((([] : List YB), ()), (false, ()))) (
 .chk (decide ((0 : Int) ≤ a1.1)) <|
 .chk (decide (a1.1 ≤ (i64.wrap (a1.1 + a2.1)))) <|
 .chk (decide ((i64.wrap (a1.1 + a2.1)) ≤ (a0.1.length : Int))) <|
 .chk (decide (([] : List YB).length + ((a0.1.take ((i64.wrap (a1.1 + a2.1))).toNat).drop (a1.1).toNat).length ≤ 4294967296)) <|
 .leaf (((([] : List YB) ++ ((a0.1.take ((i64.wrap (a1.1 + a2.1))).toNat).drop (a1.1).toNat)), ()), (true, ()))))))
def Af9 (a0 : YBs) (a1 : YI) (a2 : YI) : Option (YBs × (Bool × Unit)) := (Af8 a0 a1 a2).val
def Ie (x1 : Int × (List YB) × Int × Unit) : Option ((Int × (List YB) × Int × Unit) ⊕ (YBs)) :=
 Tree.val (α := (Int × (List YB) × Int × Unit) ⊕ (YBs)) <|
 .br (decide (x1.2.2.1 ≥ (0 : Int))) (
 .chk (decide ((0 : Int) ≤ (i64.wrap ((8 : Int) * x1.2.2.1)))) <|
 .chk (decide (x1.2.1.length + [((u8.wrap ((i64.wrap ((BitVec.ofInt (i64.bits) ((Int.fdiv x1.1 (2 ^ (min ((i64.wrap ((8 : Int) * x1.2.2.1))).toNat i64.bits)))) &&& BitVec.ofInt (i64.bits) ((255 : Int))).toNat : Nat)))), ())].length ≤ 4294967296)) <|
 .leaf (.inl (x1.1, (x1.2.1 ++ [((u8.wrap ((i64.wrap ((BitVec.ofInt (i64.bits) ((Int.fdiv x1.1 (2 ^ (min ((i64.wrap ((8 : Int) * x1.2.2.1))).toNat i64.bits)))) &&& BitVec.ofInt (i64.bits) ((255 : Int))).toNat : Nat)))), ())]), (i64.wrap (x1.2.2.1 - (1 : Int))), ()))) (
 .leaf (.inr (x1.2.1, ())))
def Nr (a0 : YBs) (a1 : YI) (a2 : YI) : Tree (YBs) :=
 .chk (decide (([] : List YB).length + a0.1.length ≤ 4294967296)) <|
 .br (decide (a2.1 < (1 : Int))) (
 .leaf ((([] : List YB) ++ a0.1), ())) (
 .br (decide (a2.1 > (6 : Int))) (
 .leaf ((([] : List YB) ++ a0.1), ())) (
 .ob (Ar Ie (a1.1, (([] : List YB) ++ a0.1), (i64.wrap (a2.1 - (1 : Int))), ())) fun o2 =>
 .leaf o2))
def Hm (a0 : YBs) (a1 : YI) (a2 : YI) : Option (YBs) := (Nr a0 a1 a2).val
def Pe (x1 : Int × (List YB) × Unit) : Option ((Int × (List YB) × Unit) ⊕ ((Int × (List YB) × Unit))) :=
 Tree.val (α := (Int × (List YB) × Unit) ⊕ ((Int × (List YB) × Unit))) <|
 .chk (decide ((0 : Int) ≤ (i64.wrap ((i64.wrap (x1.1 + (x1.2.1.length : Int))) + (8 : Int))))) <|
 .br (((i64.wrap ((i64.wrap (x1.1 + (x1.2.1.length : Int))) + (8 : Int))) % (64 : Int)) != (0 : Int)) (
 .chk (decide (x1.2.1.length + [((0 : Int), ())].length ≤ 4294967296)) <|
 .leaf (.inl (x1.1, (x1.2.1 ++ [((0 : Int), ())]), ()))) (
 .leaf (.inr x1))
def Rh (a0 : YI) : Tree (YBs) :=
 .br (decide (a0.1 < (0 : Int))) (
 .leaf (([] : List YB), ())) (
 .br (decide (a0.1 > (1048576 : Int))) (
 .leaf (([] : List YB), ())) (
 .ob (Ar Pe (a0.1, [((128 : Int), ())], ())) fun o2 =>
 .ob (Hm (o2.2.1, ()) ((0 : Int), ()) ((4 : Int), ())) fun r3 =>
 .ob (Hm r3 ((i64.wrap ((8 : Int) * o2.1)), ()) ((4 : Int), ())) fun r4 =>
 .leaf r4))
def Aga (a0 : YI) : Option (YBs) := (Rh a0).val
def Aib  : Tree (((List YI) × Unit)) :=
 .leaf ([((1779033703 : Int), ()), ((3144134277 : Int), ()), ((1013904242 : Int), ()), ((2773480762 : Int), ()), ((1359893119 : Int), ()), ((2600822924 : Int), ()), ((528734635 : Int), ()), ((1541459225 : Int), ())], ())
def Aic  : Option (((List YI) × Unit)) := (Aib ).val
def E5 (x1 : (List YI) × Int × Unit) : Option (((List YI) × Int × Unit) ⊕ ((Bool × Unit) ⊕ ((List YI) × Unit))) :=
 Tree.val (α := ((List YI) × Int × Unit) ⊕ ((Bool × Unit) ⊕ ((List YI) × Unit))) <|
 .br (decide (x1.2.1 < (x1.1.length : Int))) (
 .ob (idx x1.1 x1.2.1) fun e2 =>
 .ob (Gk e2 ((0 : Int), ()) ((4294967295 : Int), ())) fun r3 =>
 .br (!r3.1) (
 .leaf (.inr (.inl (false, ())))) (
 .leaf (.inl (x1.1, (i64.wrap (x1.2.1 + (1 : Int))), ())))) (
 .leaf (.inr (.inr (x1.1, ()))))
def I0 (a0 : (List YI) × Unit) : Tree ((Bool × Unit)) :=
 .ob (Ar E5 (a0.1, (0 : Int), ())) fun o4 =>
 .sm o4 (fun o5 =>
 .leaf o5) (fun o6 =>
 .leaf (((o6.1.length : Int) == (8 : Int)), ()))
def Qd (a0 : (List YI) × Unit) : Option ((Bool × Unit)) := (I0 a0).val
def Aon  : Tree (((List YI) × Unit)) :=
 .leaf ([((1116352408 : Int), ()), ((1899447441 : Int), ()), ((3049323471 : Int), ()), ((3921009573 : Int), ()), ((961987163 : Int), ()), ((1508970993 : Int), ()), ((2453635748 : Int), ()), ((2870763221 : Int), ()), ((3624381080 : Int), ()), ((310598401 : Int), ()), ((607225278 : Int), ()), ((1426881987 : Int), ()), ((1925078388 : Int), ()), ((2162078206 : Int), ()), ((2614888103 : Int), ()), ((3248222580 : Int), ()), ((3835390401 : Int), ()), ((4022224774 : Int), ()), ((264347078 : Int), ()), ((604807628 : Int), ()), ((770255983 : Int), ()), ((1249150122 : Int), ()), ((1555081692 : Int), ()), ((1996064986 : Int), ()), ((2554220882 : Int), ()), ((2821834349 : Int), ()), ((2952996808 : Int), ()), ((3210313671 : Int), ()), ((3336571891 : Int), ()), ((3584528711 : Int), ()), ((113926993 : Int), ()), ((338241895 : Int), ()), ((666307205 : Int), ()), ((773529912 : Int), ()), ((1294757372 : Int), ()), ((1396182291 : Int), ()), ((1695183700 : Int), ()), ((1986661051 : Int), ()), ((2177026350 : Int), ()), ((2456956037 : Int), ()), ((2730485921 : Int), ()), ((2820302411 : Int), ()), ((3259730800 : Int), ()), ((3345764771 : Int), ()), ((3516065817 : Int), ()), ((3600352804 : Int), ()), ((4094571909 : Int), ()), ((275423344 : Int), ()), ((430227734 : Int), ()), ((506948616 : Int), ()), ((659060556 : Int), ()), ((883997877 : Int), ()), ((958139571 : Int), ()), ((1322822218 : Int), ()), ((1537002063 : Int), ()), ((1747873779 : Int), ()), ((1955562222 : Int), ()), ((2024104815 : Int), ()), ((2227730452 : Int), ()), ((2361852424 : Int), ()), ((2428436474 : Int), ()), ((2756734187 : Int), ()), ((3204031479 : Int), ()), ((3329325298 : Int), ())], ())
def Aoo  : Option (((List YI) × Unit)) := (Aon ).val
def Gl (x1 : (List YB) × Int × Int × Int × Int × Unit) : Option (((List YB) × Int × Int × Int × Int × Unit) ⊕ ((Int × Int × Int × Unit))) :=
 Tree.val (α := ((List YB) × Int × Int × Int × Int × Unit) ⊕ ((Int × Int × Int × Unit))) <|
 .br (decide (x1.2.2.2.2.1 < x1.2.2.1)) (
 .ob (idx x1.1 (i64.wrap (x1.2.1 + x1.2.2.2.2.1))) fun e2 =>
 .leaf (.inl (x1.1, x1.2.1, x1.2.2.1, (i64.wrap ((i64.wrap (x1.2.2.2.1 * (256 : Int))) + (i64.wrap (e2.1)))), (i64.wrap (x1.2.2.2.2.1 + (1 : Int))), ()))) (
 .leaf (.inr (x1.2.1, x1.2.2.1, x1.2.2.2.1, ())))
def Ns (a0 : YBs) (a1 : YI) (a2 : YI) : Tree (YI × YI × (Bool × Unit)) :=
 .br (decide (a2.1 < (1 : Int))) (
 .leaf (((0 : Int), ()), ((0 : Int), ()), (false, ()))) (
 .br (decide (a2.1 > (6 : Int))) (
 .leaf (((0 : Int), ()), ((0 : Int), ()), (false, ()))) (
 .br (decide (a1.1 < (0 : Int))) (
 .leaf (((0 : Int), ()), ((0 : Int), ()), (false, ()))) (
 .br (decide (a1.1 > (i64.wrap ((a0.1.length : Int) - a2.1)))) (
 .leaf (((0 : Int), ()), ((0 : Int), ()), (false, ()))) (
 .ob (Ar Gl (a0.1, a1.1, a2.1, (0 : Int), (0 : Int), ())) fun o3 =>
 .leaf ((o3.2.2.1, ()), ((i64.wrap (o3.1 + o3.2.1)), ()), (true, ()))))))
def Abf (a0 : YBs) (a1 : YI) (a2 : YI) : Option (YI × YI × (Bool × Unit)) := (Ns a0 a1 a2).val
def Agb (a0 : YI) (a1 : YI) : Tree (YI) :=
 .br (decide (a1.1 < (1 : Int))) (
 .leaf ((i64.wrap ((BitVec.ofInt (i64.bits) (a0.1) &&& BitVec.ofInt (i64.bits) ((4294967295 : Int))).toNat : Nat)), ())) (
 .br (decide (a1.1 > (31 : Int))) (
 .leaf ((i64.wrap ((BitVec.ofInt (i64.bits) (a0.1) &&& BitVec.ofInt (i64.bits) ((4294967295 : Int))).toNat : Nat)), ())) (
 .chk (decide ((0 : Int) ≤ a1.1)) <|
 .chk (decide ((0 : Int) ≤ (i64.wrap ((32 : Int) - a1.1)))) <|
 .leaf ((i64.wrap ((BitVec.ofInt (i64.bits) ((i64.wrap ((BitVec.ofInt (i64.bits) ((Int.fdiv (i64.wrap ((BitVec.ofInt (i64.bits) (a0.1) &&& BitVec.ofInt (i64.bits) ((4294967295 : Int))).toNat : Nat)) (2 ^ (min (a1.1).toNat i64.bits)))) ||| BitVec.ofInt (i64.bits) ((i64.wrap ((i64.wrap ((BitVec.ofInt (i64.bits) (a0.1) &&& BitVec.ofInt (i64.bits) ((4294967295 : Int))).toNat : Nat)) * 2 ^ (min ((i64.wrap ((32 : Int) - a1.1))).toNat i64.bits))))).toNat : Nat))) &&& BitVec.ofInt (i64.bits) ((4294967295 : Int))).toNat : Nat)), ())))
def E6 (a0 : YI) (a1 : YI) : Option (YI) := (Agb a0 a1).val
def Ec (x1 : (List YB) × (List YI) × Int × Unit) : Option (((List YB) × (List YI) × Int × Unit) ⊕ (((List YI) × Unit))) :=
 Tree.val (α := ((List YB) × (List YI) × Int × Unit) ⊕ (((List YI) × Unit))) <|
 .br (decide (x1.2.2.1 < (16 : Int))) (
 .ob (Abf (x1.1, ()) ((i64.wrap ((4 : Int) * x1.2.2.1)), ()) ((4 : Int), ())) fun r2 =>
 .chk (decide (x1.2.1.length + [r2.1].length ≤ 4294967296)) <|
 .leaf (.inl (x1.1, (x1.2.1 ++ [r2.1]), (i64.wrap (x1.2.2.1 + (1 : Int))), ()))) (
 .leaf (.inr (x1.2.1, ())))
def Dq (x4 : (List YI) × Int × Unit) : Option (((List YI) × Int × Unit) ⊕ (((List YI) × Unit))) :=
 Tree.val (α := ((List YI) × Int × Unit) ⊕ (((List YI) × Unit))) <|
 .br (decide (x4.2.1 < (64 : Int))) (
 .ob (idx x4.1 (i64.wrap (x4.2.1 - (15 : Int)))) fun e5 =>
 .ob (idx x4.1 (i64.wrap (x4.2.1 - (2 : Int)))) fun e6 =>
 .ob (E6 e5 ((7 : Int), ())) fun r7 =>
 .ob (E6 e5 ((18 : Int), ())) fun r8 =>
 .ob (E6 e6 ((17 : Int), ())) fun r9 =>
 .ob (E6 e6 ((19 : Int), ())) fun r10 =>
 .ob (idx x4.1 (i64.wrap (x4.2.1 - (7 : Int)))) fun e11 =>
 .ob (idx x4.1 (i64.wrap (x4.2.1 - (16 : Int)))) fun e12 =>
 .chk (decide (x4.1.length + [((i64.wrap ((BitVec.ofInt (i64.bits) ((i64.wrap ((i64.wrap ((i64.wrap (e11.1 + e12.1)) + (i64.wrap ((BitVec.ofInt (i64.bits) ((i64.wrap ((BitVec.ofInt (i64.bits) (r7.1) ^^^ BitVec.ofInt (i64.bits) (r8.1)).toNat : Nat))) ^^^ BitVec.ofInt (i64.bits) ((Int.fdiv e5.1 (2 ^ (min ((3 : Int)).toNat i64.bits))))).toNat : Nat)))) + (i64.wrap ((BitVec.ofInt (i64.bits) ((i64.wrap ((BitVec.ofInt (i64.bits) (r9.1) ^^^ BitVec.ofInt (i64.bits) (r10.1)).toNat : Nat))) ^^^ BitVec.ofInt (i64.bits) ((Int.fdiv e6.1 (2 ^ (min ((10 : Int)).toNat i64.bits))))).toNat : Nat))))) &&& BitVec.ofInt (i64.bits) ((4294967295 : Int))).toNat : Nat)), ())].length ≤ 4294967296)) <|
 .leaf (.inl ((x4.1 ++ [((i64.wrap ((BitVec.ofInt (i64.bits) ((i64.wrap ((i64.wrap ((i64.wrap (e11.1 + e12.1)) + (i64.wrap ((BitVec.ofInt (i64.bits) ((i64.wrap ((BitVec.ofInt (i64.bits) (r7.1) ^^^ BitVec.ofInt (i64.bits) (r8.1)).toNat : Nat))) ^^^ BitVec.ofInt (i64.bits) ((Int.fdiv e5.1 (2 ^ (min ((3 : Int)).toNat i64.bits))))).toNat : Nat)))) + (i64.wrap ((BitVec.ofInt (i64.bits) ((i64.wrap ((BitVec.ofInt (i64.bits) (r9.1) ^^^ BitVec.ofInt (i64.bits) (r10.1)).toNat : Nat))) ^^^ BitVec.ofInt (i64.bits) ((Int.fdiv e6.1 (2 ^ (min ((10 : Int)).toNat i64.bits))))).toNat : Nat))))) &&& BitVec.ofInt (i64.bits) ((4294967295 : Int))).toNat : Nat)), ())]), (i64.wrap (x4.2.1 + (1 : Int))), ()))) (
 .leaf (.inr (x4.1, ())))
def Hn (a0 : YBs) : Tree (((List YI) × Unit)) :=
 .br ((a0.1.length : Int) != (64 : Int)) (
 .leaf (([] : List YI), ())) (
 .ob (Ar Ec (a0.1, ([] : List YI), (0 : Int), ())) fun o3 =>
 .ob (Ar Dq (o3.1, (16 : Int), ())) fun o13 =>
 .leaf o13)
def Nt (a0 : YBs) : Option (((List YI) × Unit)) := (Hn a0).val
def Dg (x12 : (List YI) × (List YI) × (List YI) × (List YI) × Int × Int × Int × Int × Int × Int × Int × Int × Int × Unit) : Option (((List YI) × (List YI) × (List YI) × (List YI) × Int × Int × Int × Int × Int × Int × Int × Int × Int × Unit) ⊕ (((List YI) × (List YI) × Int × Int × Int × Int × Int × Int × Int × Int × Unit))) :=
 Tree.val (α := ((List YI) × (List YI) × (List YI) × (List YI) × Int × Int × Int × Int × Int × Int × Int × Int × Int × Unit) ⊕ (((List YI) × (List YI) × Int × Int × Int × Int × Int × Int × Int × Int × Unit))) <|
 .br (decide (x12.2.2.2.2.2.2.2.2.2.2.2.2.1 < (64 : Int))) (
 .ob (E6 (x12.2.2.2.2.2.2.2.2.1, ()) ((6 : Int), ())) fun r13 =>
 .ob (E6 (x12.2.2.2.2.2.2.2.2.1, ()) ((11 : Int), ())) fun r14 =>
 .ob (E6 (x12.2.2.2.2.2.2.2.2.1, ()) ((25 : Int), ())) fun r15 =>
 .ob (idx x12.2.2.1 x12.2.2.2.2.2.2.2.2.2.2.2.2.1) fun e16 =>
 .ob (idx x12.2.2.2.1 x12.2.2.2.2.2.2.2.2.2.2.2.2.1) fun e17 =>
 .ob (E6 (x12.2.2.2.2.1, ()) ((2 : Int), ())) fun r18 =>
 .ob (E6 (x12.2.2.2.2.1, ()) ((13 : Int), ())) fun r19 =>
 .ob (E6 (x12.2.2.2.2.1, ()) ((22 : Int), ())) fun r20 =>
 .leaf (.inl (x12.1, x12.2.1, x12.2.2.1, x12.2.2.2.1, (i64.wrap ((BitVec.ofInt (i64.bits) ((i64.wrap ((i64.wrap ((BitVec.ofInt (i64.bits) ((i64.wrap ((i64.wrap ((i64.wrap ((i64.wrap (x12.2.2.2.2.2.2.2.2.2.2.2.1 + (i64.wrap ((BitVec.ofInt (i64.bits) ((i64.wrap ((BitVec.ofInt (i64.bits) (r13.1) ^^^ BitVec.ofInt (i64.bits) (r14.1)).toNat : Nat))) ^^^ BitVec.ofInt (i64.bits) (r15.1)).toNat : Nat)))) + (i64.wrap ((BitVec.ofInt (i64.bits) ((i64.wrap ((BitVec.ofInt (i64.bits) (x12.2.2.2.2.2.2.2.2.1) &&& BitVec.ofInt (i64.bits) (x12.2.2.2.2.2.2.2.2.2.1)).toNat : Nat))) ^^^ BitVec.ofInt (i64.bits) ((i64.wrap ((BitVec.ofInt (i64.bits) ((i64.wrap ((BitVec.ofInt (i64.bits) (x12.2.2.2.2.2.2.2.2.1) ^^^ BitVec.ofInt (i64.bits) ((4294967295 : Int))).toNat : Nat))) &&& BitVec.ofInt (i64.bits) (x12.2.2.2.2.2.2.2.2.2.2.1)).toNat : Nat)))).toNat : Nat)))) + e16.1)) + e17.1))) &&& BitVec.ofInt (i64.bits) ((4294967295 : Int))).toNat : Nat)) + (i64.wrap ((BitVec.ofInt (i64.bits) ((i64.wrap ((i64.wrap ((BitVec.ofInt (i64.bits) ((i64.wrap ((BitVec.ofInt (i64.bits) (r18.1) ^^^ BitVec.ofInt (i64.bits) (r19.1)).toNat : Nat))) ^^^ BitVec.ofInt (i64.bits) (r20.1)).toNat : Nat)) + (i64.wrap ((BitVec.ofInt (i64.bits) ((i64.wrap ((BitVec.ofInt (i64.bits) ((i64.wrap ((BitVec.ofInt (i64.bits) (x12.2.2.2.2.1) &&& BitVec.ofInt (i64.bits) (x12.2.2.2.2.2.1)).toNat : Nat))) ^^^ BitVec.ofInt (i64.bits) ((i64.wrap ((BitVec.ofInt (i64.bits) (x12.2.2.2.2.1) &&& BitVec.ofInt (i64.bits) (x12.2.2.2.2.2.2.1)).toNat : Nat)))).toNat : Nat))) ^^^ BitVec.ofInt (i64.bits) ((i64.wrap ((BitVec.ofInt (i64.bits) (x12.2.2.2.2.2.1) &&& BitVec.ofInt (i64.bits) (x12.2.2.2.2.2.2.1)).toNat : Nat)))).toNat : Nat))))) &&& BitVec.ofInt (i64.bits) ((4294967295 : Int))).toNat : Nat))))) &&& BitVec.ofInt (i64.bits) ((4294967295 : Int))).toNat : Nat)), x12.2.2.2.2.1, x12.2.2.2.2.2.1, x12.2.2.2.2.2.2.1, (i64.wrap ((BitVec.ofInt (i64.bits) ((i64.wrap (x12.2.2.2.2.2.2.2.1 + (i64.wrap ((BitVec.ofInt (i64.bits) ((i64.wrap ((i64.wrap ((i64.wrap ((i64.wrap (x12.2.2.2.2.2.2.2.2.2.2.2.1 + (i64.wrap ((BitVec.ofInt (i64.bits) ((i64.wrap ((BitVec.ofInt (i64.bits) (r13.1) ^^^ BitVec.ofInt (i64.bits) (r14.1)).toNat : Nat))) ^^^ BitVec.ofInt (i64.bits) (r15.1)).toNat : Nat)))) + (i64.wrap ((BitVec.ofInt (i64.bits) ((i64.wrap ((BitVec.ofInt (i64.bits) (x12.2.2.2.2.2.2.2.2.1) &&& BitVec.ofInt (i64.bits) (x12.2.2.2.2.2.2.2.2.2.1)).toNat : Nat))) ^^^ BitVec.ofInt (i64.bits) ((i64.wrap ((BitVec.ofInt (i64.bits) ((i64.wrap ((BitVec.ofInt (i64.bits) (x12.2.2.2.2.2.2.2.2.1) ^^^ BitVec.ofInt (i64.bits) ((4294967295 : Int))).toNat : Nat))) &&& BitVec.ofInt (i64.bits) (x12.2.2.2.2.2.2.2.2.2.2.1)).toNat : Nat)))).toNat : Nat)))) + e16.1)) + e17.1))) &&& BitVec.ofInt (i64.bits) ((4294967295 : Int))).toNat : Nat))))) &&& BitVec.ofInt (i64.bits) ((4294967295 : Int))).toNat : Nat)), x12.2.2.2.2.2.2.2.2.1, x12.2.2.2.2.2.2.2.2.2.1, x12.2.2.2.2.2.2.2.2.2.2.1, (i64.wrap (x12.2.2.2.2.2.2.2.2.2.2.2.2.1 + (1 : Int))), ()))) (
 .leaf (.inr (x12.1, x12.2.1, x12.2.2.2.2.1, x12.2.2.2.2.2.1, x12.2.2.2.2.2.2.1, x12.2.2.2.2.2.2.2.1, x12.2.2.2.2.2.2.2.2.1, x12.2.2.2.2.2.2.2.2.2.1, x12.2.2.2.2.2.2.2.2.2.2.1, x12.2.2.2.2.2.2.2.2.2.2.2.1, ())))
def Cv (x22 : (List YI) × (List YI) × (List YI) × Int × Unit) : Option (((List YI) × (List YI) × (List YI) × Int × Unit) ⊕ (((List YI) × Unit))) :=
 Tree.val (α := ((List YI) × (List YI) × (List YI) × Int × Unit) ⊕ (((List YI) × Unit))) <|
 .br (decide (x22.2.2.2.1 < (8 : Int))) (
 .ob (idx x22.1 x22.2.2.2.1) fun e23 =>
 .ob (idx x22.2.2.1 x22.2.2.2.1) fun e24 =>
 .ob (idx x22.2.1 x22.2.2.2.1) fun e25 =>
 let q26 := (x22.2.1.set (x22.2.2.2.1).toNat ((i64.wrap ((BitVec.ofInt (i64.bits) ((i64.wrap (e23.1 + e24.1))) &&& BitVec.ofInt (i64.bits) ((4294967295 : Int))).toNat : Nat)), ()))
 .leaf (.inl (x22.1, q26, x22.2.2.1, (i64.wrap (x22.2.2.2.1 + (1 : Int))), ()))) (
 .leaf (.inr (x22.2.1, ())))
def Ho (a0 : (List YI) × Unit) (a1 : YBs) : Tree (((List YI) × Unit)) :=
 .chk (decide (([] : List YI).length + a0.1.length ≤ 4294967296)) <|
 .ob (Qd a0) fun r1 =>
 .br (!r1.1) (
 .leaf ((([] : List YI) ++ a0.1), ())) (
 .br ((a1.1.length : Int) != (64 : Int)) (
 .leaf ((([] : List YI) ++ a0.1), ())) (
 .ob Aoo fun r2 =>
 .ob (Nt a1) fun r3 =>
 .ob (idx a0.1 (0 : Int)) fun e4 =>
 .ob (idx a0.1 (1 : Int)) fun e5 =>
 .ob (idx a0.1 (2 : Int)) fun e6 =>
 .ob (idx a0.1 (3 : Int)) fun e7 =>
 .ob (idx a0.1 (4 : Int)) fun e8 =>
 .ob (idx a0.1 (5 : Int)) fun e9 =>
 .ob (idx a0.1 (6 : Int)) fun e10 =>
 .ob (idx a0.1 (7 : Int)) fun e11 =>
 .ob (Ar Dg (a0.1, (([] : List YI) ++ a0.1), r2.1, r3.1, e4.1, e5.1, e6.1, e7.1, e8.1, e9.1, e10.1, e11.1, (0 : Int), ())) fun o21 =>
 .ob (Ar Cv (o21.1, o21.2.1, [(o21.2.2.1, ()), (o21.2.2.2.1, ()), (o21.2.2.2.2.1, ()), (o21.2.2.2.2.2.1, ()), (o21.2.2.2.2.2.2.1, ()), (o21.2.2.2.2.2.2.2.1, ()), (o21.2.2.2.2.2.2.2.2.1, ()), (o21.2.2.2.2.2.2.2.2.2.1, ())], (0 : Int), ())) fun o27 =>
 .leaf o27))
def Ka (a0 : (List YI) × Unit) (a1 : YBs) : Option (((List YI) × Unit)) := (Ho a0 a1).val
def Fq (x1 : Gj) : Option (Gj ⊕ (YBs)) :=
 Tree.val (α := Gj ⊕ (YBs)) <|
 .br (decide (x1.2.2.1 < (8 : Int))) (
 .ob (idx x1.1 x1.2.2.1) fun e2 =>
 .ob (Hm (x1.2.1, ()) e2 ((4 : Int), ())) fun r3 =>
 .leaf (.inl (x1.1, r3.1, (i64.wrap (x1.2.2.1 + (1 : Int))), ()))) (
 .leaf (.inr (x1.2.1, ())))
def L0 (a0 : (List YI) × Unit) : Tree (YBs) :=
 .ob (Ar Fq (a0.1, ([] : List YB), (0 : Int), ())) fun o4 =>
 .leaf o4
def Vx (a0 : (List YI) × Unit) : Option (YBs) := (L0 a0).val
def Hp (x3 : (List YB) × (List YI) × Int × Unit) : Option (((List YB) × (List YI) × Int × Unit) ⊕ (((List YI) × Unit))) :=
 Tree.val (α := ((List YB) × (List YI) × Int × Unit) ⊕ (((List YI) × Unit))) <|
 .br (decide (x3.2.2.1 < (x3.1.length : Int))) (
 .chk (decide ((0 : Int) ≤ x3.2.2.1)) <|
 .chk (decide (x3.2.2.1 ≤ (i64.wrap (x3.2.2.1 + (64 : Int))))) <|
 .chk (decide ((i64.wrap (x3.2.2.1 + (64 : Int))) ≤ (x3.1.length : Int))) <|
 .ob (Ka (x3.2.1, ()) (((x3.1.take ((i64.wrap (x3.2.2.1 + (64 : Int)))).toNat).drop (x3.2.2.1).toNat), ())) fun r4 =>
 .leaf (.inl (x3.1, r4.1, (i64.wrap (x3.2.2.1 + (64 : Int))), ()))) (
 .leaf (.inr (x3.2.1, ())))
def Ri (a0 : YBs) : Tree (YBs) :=
 .br (decide ((a0.1.length : Int) > (1048576 : Int))) (
 .leaf (([] : List YB), ())) (
 .chk (decide (([] : List YB).length + a0.1.length ≤ 4294967296)) <|
 .ob (Aga ((a0.1.length : Int), ())) fun r1 =>
 .chk (decide ((([] : List YB) ++ a0.1).length + r1.1.length ≤ 4294967296)) <|
 .ob Aic fun r2 =>
 .ob (Ar Hp (((([] : List YB) ++ a0.1) ++ r1.1), r2.1, (0 : Int), ())) fun o5 =>
 .ob (Vx o5) fun r6 =>
 .leaf r6)
def Rj (a0 : YBs) : Option (YBs) := (Ri a0).val
def Fw (x2 : YBs) : Option (YBs ⊕ (YBs)) :=
 Tree.val (α := YBs ⊕ (YBs)) <|
 .br (decide ((x2.1.length : Int) < (64 : Int))) (
 .chk (decide (x2.1.length + [((0 : Int), ())].length ≤ 4294967296)) <|
 .leaf (.inl ((x2.1 ++ [((0 : Int), ())]), ()))) (
 .leaf (.inr x2))
def Hq (a0 : YBs) : Tree (YBs) :=
 .br (decide ((a0.1.length : Int) > (1048576 : Int))) (
 .leaf (([] : List YB), ())) (
 .chk (decide (([] : List YB).length + a0.1.length ≤ 4294967296)) <|
 .br (decide ((a0.1.length : Int) > (64 : Int))) (
 .ob (Rj a0) fun r1 =>
 .ob (Ar Fw r1) fun o3 =>
 .leaf o3) (
 .ob (Ar Fw ((([] : List YB) ++ a0.1), ())) fun o4 =>
 .leaf o4))
def Nu (a0 : YBs) : Option (YBs) := (Hq a0).val
def Gm (x2 : (List YB) × (List YB) × (List YB) × (List YB) × Int × Unit) : Option (((List YB) × (List YB) × (List YB) × (List YB) × Int × Unit) ⊕ (((List YB) × (List YB) × (List YB) × Unit))) :=
 Tree.val (α := ((List YB) × (List YB) × (List YB) × (List YB) × Int × Unit) ⊕ (((List YB) × (List YB) × (List YB) × Unit))) <|
 .br (decide (x2.2.2.2.2.1 < (64 : Int))) (
 .ob (idx x2.2.1 x2.2.2.2.2.1) fun e3 =>
 .chk (decide (x2.2.2.1.length + [((u8.wrap ((BitVec.ofInt (u8.bits) (e3.1) ^^^ BitVec.ofInt (u8.bits) ((54 : Int))).toNat : Nat)), ())].length ≤ 4294967296)) <|
 .ob (idx x2.2.1 x2.2.2.2.2.1) fun e4 =>
 .chk (decide (x2.2.2.2.1.length + [((u8.wrap ((BitVec.ofInt (u8.bits) (e4.1) ^^^ BitVec.ofInt (u8.bits) ((92 : Int))).toNat : Nat)), ())].length ≤ 4294967296)) <|
 .leaf (.inl (x2.1, x2.2.1, (x2.2.2.1 ++ [((u8.wrap ((BitVec.ofInt (u8.bits) (e3.1) ^^^ BitVec.ofInt (u8.bits) ((54 : Int))).toNat : Nat)), ())]), (x2.2.2.2.1 ++ [((u8.wrap ((BitVec.ofInt (u8.bits) (e4.1) ^^^ BitVec.ofInt (u8.bits) ((92 : Int))).toNat : Nat)), ())]), (i64.wrap (x2.2.2.2.2.1 + (1 : Int))), ()))) (
 .leaf (.inr (x2.1, x2.2.2.1, x2.2.2.2.1, ())))
def Nv (a0 : YBs) (a1 : YBs) : Tree (YBs) :=
 .br (decide ((a0.1.length : Int) > (1048576 : Int))) (
 .leaf (([] : List YB), ())) (
 .br (decide ((a1.1.length : Int) > (1048512 : Int))) (
 .leaf (([] : List YB), ())) (
 .ob (Nu a0) fun r1 =>
 .ob (Ar Gm (a1.1, r1.1, ([] : List YB), ([] : List YB), (0 : Int), ())) fun o5 =>
 .chk (decide (o5.2.1.length + o5.1.length ≤ 4294967296)) <|
 .ob (Rj ((o5.2.1 ++ o5.1), ())) fun r6 =>
 .chk (decide (o5.2.2.1.length + r6.1.length ≤ 4294967296)) <|
 .ob (Rj ((o5.2.2.1 ++ r6.1), ())) fun r7 =>
 .leaf r7))
def K4 (a0 : YBs) (a1 : YBs) : Option (YBs) := (Nv a0 a1).val
def Agc (a0 : YBs) (a1 : YBs) : Tree (YBs) :=
 .ob (K4 a0 a1) fun r1 =>
 .br (decide ((r1.1.length : Int) < (16 : Int))) (
 .leaf (([] : List YB), ())) (
 .chk (decide ((16 : Int) ≤ (r1.1.length : Int))) <|
 .chk (decide (([] : List YB).length + ((r1.1.take ((16 : Int)).toNat).drop ((0 : Int)).toNat).length ≤ 4294967296)) <|
 .leaf ((([] : List YB) ++ ((r1.1.take ((16 : Int)).toNat).drop ((0 : Int)).toNat)), ()))
def Agd (a0 : YBs) (a1 : YBs) : Option (YBs) := (Agc a0 a1).val
def El (x2 : (List YB) × (List YB) × Int × (List YB) × (List YB) × Int × Unit) : Option (((List YB) × (List YB) × Int × (List YB) × (List YB) × Int × Unit) ⊕ ((Int × (List YB) × Unit))) :=
 Tree.val (α := ((List YB) × (List YB) × Int × (List YB) × (List YB) × Int × Unit) ⊕ ((Int × (List YB) × Unit))) <|
 .br (decide ((x2.2.2.2.1.length : Int) < x2.2.2.1)) (
 .chk (decide (([] : List YB).length + x2.2.2.2.2.1.length ≤ 4294967296)) <|
 .chk (decide ((([] : List YB) ++ x2.2.2.2.2.1).length + x2.2.1.length ≤ 4294967296)) <|
 .chk (decide (((([] : List YB) ++ x2.2.2.2.2.1) ++ x2.2.1).length + [((u8.wrap (x2.2.2.2.2.2.1)), ())].length ≤ 4294967296)) <|
 .ob (K4 (x2.1, ()) ((((([] : List YB) ++ x2.2.2.2.2.1) ++ x2.2.1) ++ [((u8.wrap (x2.2.2.2.2.2.1)), ())]), ())) fun r3 =>
 .chk (decide (x2.2.2.2.1.length + r3.1.length ≤ 4294967296)) <|
 .leaf (.inl (x2.1, x2.2.1, x2.2.2.1, (x2.2.2.2.1 ++ r3.1), r3.1, (i64.wrap (x2.2.2.2.2.2.1 + (1 : Int))), ()))) (
 .leaf (.inr (x2.2.2.1, x2.2.2.2.1, ())))
def Kb (a0 : YBs) (a1 : YBs) (a2 : YI) : Tree (YBs × (Bool × Unit)) :=
 .ob (Gk a2 ((0 : Int), ()) ((8160 : Int), ())) fun r1 =>
 .br (!r1.1) (
 .leaf ((([] : List YB), ()), (false, ()))) (
 .br (decide ((a1.1.length : Int) > (100 : Int))) (
 .leaf ((([] : List YB), ()), (false, ()))) (
 .br (decide ((a0.1.length : Int) > (1048576 : Int))) (
 .leaf ((([] : List YB), ()), (false, ()))) (
 .ob (Ar El (a0.1, a1.1, a2.1, ([] : List YB), ([] : List YB), (1 : Int), ())) fun o4 =>
 .chk (decide ((0 : Int) ≤ o4.1)) <|
 .chk (decide (o4.1 ≤ (o4.2.1.length : Int))) <|
 .chk (decide (([] : List YB).length + ((o4.2.1.take (o4.1).toNat).drop ((0 : Int)).toNat).length ≤ 4294967296)) <|
 .leaf (((([] : List YB) ++ ((o4.2.1.take (o4.1).toNat).drop ((0 : Int)).toNat)), ()), (true, ())))))
def S5 (a0 : YBs) (a1 : YBs) (a2 : YI) : Option (YBs × (Bool × Unit)) := (Kb a0 a1 a2).val
def S6 (a0 : YBs) (a1 : ByteArray × Unit) : Tree (YBs) :=
 .chk (decide (a1.1.size ≤ 4294967296)) <|
 .ob (S5 a0 ((Mf a1.1), ()) ((32 : Int), ())) fun r1 =>
 .leaf r1.1
def Mz (a0 : YBs) (a1 : ByteArray × Unit) : Option (YBs) := (S6 a0 a1).val
def Qe (a0 : YBs) (a1 : YBs) (a2 : YI) : Tree (YBs) :=
 .ob (Gk a2 ((0 : Int), ()) ((6 : Int), ())) fun r1 =>
 .br (!r1.1) (
 .leaf (([] : List YB), ())) (
 .br (decide ((a1.1.length : Int) > (100 : Int))) (
 .leaf (([] : List YB), ())) (
 .chk (decide ([((115 : Int), ())].length + a1.1.length ≤ 4294967296)) <|
 .ob (Hm (([((115 : Int), ())] ++ a1.1), ()) a2 ((4 : Int), ())) fun r2 =>
 .ob (K4 a0 r2) fun r3 =>
 .leaf r3))
def Qf (a0 : YBs) (a1 : YBs) (a2 : YI) : Option (YBs) := (Qe a0 a1 a2).val
def Em (x2 : (List YB) × (List YB) × Int × (List YB) × Int × Unit) : Option (((List YB) × (List YB) × Int × (List YB) × Int × Unit) ⊕ ((Int × (List YB) × Unit))) :=
 Tree.val (α := ((List YB) × (List YB) × Int × (List YB) × Int × Unit) ⊕ ((Int × (List YB) × Unit))) <|
 .br (decide ((x2.2.2.2.1.length : Int) < x2.2.2.1)) (
 .ob (Qf (x2.1, ()) (x2.2.1, ()) (x2.2.2.2.2.1, ())) fun r3 =>
 .chk (decide (x2.2.2.2.1.length + r3.1.length ≤ 4294967296)) <|
 .leaf (.inl (x2.1, x2.2.1, x2.2.2.1, (x2.2.2.2.1 ++ r3.1), (i64.wrap (x2.2.2.2.2.1 + (1 : Int))), ()))) (
 .leaf (.inr (x2.2.2.1, x2.2.2.2.1, ())))
def Kc (a0 : YBs) (a1 : YBs) (a2 : YI) : Tree (YBs) :=
 .ob (Gk a2 ((0 : Int), ()) ((200 : Int), ())) fun r1 =>
 .br (!r1.1) (
 .leaf (([] : List YB), ())) (
 .br (decide ((a1.1.length : Int) > (100 : Int))) (
 .leaf (([] : List YB), ())) (
 .br (decide ((a0.1.length : Int) > (1048576 : Int))) (
 .leaf (([] : List YB), ())) (
 .ob (Ar Em (a0.1, a1.1, a2.1, ([] : List YB), (0 : Int), ())) fun o4 =>
 .chk (decide ((0 : Int) ≤ o4.1)) <|
 .chk (decide (o4.1 ≤ (o4.2.1.length : Int))) <|
 .chk (decide (([] : List YB).length + ((o4.2.1.take (o4.1).toNat).drop ((0 : Int)).toNat).length ≤ 4294967296)) <|
 .leaf ((([] : List YB) ++ ((o4.2.1.take (o4.1).toNat).drop ((0 : Int)).toNat)), ()))))
def S7 (a0 : YBs) (a1 : YBs) (a2 : YI) : Option (YBs) := (Kc a0 a1 a2).val
def Hr (x2 : (List YB) × (List YB) × (List YB) × Int × Unit) : Option (((List YB) × (List YB) × (List YB) × Int × Unit) ⊕ (YBs)) :=
 Tree.val (α := ((List YB) × (List YB) × (List YB) × Int × Unit) ⊕ (YBs)) <|
 .br (decide (x2.2.2.2.1 < (x2.1.length : Int))) (
 .ob (idx x2.1 x2.2.2.2.1) fun e3 =>
 .ob (idx x2.2.2.1 x2.2.2.2.1) fun e4 =>
 .chk (decide (x2.2.1.length + [((u8.wrap ((BitVec.ofInt (u8.bits) (e3.1) ^^^ BitVec.ofInt (u8.bits) (e4.1)).toNat : Nat)), ())].length ≤ 4294967296)) <|
 .leaf (.inl (x2.1, (x2.2.1 ++ [((u8.wrap ((BitVec.ofInt (u8.bits) (e3.1) ^^^ BitVec.ofInt (u8.bits) (e4.1)).toNat : Nat)), ())]), x2.2.2.1, (i64.wrap (x2.2.2.2.1 + (1 : Int))), ()))) (
 .leaf (.inr (x2.2.1, ())))
def Rk (a0 : YBs) (a1 : YBs) (a2 : YBs) : Tree (YBs) :=
 .br (decide ((a2.1.length : Int) > (200 : Int))) (
 .leaf (([] : List YB), ())) (
 .br (decide ((a1.1.length : Int) > (100 : Int))) (
 .leaf (([] : List YB), ())) (
 .br (decide ((a0.1.length : Int) > (1048576 : Int))) (
 .leaf (([] : List YB), ())) (
 .ob (S7 a0 a1 ((a2.1.length : Int), ())) fun r1 =>
 .ob (Ar Hr (a2.1, ([] : List YB), r1.1, (0 : Int), ())) fun o5 =>
 .leaf o5)))
def Age (a0 : YBs) (a1 : YBs) (a2 : YBs) : Option (YBs) := (Rk a0 a1 a2).val
def Fr (x14 : (List YOp) × (List Az) × (List YBs) × (List YBs) × Int × Int × (List YB) × Int × Unit) : Option (((List YOp) × (List Az) × (List YBs) × (List YBs) × Int × Int × (List YB) × Int × Unit) ⊕ (((List YOp) × (List Az) × (List YBs) × (List YBs) × Int × Int × (List YB) × Unit))) :=
 Tree.val (α := ((List YOp) × (List Az) × (List YBs) × (List YBs) × Int × Int × (List YB) × Int × Unit) ⊕ (((List YOp) × (List Az) × (List YBs) × (List YBs) × Int × Int × (List YB) × Unit))) <|
 .ob (idx x14.2.2.2.1 x14.2.2.2.2.2.1) fun e15 =>
 .br (decide (x14.2.2.2.2.2.2.2.1 < (e15.1.length : Int))) (
 .ob (idx x14.2.2.2.1 x14.2.2.2.2.2.1) fun e16 =>
 .ob (idx e16.1 x14.2.2.2.2.2.2.2.1) fun e17 =>
 .ob (idx x14.2.2.2.1 (i64.wrap (x14.2.2.2.2.2.1 + (1 : Int)))) fun e18 =>
 .ob (idx e18.1 x14.2.2.2.2.2.2.2.1) fun e19 =>
 .chk (decide (x14.2.2.2.2.2.2.1.length + [((u8.wrap ((BitVec.ofInt (u8.bits) (e17.1) ^^^ BitVec.ofInt (u8.bits) (e19.1)).toNat : Nat)), ())].length ≤ 4294967296)) <|
 .leaf (.inl (x14.1, x14.2.1, x14.2.2.1, x14.2.2.2.1, x14.2.2.2.2.1, x14.2.2.2.2.2.1, (x14.2.2.2.2.2.2.1 ++ [((u8.wrap ((BitVec.ofInt (u8.bits) (e17.1) ^^^ BitVec.ofInt (u8.bits) (e19.1)).toNat : Nat)), ())]), (i64.wrap (x14.2.2.2.2.2.2.2.1 + (1 : Int))), ()))) (
 .leaf (.inr (x14.1, x14.2.1, x14.2.2.1, x14.2.2.2.1, x14.2.2.2.2.1, x14.2.2.2.2.2.1, x14.2.2.2.2.2.2.1, ())))
def D4 (x1 : (List YOp) × (List Az) × (List YBs) × (List YBs) × Int × Unit) : Option (((List YOp) × (List Az) × (List YBs) × (List YBs) × Int × Unit) ⊕ (((List YB) × Bool × Unit) ⊕ ((List YBs) × Unit))) :=
 Tree.val (α := ((List YOp) × (List Az) × (List YBs) × (List YBs) × Int × Unit) ⊕ (((List YB) × Bool × Unit) ⊕ ((List YBs) × Unit))) <|
 .br (decide (x1.2.2.2.2.1 < (x1.1.length : Int))) (
 .ob (idx x1.1 x1.2.2.2.2.1) fun e2 =>
 .ob (S4 e2) fun r3 =>
 .br (!r3.1) (
 .leaf (.inr (.inl (([] : List YB), false, ())))) (
 .ob (Cg (e2.1, ())) fun r4 =>
 .br (decide ((x1.2.2.2.1.length : Int) < r4.1)) (
 .leaf (.inr (.inl (([] : List YB), false, ())))) (
 .ob (Cg (e2.1, ())) fun r5 =>
 .br (e2.1 == (1 : Int)) (
 .chk (decide (([] : List YB).length + e2.2.2.2.1.length ≤ 4294967296)) <|
 .br (decide (((([] : List YB) ++ e2.2.2.2.1).length : Int) > (200 : Int))) (
 .leaf (.inr (.inl (([] : List YB), false, ())))) (
 .br ((i64.wrap ((x1.2.2.2.1.length : Int) - r5.1)) == (8 : Int)) (
 .leaf (.inr (.inl (([] : List YB), false, ())))) (
 .chk (decide ((0 : Int) ≤ (i64.wrap ((x1.2.2.2.1.length : Int) - r5.1)))) <|
 .chk (decide ((i64.wrap ((x1.2.2.2.1.length : Int) - r5.1)) ≤ (x1.2.2.2.1.length : Int))) <|
 .chk (decide (((x1.2.2.2.1.take ((i64.wrap ((x1.2.2.2.1.length : Int) - r5.1))).toNat).drop ((0 : Int)).toNat).length + [((([] : List YB) ++ e2.2.2.2.1), ())].length ≤ 4294967296)) <|
 .leaf (.inl (x1.1, x1.2.1, x1.2.2.1, (((x1.2.2.2.1.take ((i64.wrap ((x1.2.2.2.1.length : Int) - r5.1))).toNat).drop ((0 : Int)).toNat) ++ [((([] : List YB) ++ e2.2.2.2.1), ())]), (i64.wrap (x1.2.2.2.2.1 + (1 : Int))), ()))))) (
 .br (e2.1 == (2 : Int)) (
 .br (decide (e2.2.1 ≥ (x1.2.1.length : Int))) (
 .leaf (.inr (.inl (([] : List YB), false, ())))) (
 .ob (idx x1.2.1 e2.2.1) fun e6 =>
 .chk (decide (([] : List YB).length + e6.2.2.2.2.1.length ≤ 4294967296)) <|
 .br (decide (((([] : List YB) ++ e6.2.2.2.2.1).length : Int) > (200 : Int))) (
 .leaf (.inr (.inl (([] : List YB), false, ())))) (
 .br ((i64.wrap ((x1.2.2.2.1.length : Int) - r5.1)) == (8 : Int)) (
 .leaf (.inr (.inl (([] : List YB), false, ())))) (
 .chk (decide ((0 : Int) ≤ (i64.wrap ((x1.2.2.2.1.length : Int) - r5.1)))) <|
 .chk (decide ((i64.wrap ((x1.2.2.2.1.length : Int) - r5.1)) ≤ (x1.2.2.2.1.length : Int))) <|
 .chk (decide (((x1.2.2.2.1.take ((i64.wrap ((x1.2.2.2.1.length : Int) - r5.1))).toNat).drop ((0 : Int)).toNat).length + [((([] : List YB) ++ e6.2.2.2.2.1), ())].length ≤ 4294967296)) <|
 .leaf (.inl (x1.1, x1.2.1, x1.2.2.1, (((x1.2.2.2.1.take ((i64.wrap ((x1.2.2.2.1.length : Int) - r5.1))).toNat).drop ((0 : Int)).toNat) ++ [((([] : List YB) ++ e6.2.2.2.2.1), ())]), (i64.wrap (x1.2.2.2.2.1 + (1 : Int))), ())))))) (
 .br (e2.1 == (3 : Int)) (
 .br (decide (e2.2.1 ≥ (x1.2.2.1.length : Int))) (
 .leaf (.inr (.inl (([] : List YB), false, ())))) (
 .ob (idx x1.2.2.1 e2.2.1) fun e7 =>
 .chk (decide (([] : List YB).length + e7.1.length ≤ 4294967296)) <|
 .br (decide (((([] : List YB) ++ e7.1).length : Int) > (200 : Int))) (
 .leaf (.inr (.inl (([] : List YB), false, ())))) (
 .br ((i64.wrap ((x1.2.2.2.1.length : Int) - r5.1)) == (8 : Int)) (
 .leaf (.inr (.inl (([] : List YB), false, ())))) (
 .chk (decide ((0 : Int) ≤ (i64.wrap ((x1.2.2.2.1.length : Int) - r5.1)))) <|
 .chk (decide ((i64.wrap ((x1.2.2.2.1.length : Int) - r5.1)) ≤ (x1.2.2.2.1.length : Int))) <|
 .chk (decide (((x1.2.2.2.1.take ((i64.wrap ((x1.2.2.2.1.length : Int) - r5.1))).toNat).drop ((0 : Int)).toNat).length + [((([] : List YB) ++ e7.1), ())].length ≤ 4294967296)) <|
 .leaf (.inl (x1.1, x1.2.1, x1.2.2.1, (((x1.2.2.2.1.take ((i64.wrap ((x1.2.2.2.1.length : Int) - r5.1))).toNat).drop ((0 : Int)).toNat) ++ [((([] : List YB) ++ e7.1), ())]), (i64.wrap (x1.2.2.2.2.1 + (1 : Int))), ())))))) (
 .br (e2.1 == (4 : Int)) (
 .ob (idx x1.2.2.2.1 (i64.wrap ((x1.2.2.2.1.length : Int) - r5.1))) fun e8 =>
 .ob (Af9 e8 (e2.2.1, ()) (e2.2.2.1, ())) fun r9 =>
 .br (!r9.2.1) (
 .leaf (.inr (.inl (([] : List YB), false, ())))) (
 .br (decide ((r9.1.1.length : Int) > (200 : Int))) (
 .leaf (.inr (.inl (([] : List YB), false, ())))) (
 .br ((i64.wrap ((x1.2.2.2.1.length : Int) - r5.1)) == (8 : Int)) (
 .leaf (.inr (.inl (([] : List YB), false, ())))) (
 .chk (decide ((0 : Int) ≤ (i64.wrap ((x1.2.2.2.1.length : Int) - r5.1)))) <|
 .chk (decide ((i64.wrap ((x1.2.2.2.1.length : Int) - r5.1)) ≤ (x1.2.2.2.1.length : Int))) <|
 .chk (decide (((x1.2.2.2.1.take ((i64.wrap ((x1.2.2.2.1.length : Int) - r5.1))).toNat).drop ((0 : Int)).toNat).length + [r9.1].length ≤ 4294967296)) <|
 .leaf (.inl (x1.1, x1.2.1, x1.2.2.1, (((x1.2.2.2.1.take ((i64.wrap ((x1.2.2.2.1.length : Int) - r5.1))).toNat).drop ((0 : Int)).toNat) ++ [r9.1]), (i64.wrap (x1.2.2.2.2.1 + (1 : Int))), ())))))) (
 .br (e2.1 == (5 : Int)) (
 .ob (idx x1.2.2.2.1 (i64.wrap ((x1.2.2.2.1.length : Int) - r5.1))) fun e10 =>
 .chk (decide (([] : List YB).length + e10.1.length ≤ 4294967296)) <|
 .ob (idx x1.2.2.2.1 (i64.wrap ((i64.wrap ((x1.2.2.2.1.length : Int) - r5.1)) + (1 : Int)))) fun e11 =>
 .chk (decide ((([] : List YB) ++ e10.1).length + e11.1.length ≤ 4294967296)) <|
 .br (decide ((((([] : List YB) ++ e10.1) ++ e11.1).length : Int) > (200 : Int))) (
 .leaf (.inr (.inl (([] : List YB), false, ())))) (
 .br ((i64.wrap ((x1.2.2.2.1.length : Int) - r5.1)) == (8 : Int)) (
 .leaf (.inr (.inl (([] : List YB), false, ())))) (
 .chk (decide ((0 : Int) ≤ (i64.wrap ((x1.2.2.2.1.length : Int) - r5.1)))) <|
 .chk (decide ((i64.wrap ((x1.2.2.2.1.length : Int) - r5.1)) ≤ (x1.2.2.2.1.length : Int))) <|
 .chk (decide (((x1.2.2.2.1.take ((i64.wrap ((x1.2.2.2.1.length : Int) - r5.1))).toNat).drop ((0 : Int)).toNat).length + [(((([] : List YB) ++ e10.1) ++ e11.1), ())].length ≤ 4294967296)) <|
 .leaf (.inl (x1.1, x1.2.1, x1.2.2.1, (((x1.2.2.2.1.take ((i64.wrap ((x1.2.2.2.1.length : Int) - r5.1))).toNat).drop ((0 : Int)).toNat) ++ [(((([] : List YB) ++ e10.1) ++ e11.1), ())]), (i64.wrap (x1.2.2.2.2.1 + (1 : Int))), ()))))) (
 .br (e2.1 == (6 : Int)) (
 .ob (idx x1.2.2.2.1 (i64.wrap ((x1.2.2.2.1.length : Int) - r5.1))) fun e12 =>
 .ob (idx x1.2.2.2.1 (i64.wrap ((i64.wrap ((x1.2.2.2.1.length : Int) - r5.1)) + (1 : Int)))) fun e13 =>
 .br ((e12.1.length : Int) != (e13.1.length : Int)) (
 .leaf (.inr (.inl (([] : List YB), false, ())))) (
 .ob (Ar Fr (x1.1, x1.2.1, x1.2.2.1, x1.2.2.2.1, x1.2.2.2.2.1, (i64.wrap ((x1.2.2.2.1.length : Int) - r5.1)), ([] : List YB), (0 : Int), ())) fun o20 =>
 .br (decide ((o20.2.2.2.2.2.2.1.length : Int) > (200 : Int))) (
 .leaf (.inr (.inl (([] : List YB), false, ())))) (
 .br (o20.2.2.2.2.2.1 == (8 : Int)) (
 .leaf (.inr (.inl (([] : List YB), false, ())))) (
 .chk (decide ((0 : Int) ≤ o20.2.2.2.2.2.1)) <|
 .chk (decide (o20.2.2.2.2.2.1 ≤ (o20.2.2.2.1.length : Int))) <|
 .chk (decide (((o20.2.2.2.1.take (o20.2.2.2.2.2.1).toNat).drop ((0 : Int)).toNat).length + [(o20.2.2.2.2.2.2.1, ())].length ≤ 4294967296)) <|
 .leaf (.inl (o20.1, o20.2.1, o20.2.2.1, (((o20.2.2.2.1.take (o20.2.2.2.2.2.1).toNat).drop ((0 : Int)).toNat) ++ [(o20.2.2.2.2.2.2.1, ())]), (i64.wrap (o20.2.2.2.2.1 + (1 : Int))), ())))))) (
 .br (e2.1 == (7 : Int)) (
 .ob (idx x1.2.2.2.1 (i64.wrap ((x1.2.2.2.1.length : Int) - r5.1))) fun e21 =>
 .ob (idx x1.2.2.2.1 (i64.wrap ((i64.wrap ((x1.2.2.2.1.length : Int) - r5.1)) + (1 : Int)))) fun e22 =>
 .ob (K4 e21 e22) fun r23 =>
 .br (decide ((r23.1.length : Int) > (200 : Int))) (
 .leaf (.inr (.inl (([] : List YB), false, ())))) (
 .br ((i64.wrap ((x1.2.2.2.1.length : Int) - r5.1)) == (8 : Int)) (
 .leaf (.inr (.inl (([] : List YB), false, ())))) (
 .chk (decide ((0 : Int) ≤ (i64.wrap ((x1.2.2.2.1.length : Int) - r5.1)))) <|
 .chk (decide ((i64.wrap ((x1.2.2.2.1.length : Int) - r5.1)) ≤ (x1.2.2.2.1.length : Int))) <|
 .chk (decide (((x1.2.2.2.1.take ((i64.wrap ((x1.2.2.2.1.length : Int) - r5.1))).toNat).drop ((0 : Int)).toNat).length + [r23].length ≤ 4294967296)) <|
 .leaf (.inl (x1.1, x1.2.1, x1.2.2.1, (((x1.2.2.2.1.take ((i64.wrap ((x1.2.2.2.1.length : Int) - r5.1))).toNat).drop ((0 : Int)).toNat) ++ [r23]), (i64.wrap (x1.2.2.2.2.1 + (1 : Int))), ()))))) (
 .br (e2.1 == (8 : Int)) (
 .ob (idx x1.2.2.2.1 (i64.wrap ((x1.2.2.2.1.length : Int) - r5.1))) fun e24 =>
 .ob (idx x1.2.2.2.1 (i64.wrap ((i64.wrap ((x1.2.2.2.1.length : Int) - r5.1)) + (1 : Int)))) fun e25 =>
 .ob (Agd e24 e25) fun r26 =>
 .br (decide ((r26.1.length : Int) > (200 : Int))) (
 .leaf (.inr (.inl (([] : List YB), false, ())))) (
 .br ((i64.wrap ((x1.2.2.2.1.length : Int) - r5.1)) == (8 : Int)) (
 .leaf (.inr (.inl (([] : List YB), false, ())))) (
 .chk (decide ((0 : Int) ≤ (i64.wrap ((x1.2.2.2.1.length : Int) - r5.1)))) <|
 .chk (decide ((i64.wrap ((x1.2.2.2.1.length : Int) - r5.1)) ≤ (x1.2.2.2.1.length : Int))) <|
 .chk (decide (((x1.2.2.2.1.take ((i64.wrap ((x1.2.2.2.1.length : Int) - r5.1))).toNat).drop ((0 : Int)).toNat).length + [r26].length ≤ 4294967296)) <|
 .leaf (.inl (x1.1, x1.2.1, x1.2.2.1, (((x1.2.2.2.1.take ((i64.wrap ((x1.2.2.2.1.length : Int) - r5.1))).toNat).drop ((0 : Int)).toNat) ++ [r26]), (i64.wrap (x1.2.2.2.2.1 + (1 : Int))), ()))))) (
 .br (e2.1 == (9 : Int)) (
 .ob (idx x1.2.2.2.1 (i64.wrap ((x1.2.2.2.1.length : Int) - r5.1))) fun e27 =>
 .ob (Mz e27 ((Nw [114, 101, 107, 101, 121]), ())) fun r28 =>
 .br (decide ((r28.1.length : Int) > (200 : Int))) (
 .leaf (.inr (.inl (([] : List YB), false, ())))) (
 .br ((i64.wrap ((x1.2.2.2.1.length : Int) - r5.1)) == (8 : Int)) (
 .leaf (.inr (.inl (([] : List YB), false, ())))) (
 .chk (decide ((0 : Int) ≤ (i64.wrap ((x1.2.2.2.1.length : Int) - r5.1)))) <|
 .chk (decide ((i64.wrap ((x1.2.2.2.1.length : Int) - r5.1)) ≤ (x1.2.2.2.1.length : Int))) <|
 .chk (decide (((x1.2.2.2.1.take ((i64.wrap ((x1.2.2.2.1.length : Int) - r5.1))).toNat).drop ((0 : Int)).toNat).length + [r28].length ≤ 4294967296)) <|
 .leaf (.inl (x1.1, x1.2.1, x1.2.2.1, (((x1.2.2.2.1.take ((i64.wrap ((x1.2.2.2.1.length : Int) - r5.1))).toNat).drop ((0 : Int)).toNat) ++ [r28]), (i64.wrap (x1.2.2.2.2.1 + (1 : Int))), ()))))) (
 .br (e2.1 == (10 : Int)) (
 .ob (idx x1.2.2.2.1 (i64.wrap ((x1.2.2.2.1.length : Int) - r5.1))) fun e29 =>
 .ob (idx x1.2.2.2.1 (i64.wrap ((i64.wrap ((x1.2.2.2.1.length : Int) - r5.1)) + (1 : Int)))) fun e30 =>
 .ob (idx x1.2.2.2.1 (i64.wrap ((i64.wrap ((x1.2.2.2.1.length : Int) - r5.1)) + (2 : Int)))) fun e31 =>
 .ob (Age e29 e30 e31) fun r32 =>
 .br (decide ((r32.1.length : Int) > (200 : Int))) (
 .leaf (.inr (.inl (([] : List YB), false, ())))) (
 .br ((i64.wrap ((x1.2.2.2.1.length : Int) - r5.1)) == (8 : Int)) (
 .leaf (.inr (.inl (([] : List YB), false, ())))) (
 .chk (decide ((0 : Int) ≤ (i64.wrap ((x1.2.2.2.1.length : Int) - r5.1)))) <|
 .chk (decide ((i64.wrap ((x1.2.2.2.1.length : Int) - r5.1)) ≤ (x1.2.2.2.1.length : Int))) <|
 .chk (decide (((x1.2.2.2.1.take ((i64.wrap ((x1.2.2.2.1.length : Int) - r5.1))).toNat).drop ((0 : Int)).toNat).length + [r32].length ≤ 4294967296)) <|
 .leaf (.inl (x1.1, x1.2.1, x1.2.2.1, (((x1.2.2.2.1.take ((i64.wrap ((x1.2.2.2.1.length : Int) - r5.1))).toNat).drop ((0 : Int)).toNat) ++ [r32]), (i64.wrap (x1.2.2.2.2.1 + (1 : Int))), ()))))) (
 .br (decide ((([] : List YB).length : Int) > (200 : Int))) (
 .leaf (.inr (.inl (([] : List YB), false, ())))) (
 .br ((i64.wrap ((x1.2.2.2.1.length : Int) - r5.1)) == (8 : Int)) (
 .leaf (.inr (.inl (([] : List YB), false, ())))) (
 .chk (decide ((0 : Int) ≤ (i64.wrap ((x1.2.2.2.1.length : Int) - r5.1)))) <|
 .chk (decide ((i64.wrap ((x1.2.2.2.1.length : Int) - r5.1)) ≤ (x1.2.2.2.1.length : Int))) <|
 .chk (decide (((x1.2.2.2.1.take ((i64.wrap ((x1.2.2.2.1.length : Int) - r5.1))).toNat).drop ((0 : Int)).toNat).length + [(([] : List YB), ())].length ≤ 4294967296)) <|
 .leaf (.inl (x1.1, x1.2.1, x1.2.2.1, (((x1.2.2.2.1.take ((i64.wrap ((x1.2.2.2.1.length : Int) - r5.1))).toNat).drop ((0 : Int)).toNat) ++ [(([] : List YB), ())]), (i64.wrap (x1.2.2.2.2.1 + (1 : Int))), ()))))))))))))))))) (
 .leaf (.inr (.inr (x1.2.2.2.1, ()))))
def Nx (a0 : (List YOp) × Unit) (a1 : (List Az) × Unit) (a2 : (List YBs) × Unit) : Tree (YBs × (Bool × Unit)) :=
 .br (decide ((a0.1.length : Int) > (16 : Int))) (
 .leaf ((([] : List YB), ()), (false, ()))) (
 .ob (Ar D4 (a0.1, a1.1, a2.1, ([] : List YBs), (0 : Int), ())) fun o33 =>
 .sm o33 (fun o34 =>
 .leaf ((o34.1, ()), (o34.2.1, ()))) (fun o35 =>
 .br ((o35.1.length : Int) != (1 : Int)) (
 .leaf ((([] : List YB), ()), (false, ()))) (
 .ob (idx o35.1 (0 : Int)) fun e36 =>
 .chk (decide (([] : List YB).length + e36.1.length ≤ 4294967296)) <|
 .leaf (((([] : List YB) ++ e36.1), ()), (true, ())))))
def Abg (a0 : (List YOp) × Unit) (a1 : (List Az) × Unit) (a2 : (List YBs) × Unit) : Option (YBs × (Bool × Unit)) := (Nx a0 a1 a2).val
def Ny (a0 : YI) : Tree (YI) :=
 .br (a0.1 == (4 : Int)) (
 .leaf ((1 : Int), ())) (
 .br (a0.1 == (9 : Int)) (
 .leaf ((1 : Int), ())) (
 .br (a0.1 == (5 : Int)) (
 .leaf ((2 : Int), ())) (
 .br (a0.1 == (6 : Int)) (
 .leaf ((2 : Int), ())) (
 .br (a0.1 == (7 : Int)) (
 .leaf ((2 : Int), ())) (
 .br (a0.1 == (8 : Int)) (
 .leaf ((2 : Int), ())) (
 .br (a0.1 == (10 : Int)) (
 .leaf ((3 : Int), ())) (
 .leaf ((0 : Int), ()))))))))
def B5 (a0 : YI) : Option (YI) := (Ny a0).val
def S8 (a0 : YI) (a1 : YI) (a2 : YI) : Tree ((Bool × Unit)) :=
 .br (decide (a0.1 ≥ a1.1)) (
 .leaf ((decide (a0.1 ≤ a2.1)), ())) (
 .leaf (false, ()))
def Cw (a0 : YI) (a1 : YI) (a2 : YI) : Option ((Bool × Unit)) := (S8 a0 a1 a2).val
def S9 (a0 : YOp) : Tree ((Bool × Unit)) :=
 .ob (Cw (a0.1, ()) ((1 : Int), ()) ((10 : Int), ())) fun r1 =>
 .br r1.1 (
 .br (decide ((a0.2.2.2.1.length : Int) ≤ (200 : Int))) (
 .ob (Cw (a0.2.1, ()) ((0 : Int), ()) ((200 : Int), ())) fun r2 =>
 .br r2.1 (
 .ob (Cw (a0.2.2.1, ()) ((0 : Int), ()) ((200 : Int), ())) fun r3 =>
 .leaf r3) (
 .leaf (false, ()))) (
 .leaf (false, ()))) (
 .leaf (false, ()))
def Ta (a0 : YOp) : Option ((Bool × Unit)) := (S9 a0).val
def Agf (a0 : YBs) (a1 : YI) (a2 : YI) : Tree (YBs × (Bool × Unit)) :=
 .br (decide (a1.1 < (0 : Int))) (
 .leaf ((([] : List YB), ()), (false, ()))) (
 .br (decide (a2.1 < (0 : Int))) (
 .leaf ((([] : List YB), ()), (false, ()))) (
 .br (decide (a1.1 > (a0.1.length : Int))) (
 .leaf ((([] : List YB), ()), (false, ()))) (
 .br (decide (a2.1 > (i64.wrap ((a0.1.length : Int) - a1.1)))) (
 .leaf ((([] : List YB), ()), (false, ()))) (
 .chk (decide ((0 : Int) ≤ a1.1)) <|
 .chk (decide (a1.1 ≤ (i64.wrap (a1.1 + a2.1)))) <|
 .chk (decide ((i64.wrap (a1.1 + a2.1)) ≤ (a0.1.length : Int))) <|
 .chk (decide (([] : List YB).length + ((a0.1.take ((i64.wrap (a1.1 + a2.1))).toNat).drop (a1.1).toNat).length ≤ 4294967296)) <|
 .leaf (((([] : List YB) ++ ((a0.1.take ((i64.wrap (a1.1 + a2.1))).toNat).drop (a1.1).toNat)), ()), (true, ()))))))
def Za (a0 : YBs) (a1 : YI) (a2 : YI) : Option (YBs × (Bool × Unit)) := (Agf a0 a1 a2).val
def En (x1 : (List YB) × (List YBs) × Int × Int × Unit) : Option (((List YB) × (List YBs) × Int × Int × Unit) ⊕ (YBs)) :=
 Tree.val (α := ((List YB) × (List YBs) × Int × Int × Unit) ⊕ (YBs)) <|
 .br (decide (x1.2.2.2.1 < x1.2.2.1)) (
 .ob (idx x1.2.1 x1.2.2.2.1) fun e2 =>
 .chk (decide (x1.1.length + e2.1.length ≤ 4294967296)) <|
 .leaf (.inl ((x1.1 ++ e2.1), x1.2.1, x1.2.2.1, (i64.wrap (x1.2.2.2.1 + (1 : Int))), ()))) (
 .leaf (.inr (x1.1, ())))
def Kd (a0 : (List YBs) × Unit) : Tree (YBs) :=
 .ob (Ar En (([] : List YB), a0.1, (a0.1.length : Int), (0 : Int), ())) fun o3 =>
 .leaf o3
def D5 (a0 : (List YBs) × Unit) : Option (YBs) := (Kd a0).val
def Fs (x1 : (List YB) × (List YB) × (List YB) × Int × Int × Unit) : Option (((List YB) × (List YB) × (List YB) × Int × Int × Unit) ⊕ (YBs)) :=
 Tree.val (α := ((List YB) × (List YB) × (List YB) × Int × Int × Unit) ⊕ (YBs)) <|
 .br (decide (x1.2.2.2.2.1 < x1.2.2.2.1)) (
 .ob (idx x1.2.2.1 x1.2.2.2.2.1) fun e2 =>
 .ob (idx x1.1 x1.2.2.2.2.1) fun e3 =>
 .chk (decide (x1.2.1.length + [((u8.wrap ((BitVec.ofInt (u8.bits) (e2.1) ^^^ BitVec.ofInt (u8.bits) (e3.1)).toNat : Nat)), ())].length ≤ 4294967296)) <|
 .leaf (.inl (x1.1, (x1.2.1 ++ [((u8.wrap ((BitVec.ofInt (u8.bits) (e2.1) ^^^ BitVec.ofInt (u8.bits) (e3.1)).toNat : Nat)), ())]), x1.2.2.1, x1.2.2.2.1, (i64.wrap (x1.2.2.2.2.1 + (1 : Int))), ()))) (
 .leaf (.inr (x1.2.1, ())))
def L3 (a0 : YBs) (a1 : YBs) : Tree (YBs) :=
 .ob (Ar Fs (a1.1, ([] : List YB), a0.1, (a0.1.length : Int), (0 : Int), ())) fun o4 =>
 .leaf o4
def Vy (a0 : YBs) (a1 : YBs) : Option (YBs) := (L3 a0 a1).val
def Vz (a0 : YBs) : Tree (YBs) :=
 .chk (decide (([] : List YB).length + a0.1.length ≤ 4294967296)) <|
 .leaf ((([] : List YB) ++ a0.1), ())
def D9 (a0 : YBs) : Option (YBs) := (Vz a0).val
def Aid  : Tree (((List YI) × Unit)) :=
 .leaf ([((1779033703 : Int), ()), ((3144134277 : Int), ()), ((1013904242 : Int), ()), ((2773480762 : Int), ()), ((1359893119 : Int), ()), ((2600822924 : Int), ()), ((528734635 : Int), ()), ((1541459225 : Int), ())], ())
def Aro  : Option (((List YI) × Unit)) := (Aid ).val
def Zx  : Tree (Gj) :=
 .ob Aro fun r1 =>
 .leaf (r1.1, ([] : List YB), (0 : Int), ())
def Zy  : Option (Gj) := (Zx ).val
def Ed (x1 : (List YI) × Int × (List YI) × Int × Int × Unit) : Option (((List YI) × Int × (List YI) × Int × Int × Unit) ⊕ ((Bool × Unit) ⊕ ((List YI) × Int × Unit))) :=
 Tree.val (α := ((List YI) × Int × (List YI) × Int × Int × Unit) ⊕ ((Bool × Unit) ⊕ ((List YI) × Int × Unit))) <|
 .br (decide (x1.2.2.2.2.1 < x1.2.2.2.1)) (
 .ob (idx x1.2.2.1 x1.2.2.2.2.1) fun e2 =>
 .ob (Cw e2 ((0 : Int), ()) ((4294967295 : Int), ())) fun r3 =>
 .br (!r3.1) (
 .leaf (.inr (.inl (false, ())))) (
 .leaf (.inl (x1.1, x1.2.1, x1.2.2.1, x1.2.2.2.1, (i64.wrap (x1.2.2.2.2.1 + (1 : Int))), ())))) (
 .leaf (.inr (.inr (x1.1, x1.2.1, ()))))
def Hs (a0 : (List YI) × Unit) (a1 : YI) : Tree ((Bool × Unit)) :=
 .ob (Ar Ed (a0.1, a1.1, a0.1, (a0.1.length : Int), (0 : Int), ())) fun o4 =>
 .sm o4 (fun o5 =>
 .leaf o5) (fun o6 =>
 .leaf (((o6.1.length : Int) == o6.2.1), ()))
def Ke (a0 : (List YI) × Unit) (a1 : YI) : Option ((Bool × Unit)) := (Hs a0 a1).val
def Tb (a0 : Gj) : Tree ((Bool × Unit)) :=
 .ob (Ke (a0.1, ()) ((8 : Int), ())) fun r1 =>
 .br r1.1 (
 .ob (Cw (a0.2.2.1, ()) ((0 : Int), ()) ((1048576 : Int), ())) fun r2 =>
 .br r2.1 (
 .chk (decide ((0 : Int) ≤ a0.2.2.1)) <|
 .leaf (((a0.2.2.1 % (64 : Int)) == (a0.2.1.length : Int)), ())) (
 .leaf (false, ()))) (
 .leaf (false, ()))
def M0 (a0 : Gj) : Option ((Bool × Unit)) := (Tb a0).val
def Gn (x2 : Int × Int × Int × (List YB) × Int × Int × Unit) : Option ((Int × Int × Int × (List YB) × Int × Int × Unit) ⊕ ((Int × Int × Int × Unit))) :=
 Tree.val (α := (Int × Int × Int × (List YB) × Int × Int × Unit) ⊕ ((Int × Int × Int × Unit))) <|
 .br (decide (x2.2.2.2.2.2.1 < x2.2.2.2.2.1)) (
 .ob (idx x2.2.2.2.1 x2.2.2.2.2.2.1) fun e3 =>
 .leaf (.inl (x2.1, x2.2.1, (i64.wrap ((i64.wrap ((256 : Int) * x2.2.2.1)) + (i64.wrap (e3.1)))), x2.2.2.2.1, x2.2.2.2.2.1, (i64.wrap (x2.2.2.2.2.2.1 + (1 : Int))), ()))) (
 .leaf (.inr (x2.1, x2.2.1, x2.2.2.1, ())))
def Nz (a0 : YBs) (a1 : YI) (a2 : YI) : Tree (YI × YI × (Bool × Unit)) :=
 .br (decide (a2.1 < (1 : Int))) (
 .leaf (((0 : Int), ()), ((0 : Int), ()), (false, ()))) (
 .br (decide (a2.1 > (6 : Int))) (
 .leaf (((0 : Int), ()), ((0 : Int), ()), (false, ()))) (
 .ob (Za a0 a1 a2) fun r1 =>
 .br (!r1.2.1) (
 .leaf (((0 : Int), ()), ((0 : Int), ()), (false, ()))) (
 .ob (Ar Gn (a1.1, a2.1, (0 : Int), r1.1.1, (r1.1.1.length : Int), (0 : Int), ())) fun o4 =>
 .leaf ((o4.2.2.1, ()), ((i64.wrap (o4.1 + o4.2.1)), ()), (true, ())))))
def Abh (a0 : YBs) (a1 : YI) (a2 : YI) : Option (YI × YI × (Bool × Unit)) := (Nz a0 a1 a2).val
def Agg (a0 : YI) (a1 : YI) : Tree (YI) :=
 .br (decide (a1.1 < (0 : Int))) (
 .leaf ((i64.wrap ((BitVec.ofInt (i64.bits) (a0.1) &&& BitVec.ofInt (i64.bits) ((4294967295 : Int))).toNat : Nat)), ())) (
 .br (decide (a1.1 > (31 : Int))) (
 .leaf ((i64.wrap ((BitVec.ofInt (i64.bits) (a0.1) &&& BitVec.ofInt (i64.bits) ((4294967295 : Int))).toNat : Nat)), ())) (
 .chk (decide ((0 : Int) ≤ a1.1)) <|
 .chk (decide ((0 : Int) ≤ (i64.wrap ((32 : Int) - a1.1)))) <|
 .leaf ((i64.wrap ((BitVec.ofInt (i64.bits) ((i64.wrap ((BitVec.ofInt (i64.bits) ((Int.fdiv (i64.wrap ((BitVec.ofInt (i64.bits) (a0.1) &&& BitVec.ofInt (i64.bits) ((4294967295 : Int))).toNat : Nat)) (2 ^ (min (a1.1).toNat i64.bits)))) ||| BitVec.ofInt (i64.bits) ((i64.wrap ((i64.wrap ((BitVec.ofInt (i64.bits) (a0.1) &&& BitVec.ofInt (i64.bits) ((4294967295 : Int))).toNat : Nat)) * 2 ^ (min ((i64.wrap ((32 : Int) - a1.1))).toNat i64.bits))))).toNat : Nat))) &&& BitVec.ofInt (i64.bits) ((4294967295 : Int))).toNat : Nat)), ())))
def E7 (a0 : YI) (a1 : YI) : Option (YI) := (Agg a0 a1).val
def Ee (x1 : (List YB) × (List YI) × Int × Unit) : Option (((List YB) × (List YI) × Int × Unit) ⊕ (((List YI) × Unit))) :=
 Tree.val (α := ((List YB) × (List YI) × Int × Unit) ⊕ (((List YI) × Unit))) <|
 .br (decide (x1.2.2.1 < (16 : Int))) (
 .ob (Abh (x1.1, ()) ((i64.wrap ((4 : Int) * x1.2.2.1)), ()) ((4 : Int), ())) fun r2 =>
 .ob (idx x1.2.1 x1.2.2.1) fun e3 =>
 let q4 := (x1.2.1.set (x1.2.2.1).toNat r2.1)
 .leaf (.inl (x1.1, q4, (i64.wrap (x1.2.2.1 + (1 : Int))), ()))) (
 .leaf (.inr (x1.2.1, ())))
def Eg (x6 : (List YI) × Int × Unit) : Option (((List YI) × Int × Unit) ⊕ (((List YI) × Unit))) :=
 Tree.val (α := ((List YI) × Int × Unit) ⊕ (((List YI) × Unit))) <|
 .br (decide (x6.2.1 < (64 : Int))) (
 .ob (idx x6.1 (i64.wrap (x6.2.1 - (15 : Int)))) fun e7 =>
 .ob (idx x6.1 (i64.wrap (x6.2.1 - (2 : Int)))) fun e8 =>
 .ob (E7 e7 ((7 : Int), ())) fun r9 =>
 .ob (E7 e7 ((18 : Int), ())) fun r10 =>
 .ob (E7 e8 ((17 : Int), ())) fun r11 =>
 .ob (E7 e8 ((19 : Int), ())) fun r12 =>
 .ob (idx x6.1 (i64.wrap (x6.2.1 - (7 : Int)))) fun e13 =>
 .ob (idx x6.1 (i64.wrap (x6.2.1 - (16 : Int)))) fun e14 =>
 .ob (idx x6.1 x6.2.1) fun e15 =>
 let q16 := (x6.1.set (x6.2.1).toNat ((i64.wrap ((BitVec.ofInt (i64.bits) ((i64.wrap ((i64.wrap ((i64.wrap (e13.1 + e14.1)) + (i64.wrap ((BitVec.ofInt (i64.bits) ((i64.wrap ((BitVec.ofInt (i64.bits) (r9.1) ^^^ BitVec.ofInt (i64.bits) (r10.1)).toNat : Nat))) ^^^ BitVec.ofInt (i64.bits) ((Int.fdiv e7.1 (2 ^ (min ((3 : Int)).toNat i64.bits))))).toNat : Nat)))) + (i64.wrap ((BitVec.ofInt (i64.bits) ((i64.wrap ((BitVec.ofInt (i64.bits) (r11.1) ^^^ BitVec.ofInt (i64.bits) (r12.1)).toNat : Nat))) ^^^ BitVec.ofInt (i64.bits) ((Int.fdiv e8.1 (2 ^ (min ((10 : Int)).toNat i64.bits))))).toNat : Nat))))) &&& BitVec.ofInt (i64.bits) ((4294967295 : Int))).toNat : Nat)), ()))
 .leaf (.inl (q16, (i64.wrap (x6.2.1 + (1 : Int))), ()))) (
 .leaf (.inr (x6.1, ())))
def Ht (a0 : YBs) : Tree (((List YI) × Unit)) :=
 .br ((a0.1.length : Int) != (64 : Int)) (
 .leaf (([] : List YI), ())) (
 .ob (Ar Ee (a0.1, (List.replicate ((64 : Int)).toNat ((0 : Int), ())), (0 : Int), ())) fun o5 =>
 .ob (Ar Eg (o5.1, (16 : Int), ())) fun o17 =>
 .leaf o17)
def N0 (a0 : YBs) : Option (((List YI) × Unit)) := (Ht a0).val
def Uz (a0 : YI) : Tree YI := .leaf (L4 a0.1, ())
def U0 (a0 : YI) : Option YI := (Uz a0).val
def Aie (a0 : YI) (a1 : YI) : Tree (YI) :=
 .leaf ((i64.wrap ((BitVec.ofInt (i64.bits) ((i64.wrap (a0.1 + a1.1))) &&& BitVec.ofInt (i64.bits) ((4294967295 : Int))).toNat : Nat)), ())
def Pf (a0 : YI) (a1 : YI) : Option (YI) := (Aie a0 a1).val
def Dh (x11 : (List YI) × (List YI) × (List YI) × Int × Int × Int × Int × Int × Int × Int × Int × Int × Unit) : Option (((List YI) × (List YI) × (List YI) × Int × Int × Int × Int × Int × Int × Int × Int × Int × Unit) ⊕ (((List YI) × (List YI) × Int × Int × Int × Int × Int × Int × Int × Int × Unit))) :=
 Tree.val (α := ((List YI) × (List YI) × (List YI) × Int × Int × Int × Int × Int × Int × Int × Int × Int × Unit) ⊕ (((List YI) × (List YI) × Int × Int × Int × Int × Int × Int × Int × Int × Unit))) <|
 .br (decide (x11.2.2.2.2.2.2.2.2.2.2.2.1 < (64 : Int))) (
 .ob (E7 (x11.2.2.2.2.2.2.2.1, ()) ((6 : Int), ())) fun r12 =>
 .ob (E7 (x11.2.2.2.2.2.2.2.1, ()) ((11 : Int), ())) fun r13 =>
 .ob (E7 (x11.2.2.2.2.2.2.2.1, ()) ((25 : Int), ())) fun r14 =>
 .ob (U0 (x11.2.2.2.2.2.2.2.2.2.2.2.1, ())) fun r15 =>
 .ob (idx x11.2.2.1 x11.2.2.2.2.2.2.2.2.2.2.2.1) fun e16 =>
 .ob (E7 (x11.2.2.2.1, ()) ((2 : Int), ())) fun r17 =>
 .ob (E7 (x11.2.2.2.1, ()) ((13 : Int), ())) fun r18 =>
 .ob (E7 (x11.2.2.2.1, ()) ((22 : Int), ())) fun r19 =>
 .ob (Pf (x11.2.2.2.2.2.2.1, ()) ((i64.wrap ((i64.wrap ((i64.wrap ((i64.wrap (x11.2.2.2.2.2.2.2.2.2.2.1 + (i64.wrap ((BitVec.ofInt (i64.bits) ((i64.wrap ((BitVec.ofInt (i64.bits) (r12.1) ^^^ BitVec.ofInt (i64.bits) (r13.1)).toNat : Nat))) ^^^ BitVec.ofInt (i64.bits) (r14.1)).toNat : Nat)))) + (i64.wrap ((BitVec.ofInt (i64.bits) ((i64.wrap ((BitVec.ofInt (i64.bits) (x11.2.2.2.2.2.2.2.1) &&& BitVec.ofInt (i64.bits) (x11.2.2.2.2.2.2.2.2.1)).toNat : Nat))) ^^^ BitVec.ofInt (i64.bits) ((i64.wrap ((BitVec.ofInt (i64.bits) ((i64.wrap ((BitVec.ofInt (i64.bits) ((4294967295 : Int)) ^^^ BitVec.ofInt (i64.bits) (x11.2.2.2.2.2.2.2.1)).toNat : Nat))) &&& BitVec.ofInt (i64.bits) (x11.2.2.2.2.2.2.2.2.2.1)).toNat : Nat)))).toNat : Nat)))) + r15.1)) + e16.1)), ())) fun r20 =>
 .ob (Pf ((i64.wrap ((i64.wrap ((i64.wrap ((i64.wrap (x11.2.2.2.2.2.2.2.2.2.2.1 + (i64.wrap ((BitVec.ofInt (i64.bits) ((i64.wrap ((BitVec.ofInt (i64.bits) (r12.1) ^^^ BitVec.ofInt (i64.bits) (r13.1)).toNat : Nat))) ^^^ BitVec.ofInt (i64.bits) (r14.1)).toNat : Nat)))) + (i64.wrap ((BitVec.ofInt (i64.bits) ((i64.wrap ((BitVec.ofInt (i64.bits) (x11.2.2.2.2.2.2.2.1) &&& BitVec.ofInt (i64.bits) (x11.2.2.2.2.2.2.2.2.1)).toNat : Nat))) ^^^ BitVec.ofInt (i64.bits) ((i64.wrap ((BitVec.ofInt (i64.bits) ((i64.wrap ((BitVec.ofInt (i64.bits) ((4294967295 : Int)) ^^^ BitVec.ofInt (i64.bits) (x11.2.2.2.2.2.2.2.1)).toNat : Nat))) &&& BitVec.ofInt (i64.bits) (x11.2.2.2.2.2.2.2.2.2.1)).toNat : Nat)))).toNat : Nat)))) + r15.1)) + e16.1)), ()) ((i64.wrap ((i64.wrap ((BitVec.ofInt (i64.bits) ((i64.wrap ((BitVec.ofInt (i64.bits) (r17.1) ^^^ BitVec.ofInt (i64.bits) (r18.1)).toNat : Nat))) ^^^ BitVec.ofInt (i64.bits) (r19.1)).toNat : Nat)) + (i64.wrap ((BitVec.ofInt (i64.bits) ((i64.wrap ((BitVec.ofInt (i64.bits) ((i64.wrap ((BitVec.ofInt (i64.bits) (x11.2.2.2.1) &&& BitVec.ofInt (i64.bits) (x11.2.2.2.2.1)).toNat : Nat))) ^^^ BitVec.ofInt (i64.bits) ((i64.wrap ((BitVec.ofInt (i64.bits) (x11.2.2.2.1) &&& BitVec.ofInt (i64.bits) (x11.2.2.2.2.2.1)).toNat : Nat)))).toNat : Nat))) ^^^ BitVec.ofInt (i64.bits) ((i64.wrap ((BitVec.ofInt (i64.bits) (x11.2.2.2.2.1) &&& BitVec.ofInt (i64.bits) (x11.2.2.2.2.2.1)).toNat : Nat)))).toNat : Nat)))), ())) fun r21 =>
 .leaf (.inl (x11.1, x11.2.1, x11.2.2.1, r21.1, x11.2.2.2.1, x11.2.2.2.2.1, x11.2.2.2.2.2.1, r20.1, x11.2.2.2.2.2.2.2.1, x11.2.2.2.2.2.2.2.2.1, x11.2.2.2.2.2.2.2.2.2.1, (i64.wrap (x11.2.2.2.2.2.2.2.2.2.2.2.1 + (1 : Int))), ()))) (
 .leaf (.inr (x11.1, x11.2.1, x11.2.2.2.1, x11.2.2.2.2.1, x11.2.2.2.2.2.1, x11.2.2.2.2.2.2.1, x11.2.2.2.2.2.2.2.1, x11.2.2.2.2.2.2.2.2.1, x11.2.2.2.2.2.2.2.2.2.1, x11.2.2.2.2.2.2.2.2.2.2.1, ())))
def Cy (x23 : (List YI) × (List YI) × (List YI) × Int × Int × Unit) : Option (((List YI) × (List YI) × (List YI) × Int × Int × Unit) ⊕ (((List YI) × Unit))) :=
 Tree.val (α := ((List YI) × (List YI) × (List YI) × Int × Int × Unit) ⊕ (((List YI) × Unit))) <|
 .br (decide (x23.2.2.2.2.1 < x23.2.2.2.1)) (
 .ob (idx x23.2.2.1 x23.2.2.2.2.1) fun e24 =>
 .ob (idx x23.1 x23.2.2.2.2.1) fun e25 =>
 .ob (Pf e25 e24) fun r26 =>
 .ob (idx x23.2.1 x23.2.2.2.2.1) fun e27 =>
 let q28 := (x23.2.1.set (x23.2.2.2.2.1).toNat r26)
 .leaf (.inl (x23.1, q28, x23.2.2.1, x23.2.2.2.1, (i64.wrap (x23.2.2.2.2.1 + (1 : Int))), ()))) (
 .leaf (.inr (x23.2.1, ())))
def Hu (a0 : (List YI) × Unit) (a1 : YBs) : Tree (((List YI) × Unit)) :=
 .chk (decide (([] : List YI).length + a0.1.length ≤ 4294967296)) <|
 .ob (Ke a0 ((8 : Int), ())) fun r1 =>
 .br (!r1.1) (
 .leaf ((([] : List YI) ++ a0.1), ())) (
 .br ((a1.1.length : Int) != (64 : Int)) (
 .leaf ((([] : List YI) ++ a0.1), ())) (
 .ob (N0 a1) fun r2 =>
 .ob (idx a0.1 (0 : Int)) fun e3 =>
 .ob (idx a0.1 (1 : Int)) fun e4 =>
 .ob (idx a0.1 (2 : Int)) fun e5 =>
 .ob (idx a0.1 (3 : Int)) fun e6 =>
 .ob (idx a0.1 (4 : Int)) fun e7 =>
 .ob (idx a0.1 (5 : Int)) fun e8 =>
 .ob (idx a0.1 (6 : Int)) fun e9 =>
 .ob (idx a0.1 (7 : Int)) fun e10 =>
 .ob (Ar Dh (a0.1, (([] : List YI) ++ a0.1), r2.1, e3.1, e4.1, e5.1, e6.1, e7.1, e8.1, e9.1, e10.1, (0 : Int), ())) fun o22 =>
 .ob (Ar Cy (o22.1, o22.2.1, [(o22.2.2.1, ()), (o22.2.2.2.1, ()), (o22.2.2.2.2.1, ()), (o22.2.2.2.2.2.1, ()), (o22.2.2.2.2.2.2.1, ()), (o22.2.2.2.2.2.2.2.1, ()), (o22.2.2.2.2.2.2.2.2.1, ()), (o22.2.2.2.2.2.2.2.2.2.1, ())], ([(o22.2.2.1, ()), (o22.2.2.2.1, ()), (o22.2.2.2.2.1, ()), (o22.2.2.2.2.2.1, ()), (o22.2.2.2.2.2.2.1, ()), (o22.2.2.2.2.2.2.2.1, ()), (o22.2.2.2.2.2.2.2.2.1, ()), (o22.2.2.2.2.2.2.2.2.2.1, ())].length : Int), (0 : Int), ())) fun o29 =>
 .leaf o29))
def Hv (a0 : (List YI) × Unit) (a1 : YBs) : Option (((List YI) × Unit)) := (Hu a0 a1).val
def Cb (x3 : (List YI) × (List YB) × Unit) : Option (((List YI) × (List YB) × Unit) ⊕ (((List YI) × (List YB) × Unit))) :=
 Tree.val (α := ((List YI) × (List YB) × Unit) ⊕ (((List YI) × (List YB) × Unit))) <|
 .br (decide ((x3.2.1.length : Int) ≥ (64 : Int))) (
 .chk (decide ((64 : Int) ≤ (x3.2.1.length : Int))) <|
 .ob (Hv (x3.1, ()) (((x3.2.1.take ((64 : Int)).toNat).drop ((0 : Int)).toNat), ())) fun r4 =>
 .chk (decide ((64 : Int) ≤ (x3.2.1.length : Int))) <|
 .chk (decide ((x3.2.1.length : Int) ≤ (x3.2.1.length : Int))) <|
 .leaf (.inl (r4.1, ((x3.2.1.take ((x3.2.1.length : Int)).toNat).drop ((64 : Int)).toNat), ()))) (
 .leaf (.inr x3))
def Fg (a0 : (List YI) × Unit) (a1 : YBs) : Tree (((List YI) × Unit) × YBs) :=
 .ob (Ar Cb (a0.1, a1.1, ())) fun o5 =>
 .leaf ((o5.1, ()), (o5.2.1, ()))
def Hi (a0 : (List YI) × Unit) (a1 : YBs) : Option (((List YI) × Unit) × YBs) := (Fg a0 a1).val
def Qg (a0 : Gj) (a1 : YBs) : Tree (Gj) :=
 .ob (M0 a0) fun r1 =>
 .br (!r1.1) (
 .chk (decide (([] : List YI).length + a0.1.length ≤ 4294967296)) <|
 .ob (D9 (a0.2.1, ())) fun r2 =>
 .leaf ((([] : List YI) ++ a0.1), r2.1, a0.2.2.1, ())) (
 .br (decide ((a1.1.length : Int) > (i64.wrap ((1048576 : Int) - a0.2.2.1)))) (
 .chk (decide (([] : List YI).length + a0.1.length ≤ 4294967296)) <|
 .ob (D9 (a0.2.1, ())) fun r3 =>
 .leaf ((([] : List YI) ++ a0.1), r3.1, a0.2.2.1, ())) (
 .ob (D5 ([(a0.2.1, ()), a1], ())) fun r4 =>
 .ob (Hi (a0.1, ()) r4) fun r5 =>
 .chk (decide (([] : List YI).length + r5.1.1.length ≤ 4294967296)) <|
 .ob (D9 r5.2) fun r6 =>
 .leaf ((([] : List YI) ++ r5.1.1), r6.1, (i64.wrap (a0.2.2.1 + (a1.1.length : Int))), ())))
def Qh (a0 : Gj) (a1 : YBs) : Option (Gj) := (Qg a0 a1).val
def Tc (x1 : Int × (List YB) × Int × Unit) : Option ((Int × (List YB) × Int × Unit) ⊕ (YBs)) :=
 Tree.val (α := (Int × (List YB) × Int × Unit) ⊕ (YBs)) <|
 .br (decide (x1.2.2.1 ≥ (0 : Int))) (
 .chk (decide ((0 : Int) ≤ (i64.wrap ((8 : Int) * x1.2.2.1)))) <|
 .chk (decide (x1.2.1.length + [((u8.wrap ((i64.wrap ((BitVec.ofInt (i64.bits) ((Int.fdiv x1.1 (2 ^ (min ((i64.wrap ((8 : Int) * x1.2.2.1))).toNat i64.bits)))) &&& BitVec.ofInt (i64.bits) ((255 : Int))).toNat : Nat)))), ())].length ≤ 4294967296)) <|
 .leaf (.inl (x1.1, (x1.2.1 ++ [((u8.wrap ((i64.wrap ((BitVec.ofInt (i64.bits) ((Int.fdiv x1.1 (2 ^ (min ((i64.wrap ((8 : Int) * x1.2.2.1))).toNat i64.bits)))) &&& BitVec.ofInt (i64.bits) ((255 : Int))).toNat : Nat)))), ())]), (i64.wrap (x1.2.2.1 - (1 : Int))), ()))) (
 .leaf (.inr (x1.2.1, ())))
def Td (a0 : YBs) (a1 : YI) (a2 : YI) : Tree (YBs) :=
 .chk (decide (([] : List YB).length + a0.1.length ≤ 4294967296)) <|
 .br (decide (a2.1 < (1 : Int))) (
 .leaf ((([] : List YB) ++ a0.1), ())) (
 .br (decide (a2.1 > (6 : Int))) (
 .leaf ((([] : List YB) ++ a0.1), ())) (
 .ob (Ar Tc (a1.1, (([] : List YB) ++ a0.1), (i64.wrap (a2.1 - (1 : Int))), ())) fun o2 =>
 .leaf o2))
def Jk (a0 : YBs) (a1 : YI) (a2 : YI) : Option (YBs) := (Td a0 a1 a2).val
def Gc (x2 : Int × (List YB) × Unit) : Option ((Int × (List YB) × Unit) ⊕ ((Int × (List YB) × Unit))) :=
 Tree.val (α := (Int × (List YB) × Unit) ⊕ ((Int × (List YB) × Unit))) <|
 .chk (decide ((0 : Int) ≤ (i64.wrap ((i64.wrap (x2.1 + (x2.2.1.length : Int))) + (8 : Int))))) <|
 .br (((i64.wrap ((i64.wrap (x2.1 + (x2.2.1.length : Int))) + (8 : Int))) % (64 : Int)) != (0 : Int)) (
 .chk (decide (x2.2.1.length + [((0 : Int), ())].length ≤ 4294967296)) <|
 .leaf (.inl (x2.1, (x2.2.1 ++ [((0 : Int), ())]), ()))) (
 .leaf (.inr x2))
def Rl (a0 : YI) : Tree (YBs) :=
 .ob (Cw a0 ((0 : Int), ()) ((1048576 : Int), ())) fun r1 =>
 .br (!r1.1) (
 .leaf (([] : List YB), ())) (
 .ob (Ar Gc (a0.1, [((128 : Int), ())], ())) fun o3 =>
 .chk (decide (o3.2.1.length + [((0 : Int), ()), ((0 : Int), ())].length ≤ 4294967296)) <|
 .ob (Jk ((o3.2.1 ++ [((0 : Int), ()), ((0 : Int), ())]), ()) ((i64.wrap ((8 : Int) * o3.1)), ()) ((6 : Int), ())) fun r4 =>
 .leaf r4)
def Agh (a0 : YI) : Option (YBs) := (Rl a0).val
def Cz (x1 : (List YB) × (List YI) × Int × Int × Unit) : Option (((List YB) × (List YI) × Int × Int × Unit) ⊕ (YBs)) :=
 Tree.val (α := ((List YB) × (List YI) × Int × Int × Unit) ⊕ (YBs)) <|
 .br (decide (x1.2.2.2.1 < x1.2.2.1)) (
 .ob (idx x1.2.1 x1.2.2.2.1) fun e2 =>
 .ob (Jk (x1.1, ()) e2 ((4 : Int), ())) fun r3 =>
 .leaf (.inl (r3.1, x1.2.1, x1.2.2.1, (i64.wrap (x1.2.2.2.1 + (1 : Int))), ()))) (
 .leaf (.inr (x1.1, ())))
def Gw (a0 : (List YI) × Unit) : Tree (YBs) :=
 .ob (Ar Cz (([] : List YB), a0.1, (a0.1.length : Int), (0 : Int), ())) fun o4 =>
 .leaf o4
def Mg (a0 : (List YI) × Unit) : Option (YBs) := (Gw a0).val
def Qi (a0 : Gj) : Tree (YBs) :=
 .ob (M0 a0) fun r1 =>
 .br (!r1.1) (
 .leaf (([] : List YB), ())) (
 .ob (Agh (a0.2.2.1, ())) fun r2 =>
 .ob (D5 ([(a0.2.1, ()), r2], ())) fun r3 =>
 .ob (Hi (a0.1, ()) r3) fun r4 =>
 .ob (Mg r4.1) fun r5 =>
 .leaf r5)
def Qj (a0 : Gj) : Option (YBs) := (Qi a0).val
def Agi (a0 : YBs) : Tree (YBs) :=
 .br (decide ((a0.1.length : Int) > (1048576 : Int))) (
 .leaf (([] : List YB), ())) (
 .ob Zy fun r1 =>
 .ob (Qh r1 a0) fun r2 =>
 .ob (Qj r2) fun r3 =>
 .leaf r3)
def Rm (a0 : YBs) : Option (YBs) := (Agi a0).val
def Ch (x3 : YBs) : Option (YBs ⊕ (YBs)) :=
 Tree.val (α := YBs ⊕ (YBs)) <|
 .br (decide ((x3.1.length : Int) < (64 : Int))) (
 .chk (decide (x3.1.length + [((0 : Int), ())].length ≤ 4294967296)) <|
 .leaf (.inl ((x3.1 ++ [((0 : Int), ())]), ()))) (
 .leaf (.inr x3))
def Hw (a0 : YBs) : Tree (YBs) :=
 .br (decide ((a0.1.length : Int) > (1048576 : Int))) (
 .leaf (([] : List YB), ())) (
 .ob (D9 a0) fun r1 =>
 .br (decide ((a0.1.length : Int) > (64 : Int))) (
 .ob (Rm a0) fun r2 =>
 .ob (Ar Ch r2) fun o4 =>
 .leaf o4) (
 .ob (Ar Ch r1) fun o5 =>
 .leaf o5))
def N3 (a0 : YBs) : Option (YBs) := (Hw a0).val
def Eo (x1 : Int × (List YB) × (List YB) × Int × Int × Unit) : Option ((Int × (List YB) × (List YB) × Int × Int × Unit) ⊕ (YBs)) :=
 Tree.val (α := (Int × (List YB) × (List YB) × Int × Int × Unit) ⊕ (YBs)) <|
 .br (decide (x1.2.2.2.2.1 < x1.2.2.2.1)) (
 .ob (idx x1.2.2.1 x1.2.2.2.2.1) fun e2 =>
 .chk (decide (x1.2.1.length + [((u8.wrap ((BitVec.ofInt (u8.bits) (e2.1) ^^^ BitVec.ofInt (u8.bits) (x1.1)).toNat : Nat)), ())].length ≤ 4294967296)) <|
 .leaf (.inl (x1.1, (x1.2.1 ++ [((u8.wrap ((BitVec.ofInt (u8.bits) (e2.1) ^^^ BitVec.ofInt (u8.bits) (x1.1)).toNat : Nat)), ())]), x1.2.2.1, x1.2.2.2.1, (i64.wrap (x1.2.2.2.2.1 + (1 : Int))), ()))) (
 .leaf (.inr (x1.2.1, ())))
def Kf (a0 : YBs) (a1 : YB) : Tree (YBs) :=
 .ob (Ar Eo (a1.1, ([] : List YB), a0.1, (a0.1.length : Int), (0 : Int), ())) fun o3 =>
 .leaf o3
def M4 (a0 : YBs) (a1 : YB) : Option (YBs) := (Kf a0 a1).val
def Abi (a0 : YBs) (a1 : YBs) : Tree (YBs) :=
 .br (decide ((a0.1.length : Int) > (1048576 : Int))) (
 .leaf (([] : List YB), ())) (
 .br (decide ((a1.1.length : Int) > (1048512 : Int))) (
 .leaf (([] : List YB), ())) (
 .ob (N3 a0) fun r1 =>
 .ob (M4 r1 ((92 : Int), ())) fun r2 =>
 .ob (M4 r1 ((54 : Int), ())) fun r3 =>
 .ob (D5 ([r3, a1], ())) fun r4 =>
 .ob (Rm r4) fun r5 =>
 .ob (D5 ([r2, r5], ())) fun r6 =>
 .ob (Rm r6) fun r7 =>
 .leaf r7))
def K5 (a0 : YBs) (a1 : YBs) : Option (YBs) := (Abi a0 a1).val
def Agj (a0 : YBs) (a1 : YBs) : Tree (YBs) :=
 .ob (K5 a0 a1) fun r1 =>
 .br ((r1.1.length : Int) == (0 : Int)) (
 .leaf (([] : List YB), ())) (
 .chk (decide ((16 : Int) ≤ (r1.1.length : Int))) <|
 .ob (D9 (((r1.1.take ((16 : Int)).toNat).drop ((0 : Int)).toNat), ())) fun r2 =>
 .leaf r2)
def Agk (a0 : YBs) (a1 : YBs) : Option (YBs) := (Agj a0 a1).val
def Ep (x2 : (List YB) × (List YB) × Int × (List YB) × (List YB) × Int × Unit) : Option (((List YB) × (List YB) × Int × (List YB) × (List YB) × Int × Unit) ⊕ ((Int × (List YB) × Unit))) :=
 Tree.val (α := ((List YB) × (List YB) × Int × (List YB) × (List YB) × Int × Unit) ⊕ ((Int × (List YB) × Unit))) <|
 .br (decide ((x2.2.2.2.1.length : Int) < x2.2.2.1)) (
 .ob (D5 ([(x2.2.2.2.2.1, ()), (x2.2.1, ()), ([((u8.wrap (x2.2.2.2.2.2.1)), ())], ())], ())) fun r3 =>
 .ob (K5 (x2.1, ()) r3) fun r4 =>
 .chk (decide (x2.2.2.2.1.length + r4.1.length ≤ 4294967296)) <|
 .leaf (.inl (x2.1, x2.2.1, x2.2.2.1, (x2.2.2.2.1 ++ r4.1), r4.1, (i64.wrap (x2.2.2.2.2.2.1 + (1 : Int))), ()))) (
 .leaf (.inr (x2.2.2.1, x2.2.2.2.1, ())))
def Kg (a0 : YBs) (a1 : YBs) (a2 : YI) : Tree (YBs × (Bool × Unit)) :=
 .ob (Cw a2 ((0 : Int), ()) ((8160 : Int), ())) fun r1 =>
 .br (!r1.1) (
 .leaf ((([] : List YB), ()), (false, ()))) (
 .br (decide ((a1.1.length : Int) > (100 : Int))) (
 .leaf ((([] : List YB), ()), (false, ()))) (
 .br (decide ((a0.1.length : Int) > (1048576 : Int))) (
 .leaf ((([] : List YB), ()), (false, ()))) (
 .ob (Ar Ep (a0.1, a1.1, a2.1, ([] : List YB), ([] : List YB), (1 : Int), ())) fun o5 =>
 .chk (decide ((0 : Int) ≤ o5.1)) <|
 .chk (decide (o5.1 ≤ (o5.2.1.length : Int))) <|
 .ob (D9 (((o5.2.1.take (o5.1).toNat).drop ((0 : Int)).toNat), ())) fun r6 =>
 .leaf (r6, (true, ())))))
def Te (a0 : YBs) (a1 : YBs) (a2 : YI) : Option (YBs × (Bool × Unit)) := (Kg a0 a1 a2).val
def Tf (a0 : YBs) (a1 : ByteArray × Unit) : Tree (YBs) :=
 .chk (decide (a1.1.size ≤ 4294967296)) <|
 .ob (Te a0 ((Mf a1.1), ()) ((32 : Int), ())) fun r1 =>
 .leaf r1.1
def M5 (a0 : YBs) (a1 : ByteArray × Unit) : Option (YBs) := (Tf a0 a1).val
def Qk (a0 : YBs) (a1 : YBs) (a2 : YI) : Tree (YBs) :=
 .ob (Cw a2 ((0 : Int), ()) ((6 : Int), ())) fun r1 =>
 .br (!r1.1) (
 .leaf (([] : List YB), ())) (
 .br (decide ((a1.1.length : Int) > (100 : Int))) (
 .leaf (([] : List YB), ())) (
 .ob (D5 ([([((115 : Int), ())], ()), a1], ())) fun r2 =>
 .ob (Jk r2 a2 ((4 : Int), ())) fun r3 =>
 .ob (K5 a0 r3) fun r4 =>
 .leaf r4))
def Ql (a0 : YBs) (a1 : YBs) (a2 : YI) : Option (YBs) := (Qk a0 a1 a2).val
def Er (x2 : (List YB) × (List YB) × Int × (List YB) × Int × Unit) : Option (((List YB) × (List YB) × Int × (List YB) × Int × Unit) ⊕ ((Int × (List YB) × Unit))) :=
 Tree.val (α := ((List YB) × (List YB) × Int × (List YB) × Int × Unit) ⊕ ((Int × (List YB) × Unit))) <|
 .br (decide ((x2.2.2.2.1.length : Int) < x2.2.2.1)) (
 .ob (Ql (x2.1, ()) (x2.2.1, ()) (x2.2.2.2.2.1, ())) fun r3 =>
 .chk (decide (x2.2.2.2.1.length + r3.1.length ≤ 4294967296)) <|
 .leaf (.inl (x2.1, x2.2.1, x2.2.2.1, (x2.2.2.2.1 ++ r3.1), (i64.wrap (x2.2.2.2.2.1 + (1 : Int))), ()))) (
 .leaf (.inr (x2.2.2.1, x2.2.2.2.1, ())))
def Kh (a0 : YBs) (a1 : YBs) (a2 : YI) : Tree (YBs) :=
 .ob (Cw a2 ((0 : Int), ()) ((200 : Int), ())) fun r1 =>
 .br (!r1.1) (
 .leaf (([] : List YB), ())) (
 .br (decide ((a1.1.length : Int) > (100 : Int))) (
 .leaf (([] : List YB), ())) (
 .br (decide ((a0.1.length : Int) > (1048576 : Int))) (
 .leaf (([] : List YB), ())) (
 .ob (Ar Er (a0.1, a1.1, a2.1, ([] : List YB), (0 : Int), ())) fun o4 =>
 .chk (decide ((0 : Int) ≤ o4.1)) <|
 .chk (decide (o4.1 ≤ (o4.2.1.length : Int))) <|
 .ob (D9 (((o4.2.1.take (o4.1).toNat).drop ((0 : Int)).toNat), ())) fun r5 =>
 .leaf r5)))
def Tg (a0 : YBs) (a1 : YBs) (a2 : YI) : Option (YBs) := (Kh a0 a1 a2).val
def Hx (x2 : (List YB) × (List YB) × (List YB) × Int × Int × Unit) : Option (((List YB) × (List YB) × (List YB) × Int × Int × Unit) ⊕ (YBs)) :=
 Tree.val (α := ((List YB) × (List YB) × (List YB) × Int × Int × Unit) ⊕ (YBs)) <|
 .br (decide (x2.2.2.2.2.1 < x2.2.2.2.1)) (
 .ob (idx x2.2.2.1 x2.2.2.2.2.1) fun e3 =>
 .ob (idx x2.1 x2.2.2.2.2.1) fun e4 =>
 .chk (decide (x2.2.1.length + [((u8.wrap ((BitVec.ofInt (u8.bits) (e3.1) ^^^ BitVec.ofInt (u8.bits) (e4.1)).toNat : Nat)), ())].length ≤ 4294967296)) <|
 .leaf (.inl (x2.1, (x2.2.1 ++ [((u8.wrap ((BitVec.ofInt (u8.bits) (e3.1) ^^^ BitVec.ofInt (u8.bits) (e4.1)).toNat : Nat)), ())]), x2.2.2.1, x2.2.2.2.1, (i64.wrap (x2.2.2.2.2.1 + (1 : Int))), ()))) (
 .leaf (.inr (x2.2.1, ())))
def Rn (a0 : YBs) (a1 : YBs) (a2 : YBs) : Tree (YBs) :=
 .br (decide ((a2.1.length : Int) > (200 : Int))) (
 .leaf (([] : List YB), ())) (
 .br (decide ((a1.1.length : Int) > (100 : Int))) (
 .leaf (([] : List YB), ())) (
 .br (decide ((a0.1.length : Int) > (1048576 : Int))) (
 .leaf (([] : List YB), ())) (
 .ob (Tg a0 a1 ((a2.1.length : Int), ())) fun r1 =>
 .ob (Ar Hx (a2.1, ([] : List YB), r1.1, (r1.1.length : Int), (0 : Int), ())) fun o5 =>
 .leaf o5)))
def Agl (a0 : YBs) (a1 : YBs) (a2 : YBs) : Option (YBs) := (Rn a0 a1 a2).val
def B0 (a0 : YOp) (a1 : (List YBs) × Unit) (a2 : (List Az) × Unit) (a3 : (List YBs) × Unit) : Tree (YBs × (Bool × Unit)) :=
 .br (a0.1 == (1 : Int)) (
 .leaf ((a0.2.2.2.1, ()), (true, ()))) (
 .br (a0.1 == (2 : Int)) (
 .br (decide (a0.2.1 < (a2.1.length : Int))) (
 .ob (idx a2.1 a0.2.1) fun e1 =>
 .leaf ((e1.2.2.2.2.1, ()), (true, ()))) (
 .leaf ((([] : List YB), ()), (false, ())))) (
 .br (a0.1 == (3 : Int)) (
 .br (decide (a0.2.1 < (a3.1.length : Int))) (
 .ob (idx a3.1 a0.2.1) fun e2 =>
 .leaf (e2, (true, ()))) (
 .leaf ((([] : List YB), ()), (false, ())))) (
 .br (a0.1 == (4 : Int)) (
 .ob (idx a1.1 (0 : Int)) fun e3 =>
 .ob (Za e3 (a0.2.1, ()) (a0.2.2.1, ())) fun r4 =>
 .leaf (r4.1, r4.2)) (
 .br (a0.1 == (5 : Int)) (
 .ob (idx a1.1 (0 : Int)) fun e5 =>
 .ob (idx a1.1 (1 : Int)) fun e6 =>
 .ob (D5 ([e5, e6], ())) fun r7 =>
 .leaf (r7, (true, ()))) (
 .br (a0.1 == (6 : Int)) (
 .ob (idx a1.1 (0 : Int)) fun e8 =>
 .ob (idx a1.1 (1 : Int)) fun e9 =>
 .br ((e8.1.length : Int) == (e9.1.length : Int)) (
 .ob (idx a1.1 (0 : Int)) fun e10 =>
 .ob (idx a1.1 (1 : Int)) fun e11 =>
 .ob (Vy e10 e11) fun r12 =>
 .leaf (r12, (true, ()))) (
 .leaf ((([] : List YB), ()), (false, ())))) (
 .br (a0.1 == (7 : Int)) (
 .ob (idx a1.1 (0 : Int)) fun e13 =>
 .ob (idx a1.1 (1 : Int)) fun e14 =>
 .ob (K5 e13 e14) fun r15 =>
 .leaf (r15, (true, ()))) (
 .br (a0.1 == (8 : Int)) (
 .ob (idx a1.1 (0 : Int)) fun e16 =>
 .ob (idx a1.1 (1 : Int)) fun e17 =>
 .ob (Agk e16 e17) fun r18 =>
 .leaf (r18, (true, ()))) (
 .br (a0.1 == (9 : Int)) (
 .ob (idx a1.1 (0 : Int)) fun e19 =>
 .ob (M5 e19 ((Nw [114, 101, 107, 101, 121]), ())) fun r20 =>
 .leaf (r20, (true, ()))) (
 .br (a0.1 == (10 : Int)) (
 .ob (idx a1.1 (0 : Int)) fun e21 =>
 .ob (idx a1.1 (1 : Int)) fun e22 =>
 .ob (idx a1.1 (2 : Int)) fun e23 =>
 .ob (Agl e21 e22 e23) fun r24 =>
 .leaf (r24, (true, ()))) (
 .leaf ((([] : List YB), ()), (false, ()))))))))))))
def Bd (a0 : YOp) (a1 : (List YBs) × Unit) (a2 : (List Az) × Unit) (a3 : (List YBs) × Unit) : Option (YBs × (Bool × Unit)) := (B0 a0 a1 a2 a3).val
def Fh (x6 : (List Az) × (List YBs) × (List YBs) × (List YOp) × Int × Int × Unit) : Option (((List Az) × (List YBs) × (List YBs) × (List YOp) × Int × Int × Unit) ⊕ (((List YB) × Bool × Unit) ⊕ ((List YBs) × Unit))) :=
 Tree.val (α := ((List Az) × (List YBs) × (List YBs) × (List YOp) × Int × Int × Unit) ⊕ (((List YB) × Bool × Unit) ⊕ ((List YBs) × Unit))) <|
 .br (decide (x6.2.2.2.2.2.1 < x6.2.2.2.2.1)) (
 .ob (idx x6.2.2.2.1 x6.2.2.2.2.2.1) fun e7 =>
 .ob (B5 (e7.1, ())) fun r8 =>
 .ob (Ta e7) fun r9 =>
 .br (!r9.1) (
 .leaf (.inr (.inl (([] : List YB), false, ())))) (
 .br (decide ((i64.wrap ((x6.2.2.1.length : Int) - r8.1)) < (0 : Int))) (
 .leaf (.inr (.inl (([] : List YB), false, ())))) (
 .chk (decide ((0 : Int) ≤ (i64.wrap ((x6.2.2.1.length : Int) - r8.1)))) <|
 .chk (decide ((i64.wrap ((x6.2.2.1.length : Int) - r8.1)) ≤ (x6.2.2.1.length : Int))) <|
 .chk (decide ((x6.2.2.1.length : Int) ≤ (x6.2.2.1.length : Int))) <|
 .ob (Bd e7 (((x6.2.2.1.take ((x6.2.2.1.length : Int)).toNat).drop ((i64.wrap ((x6.2.2.1.length : Int) - r8.1))).toNat), ()) (x6.1, ()) (x6.2.1, ())) fun r10 =>
 .br (!r10.2.1) (
 .leaf (.inr (.inl (([] : List YB), false, ())))) (
 .br (decide ((r10.1.1.length : Int) > (200 : Int))) (
 .leaf (.inr (.inl (([] : List YB), false, ())))) (
 .br (decide ((i64.wrap ((i64.wrap ((x6.2.2.1.length : Int) - r8.1)) + (1 : Int))) > (8 : Int))) (
 .leaf (.inr (.inl (([] : List YB), false, ())))) (
 .chk (decide ((0 : Int) ≤ (i64.wrap ((x6.2.2.1.length : Int) - r8.1)))) <|
 .chk (decide ((i64.wrap ((x6.2.2.1.length : Int) - r8.1)) ≤ (x6.2.2.1.length : Int))) <|
 .chk (decide (([] : List YBs).length + ((x6.2.2.1.take ((i64.wrap ((x6.2.2.1.length : Int) - r8.1))).toNat).drop ((0 : Int)).toNat).length ≤ 4294967296)) <|
 .chk (decide ((([] : List YBs) ++ ((x6.2.2.1.take ((i64.wrap ((x6.2.2.1.length : Int) - r8.1))).toNat).drop ((0 : Int)).toNat)).length + [r10.1].length ≤ 4294967296)) <|
 .leaf (.inl (x6.1, x6.2.1, ((([] : List YBs) ++ ((x6.2.2.1.take ((i64.wrap ((x6.2.2.1.length : Int) - r8.1))).toNat).drop ((0 : Int)).toNat)) ++ [r10.1]), x6.2.2.2.1, x6.2.2.2.2.1, (i64.wrap (x6.2.2.2.2.2.1 + (1 : Int))), ())))))))) (
 .leaf (.inr (.inr (x6.2.2.1, ()))))
def N4 (a0 : (List YOp) × Unit) (a1 : (List Az) × Unit) (a2 : (List YBs) × Unit) : Tree (YBs × (Bool × Unit)) :=
 .br (decide ((a0.1.length : Int) > (16 : Int))) (
 .leaf ((([] : List YB), ()), (false, ()))) (
 .ob (Ar Fh (a1.1, a2.1, ([] : List YBs), a0.1, (a0.1.length : Int), (0 : Int), ())) fun o11 =>
 .sm o11 (fun o12 =>
 .leaf ((o12.1, ()), (o12.2.1, ()))) (fun o13 =>
 .br ((o13.1.length : Int) != (1 : Int)) (
 .leaf ((([] : List YB), ()), (false, ()))) (
 .ob (idx o13.1 (0 : Int)) fun e14 =>
 .ob (D9 e14) fun r15 =>
 .leaf (r15, (true, ())))))
def Th (a0 : (List YOp) × Unit) (a1 : (List Az) × Unit) (a2 : (List YBs) × Unit) : Option (YBs × (Bool × Unit)) := (N4 a0 a1 a2).val
def E8 (x1 : (List YB) × (List YB) × Int × Unit) : Option (((List YB) × (List YB) × Int × Unit) ⊕ ((Bool × Unit) ⊕ (Unit))) :=
 Tree.val (α := ((List YB) × (List YB) × Int × Unit) ⊕ ((Bool × Unit) ⊕ (Unit))) <|
 .br (decide (x1.2.2.1 < (x1.1.length : Int))) (
 .ob (idx x1.1 x1.2.2.1) fun e2 =>
 .ob (idx x1.2.1 x1.2.2.1) fun e3 =>
 .br (e2.1 != e3.1) (
 .leaf (.inr (.inl (false, ())))) (
 .leaf (.inl (x1.1, x1.2.1, (i64.wrap (x1.2.2.1 + (1 : Int))), ())))) (
 .leaf (.inr (.inr ())))
def I1 (a0 : YBs) (a1 : YBs) : Tree ((Bool × Unit)) :=
 .br ((a0.1.length : Int) != (a1.1.length : Int)) (
 .leaf (false, ())) (
 .ob (Ar E8 (a0.1, a1.1, (0 : Int), ())) fun o4 =>
 .sm o4 (fun o5 =>
 .leaf o5) (fun o6 =>
 .leaf (true, ())))
def Ea (a0 : YBs) (a1 : YBs) : Option ((Bool × Unit)) := (I1 a0 a1).val
def Abj (a0 : YOp) (a1 : YOp) : Tree ((Bool × Unit)) :=
 .br (a0.1 != a1.1) (
 .leaf (false, ())) (
 .br (a0.2.1 != a1.2.1) (
 .leaf (false, ())) (
 .br (a0.2.2.1 != a1.2.2.1) (
 .leaf (false, ())) (
 .ob (Ea (a0.2.2.2.1, ()) (a1.2.2.2.1, ())) fun r1 =>
 .br (!r1.1) (
 .leaf (false, ())) (
 .leaf (true, ())))))
def Abk (a0 : YOp) (a1 : YOp) : Option ((Bool × Unit)) := (Abj a0 a1).val
def G7 (x1 : (List YOp) × (List YOp) × Int × Unit) : Option (((List YOp) × (List YOp) × Int × Unit) ⊕ ((Bool × Unit) ⊕ (Unit))) :=
 Tree.val (α := ((List YOp) × (List YOp) × Int × Unit) ⊕ ((Bool × Unit) ⊕ (Unit))) <|
 .br (decide (x1.2.2.1 < (x1.1.length : Int))) (
 .ob (idx x1.1 x1.2.2.1) fun e2 =>
 .ob (idx x1.2.1 x1.2.2.1) fun e3 =>
 .ob (Abk e2 e3) fun r4 =>
 .br (!r4.1) (
 .leaf (.inr (.inl (false, ())))) (
 .leaf (.inl (x1.1, x1.2.1, (i64.wrap (x1.2.2.1 + (1 : Int))), ())))) (
 .leaf (.inr (.inr ())))
def L5 (a0 : (List YOp) × Unit) (a1 : (List YOp) × Unit) : Tree ((Bool × Unit)) :=
 .br ((a0.1.length : Int) != (a1.1.length : Int)) (
 .leaf (false, ())) (
 .ob (Ar G7 (a0.1, a1.1, (0 : Int), ())) fun o5 =>
 .sm o5 (fun o6 =>
 .leaf o6) (fun o7 =>
 .leaf (true, ())))
def V0 (a0 : (List YOp) × Unit) (a1 : (List YOp) × Unit) : Option ((Bool × Unit)) := (L5 a0 a1).val
def Ti (a0 : Je) (a1 : Je) : Tree ((Bool × Unit)) :=
 .br (a0.1 != a1.1) (
 .leaf (false, ())) (
 .br (a0.2.1 != a1.2.1) (
 .leaf (false, ())) (
 .leaf (true, ())))
def M6 (a0 : Je) (a1 : Je) : Option ((Bool × Unit)) := (Ti a0 a1).val
def Tj (a0 : Az) (a1 : Az) : Tree ((Bool × Unit)) :=
 .ob (M6 (a0.1, a0.2.1, ()) (a1.1, a1.2.1, ())) fun r1 =>
 .br (!r1.1) (
 .leaf (false, ())) (
 .ob (M6 (a0.2.2.1, a0.2.2.2.1, ()) (a1.2.2.1, a1.2.2.2.1, ())) fun r2 =>
 .br (!r2.1) (
 .leaf (false, ())) (
 .ob (Ea (a0.2.2.2.2.1, ()) (a1.2.2.2.2.1, ())) fun r3 =>
 .br (!r3.1) (
 .leaf (false, ())) (
 .leaf (true, ()))))
def Tk (a0 : Az) (a1 : Az) : Option ((Bool × Unit)) := (Tj a0 a1).val
def E9 (x1 : (List Az) × (List Az) × Int × Unit) : Option (((List Az) × (List Az) × Int × Unit) ⊕ ((Bool × Unit) ⊕ (Unit))) :=
 Tree.val (α := ((List Az) × (List Az) × Int × Unit) ⊕ ((Bool × Unit) ⊕ (Unit))) <|
 .br (decide (x1.2.2.1 < (x1.1.length : Int))) (
 .ob (idx x1.1 x1.2.2.1) fun e2 =>
 .ob (idx x1.2.1 x1.2.2.1) fun e3 =>
 .ob (Tk e2 e3) fun r4 =>
 .br (!r4.1) (
 .leaf (.inr (.inl (false, ())))) (
 .leaf (.inl (x1.1, x1.2.1, (i64.wrap (x1.2.2.1 + (1 : Int))), ())))) (
 .leaf (.inr (.inr ())))
def I2 (a0 : (List Az) × Unit) (a1 : (List Az) × Unit) : Tree ((Bool × Unit)) :=
 .br ((a0.1.length : Int) != (a1.1.length : Int)) (
 .leaf (false, ())) (
 .ob (Ar E9 (a0.1, a1.1, (0 : Int), ())) fun o5 =>
 .sm o5 (fun o6 =>
 .leaf o6) (fun o7 =>
 .leaf (true, ())))
def Qm (a0 : (List Az) × Unit) (a1 : (List Az) × Unit) : Option ((Bool × Unit)) := (I2 a0 a1).val
def Eh (x1 : (List YBs) × (List YBs) × Int × Unit) : Option (((List YBs) × (List YBs) × Int × Unit) ⊕ ((Bool × Unit) ⊕ (Unit))) :=
 Tree.val (α := ((List YBs) × (List YBs) × Int × Unit) ⊕ ((Bool × Unit) ⊕ (Unit))) <|
 .br (decide (x1.2.2.1 < (x1.1.length : Int))) (
 .ob (idx x1.1 x1.2.2.1) fun e2 =>
 .ob (idx x1.2.1 x1.2.2.1) fun e3 =>
 .ob (Ea e2 e3) fun r4 =>
 .br (!r4.1) (
 .leaf (.inr (.inl (false, ())))) (
 .leaf (.inl (x1.1, x1.2.1, (i64.wrap (x1.2.2.1 + (1 : Int))), ())))) (
 .leaf (.inr (.inr ())))
def Hy (a0 : (List YBs) × Unit) (a1 : (List YBs) × Unit) : Tree ((Bool × Unit)) :=
 .br ((a0.1.length : Int) != (a1.1.length : Int)) (
 .leaf (false, ())) (
 .ob (Ar Eh (a0.1, a1.1, (0 : Int), ())) fun o5 =>
 .sm o5 (fun o6 =>
 .leaf o6) (fun o7 =>
 .leaf (true, ())))
def N5 (a0 : (List YBs) × Unit) (a1 : (List YBs) × Unit) : Option ((Bool × Unit)) := (Hy a0 a1).val
def Dr (x1 : Rg) : Option (Rg ⊕ (((List YB) × Int × Unit))) :=
 Tree.val (α := Rg ⊕ (((List YB) × Int × Unit))) <|
 .br (decide (x1.2.2.1 < (x1.1.length : Int))) (
 .ob (idx x1.1 x1.2.2.1) fun e2 =>
 let q3 := (x1.1.set (x1.2.2.1).toNat ((u8.wrap (x1.2.1)), ()))
 .leaf (.inl (q3, (i64.wrap (x1.2.1 + (1 : Int))), (i64.wrap (x1.2.2.1 + (1 : Int))), ()))) (
 .leaf (.inr (x1.1, x1.2.1, ())))
def Gx (a0 : YBs) (a1 : YI) : Tree (YI × YBs) :=
 .ob (Ar Dr (a0.1, a1.1, (0 : Int), ())) fun o4 =>
 .leaf ((o4.2.1, ()), (o4.1, ()))
def Fa (a0 : YBs) (a1 : YI) : Option (YI × YBs) := (Gx a0 a1).val
def Fb (x1 : (List YOp) × Int × Int × Unit) : Option (((List YOp) × Int × Int × Unit) ⊕ (((List YOp) × Int × Unit))) :=
 Tree.val (α := ((List YOp) × Int × Int × Unit) ⊕ (((List YOp) × Int × Unit))) <|
 .br (decide (x1.2.2.1 < (x1.1.length : Int))) (
 .ob (idx x1.1 x1.2.2.1) fun e2 =>
 let q3 := (x1.1.set (x1.2.2.1).toNat (x1.2.1, e2.2.1, e2.2.2.1, e2.2.2.2.1, ()))
 .ob (idx q3 x1.2.2.1) fun e4 =>
 let q5 := (q3.set (x1.2.2.1).toNat (e4.1, (i64.wrap (x1.2.1 + (1 : Int))), e4.2.2.1, e4.2.2.2.1, ()))
 .ob (idx q5 x1.2.2.1) fun e6 =>
 let q7 := (q5.set (x1.2.2.1).toNat (e6.1, e6.2.1, (i64.wrap ((i64.wrap (x1.2.1 + (1 : Int))) + (1 : Int))), e6.2.2.2.1, ()))
 .ob (idx q7 x1.2.2.1) fun e8 =>
 .ob (Fa (e8.2.2.2.1, ()) ((i64.wrap ((i64.wrap ((i64.wrap (x1.2.1 + (1 : Int))) + (1 : Int))) + (1 : Int))), ())) fun r9 =>
 let q10 := (q7.set (x1.2.2.1).toNat (e8.1, e8.2.1, e8.2.2.1, r9.2.1, ()))
 .leaf (.inl (q10, r9.1.1, (i64.wrap (x1.2.2.1 + (1 : Int))), ()))) (
 .leaf (.inr (x1.1, x1.2.1, ())))
def I3 (a0 : (List YOp) × Unit) (a1 : YI) : Tree (YI × ((List YOp) × Unit)) :=
 .ob (Ar Fb (a0.1, a1.1, (0 : Int), ())) fun o11 =>
 .leaf ((o11.2.1, ()), (o11.1, ()))
def Qn (a0 : (List YOp) × Unit) (a1 : YI) : Option (YI × ((List YOp) × Unit)) := (I3 a0 a1).val
def Ds (x1 : (List Az) × Int × Int × Unit) : Option (((List Az) × Int × Int × Unit) ⊕ (((List Az) × Int × Unit))) :=
 Tree.val (α := ((List Az) × Int × Int × Unit) ⊕ (((List Az) × Int × Unit))) <|
 .br (decide (x1.2.2.1 < (x1.1.length : Int))) (
 .ob (idx x1.1 x1.2.2.1) fun e2 =>
 let q3 := (x1.1.set (x1.2.2.1).toNat (x1.2.1, e2.2.1, e2.2.2.1, e2.2.2.2.1, e2.2.2.2.2.1, ()))
 .ob (idx q3 x1.2.2.1) fun e4 =>
 let q5 := (q3.set (x1.2.2.1).toNat (e4.1, (i64.wrap (x1.2.1 + (1 : Int))), e4.2.2.1, e4.2.2.2.1, e4.2.2.2.2.1, ()))
 .ob (idx q5 x1.2.2.1) fun e6 =>
 let q7 := (q5.set (x1.2.2.1).toNat (e6.1, e6.2.1, (i64.wrap ((i64.wrap (x1.2.1 + (1 : Int))) + (1 : Int))), e6.2.2.2.1, e6.2.2.2.2.1, ()))
 .ob (idx q7 x1.2.2.1) fun e8 =>
 let q9 := (q7.set (x1.2.2.1).toNat (e8.1, e8.2.1, e8.2.2.1, (i64.wrap ((i64.wrap ((i64.wrap (x1.2.1 + (1 : Int))) + (1 : Int))) + (1 : Int))), e8.2.2.2.2.1, ()))
 .ob (idx q9 x1.2.2.1) fun e10 =>
 .ob (Fa (e10.2.2.2.2.1, ()) ((i64.wrap ((i64.wrap ((i64.wrap ((i64.wrap (x1.2.1 + (1 : Int))) + (1 : Int))) + (1 : Int))) + (1 : Int))), ())) fun r11 =>
 let q12 := (q9.set (x1.2.2.1).toNat (e10.1, e10.2.1, e10.2.2.1, e10.2.2.2.1, r11.2.1, ()))
 .leaf (.inl (q12, r11.1.1, (i64.wrap (x1.2.2.1 + (1 : Int))), ()))) (
 .leaf (.inr (x1.1, x1.2.1, ())))
def Gy (a0 : (List Az) × Unit) (a1 : YI) : Tree (YI × ((List Az) × Unit)) :=
 .ob (Ar Ds (a0.1, a1.1, (0 : Int), ())) fun o13 =>
 .leaf ((o13.2.1, ()), (o13.1, ()))
def Mh (a0 : (List Az) × Unit) (a1 : YI) : Option (YI × ((List Az) × Unit)) := (Gy a0 a1).val
def Di (x1 : (List YBs) × Int × Int × Unit) : Option (((List YBs) × Int × Int × Unit) ⊕ (((List YBs) × Int × Unit))) :=
 Tree.val (α := ((List YBs) × Int × Int × Unit) ⊕ (((List YBs) × Int × Unit))) <|
 .br (decide (x1.2.2.1 < (x1.1.length : Int))) (
 .ob (idx x1.1 x1.2.2.1) fun e2 =>
 .ob (Fa e2 (x1.2.1, ())) fun r3 =>
 let q4 := (x1.1.set (x1.2.2.1).toNat r3.2)
 .leaf (.inl (q4, r3.1.1, (i64.wrap (x1.2.2.1 + (1 : Int))), ()))) (
 .leaf (.inr (x1.1, x1.2.1, ())))
def Fx (a0 : (List YBs) × Unit) (a1 : YI) : Tree (YI × ((List YBs) × Unit)) :=
 .ob (Ar Di (a0.1, a1.1, (0 : Int), ())) fun o5 =>
 .leaf ((o5.2.1, ()), (o5.1, ()))
def K6 (a0 : (List YBs) × Unit) (a1 : YI) : Option (YI × ((List YBs) × Unit)) := (Fx a0 a1).val
def Dt (x1 : Rg) : Option (Rg ⊕ (YI ⊕ YI)) :=
 Tree.val (α := Rg ⊕ (YI ⊕ YI)) <|
 .br (decide (x1.2.2.1 < (x1.1.length : Int))) (
 .ob (idx x1.1 x1.2.2.1) fun e2 =>
 .br (e2.1 != (u8.wrap (x1.2.1))) (
 .leaf (.inr (.inl ((-1 : Int), ())))) (
 .leaf (.inl (x1.1, (i64.wrap (x1.2.1 + (1 : Int))), (i64.wrap (x1.2.2.1 + (1 : Int))), ())))) (
 .leaf (.inr (.inr (x1.2.1, ()))))
def Gz (a0 : YBs) (a1 : YI) : Tree (YI) :=
 .ob (Ar Dt (a0.1, a1.1, (0 : Int), ())) fun o3 =>
 .sm o3 (fun o4 =>
 .leaf o4) (fun o5 =>
 .leaf o5)
def Jf (a0 : YBs) (a1 : YI) : Option (YI) := (Gz a0 a1).val
def C0 (a0 : (List YOp) × Unit) (a1 : (List Az) × Unit) (a2 : (List YBs) × Unit) : Tree ((Bool × Unit)) :=
 .ob (Vw a0 ((1048576 : Int), ())) fun r1 =>
 .br (decide (r1.1 < (0 : Int))) (
 .leaf (true, ())) (
 .ob (Qc a1 r1) fun r2 =>
 .br (decide (r2.1 < (0 : Int))) (
 .leaf (true, ())) (
 .ob (Nq a2 r2) fun r3 =>
 .br (decide (r3.1 < (0 : Int))) (
 .leaf (true, ())) (
 .ob (Jt a0) fun r4 =>
 .ob (G6 a1) fun r5 =>
 .ob (Fv a2) fun r6 =>
 .ob (Abg r4 r5 r6) fun r7 =>
 .ob (Jt a0) fun r8 =>
 .ob (G6 a1) fun r9 =>
 .ob (Fv a2) fun r10 =>
 .ob (Th r8 r9 r10) fun r11 =>
 .ob (Ea r11.1 r7.1) fun r12 =>
 .br (!r12.1) (
 .leaf (false, ())) (
 .br (!(r11.2.1 == r7.2.1)) (
 .leaf (false, ())) (
 .ob (Jt a0) fun r13 =>
 .ob (V0 r8 r13) fun r14 =>
 .br (!r14.1) (
 .leaf (false, ())) (
 .ob (G6 a1) fun r15 =>
 .ob (Qm r9 r15) fun r16 =>
 .br (!r16.1) (
 .leaf (false, ())) (
 .ob (Fv a2) fun r17 =>
 .ob (N5 r10 r17) fun r18 =>
 .br (!r18.1) (
 .leaf (false, ())) (
 .ob (Qn r8 ((1 : Int), ())) fun r19 =>
 .ob (Mh r9 r19.1) fun r20 =>
 .ob (K6 r10 r20.1) fun r21 =>
 .br (decide (r21.1.1 < (0 : Int))) (
 .leaf (false, ())) (
 .ob (Ea r11.1 r7.1) fun r22 =>
 .br (!r22.1) (
 .leaf (false, ())) (
 .br (!(r11.2.1 == r7.2.1)) (
 .leaf (false, ())) (
 .ob (Fa r11.1 ((1 : Int), ())) fun r23 =>
 .ob (Jf r23.2 ((1 : Int), ())) fun r24 =>
 .br (decide (r24.1 < (0 : Int))) (
 .leaf (false, ())) (
 .br (r24.1 != r23.1.1) (
 .leaf (false, ())) (
 .ob (Jt a0) fun r25 =>
 .ob (G6 a1) fun r26 =>
 .ob (Fv a2) fun r27 =>
 .ob (Th r25 r26 r27) fun r28 =>
 .ob (Ea r28.1 r7.1) fun r29 =>
 .br (!r29.1) (
 .leaf (false, ())) (
 .br (!(r28.2.1 == r7.2.1)) (
 .leaf (false, ())) (
 .ob (Jf r23.2 ((1 : Int), ())) fun r30 =>
 .br (decide (r30.1 < (0 : Int))) (
 .leaf (false, ())) (
 .br (r30.1 != r23.1.1) (
 .leaf (false, ())) (
 .leaf (true, ()))))))))))))))))))
def Pg (a0 : (List YOp) × Unit) (a1 : (List Az) × Unit) (a2 : (List YBs) × Unit) : Option ((Bool × Unit)) := (C0 a0 a1 a2).val
end
end Go.Proofs.Ytggdikabbngbaaa

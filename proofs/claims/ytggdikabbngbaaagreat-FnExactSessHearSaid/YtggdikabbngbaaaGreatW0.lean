/-
  What the functions of the seat answer, as plain terms (printed by a program, proved in the texts P); nothing is assumed.
-/
import Derived.Test.YtggdikabbngbaaaGreatEv2
namespace Go.Proofs.YtggdikabbngbaaaGreat
open Go.RowKit IntKind
set_option linter.unusedVariables false
set_option maxRecDepth 100000
set_option maxHeartbeats 4000000
noncomputable section
abbrev YB : Type := Int × Unit
abbrev YI : Type := Int × Unit
abbrev YBs : Type := List YB × Unit
abbrev Biz : Type := ByteArray × Int × Unit
abbrev B5 : Type := Int × Int × Unit
abbrev Bnf : Type := (List YB) × Int × Unit
abbrev Bo : Type := Int × (List YI) × Unit
abbrev Boz : Type := Int × Int × Bool × Int × Unit
abbrev Bqf : Type := Bool × Int × Int × Int × Unit
abbrev Af5 : Type := (List YB) × Int × Int × Unit
abbrev Bnm : Type := Int × Int × Int × Int × Unit
abbrev Lc : Type := (List YI) × (List YB) × Int × Unit
abbrev Aj : Type := Int × Int × (List YB) × Int × Unit
abbrev YEp : Type := Int × (List YB) × Int × Int × (List YI) × Unit
abbrev A6 : Type := Int × Int × (List Aj) × Unit
abbrev A5 : Type := Int × Int × Int × (List YB) × (List YB) × Int × Int × (List YB) × (List YB) × Int × Int × Int × Unit
abbrev Av : Type := Int × Int × (List YB) × (List YB) × Int × (List YB) × (List YB) × Int × Int × (List YB) × (List YB) × Unit
abbrev Bg : Type := Int × Int × Int × Int × (List YB) × (List YB) × Int × (List YB) × (List YB) × Int × Int × (List YB) × (List YB) × Unit
abbrev Ak : Type := Int × (List YB) × Int × (List YB) × Int × Int × (List YI) × Int × (List YB) × Int × Int × (List YI) × Bool × Int × (List YB) × Unit
abbrev Bi : Type := Int × (List YB) × (List YB) × Int × (List YB) × Int × (List YB) × Int × Int × (List YI) × Int × (List YB) × Int × Int × (List YI) × Bool × Int × (List YB) × Int × Int × (List Aj) × Int × Int × Bool × Unit
abbrev Bqg : Type := Int × (List Bi) × Unit
abbrev Bqd : Type := (List YBs) × (List YB) × (List YB) × Int × Int × (List Bi) × (List Bnm) × Unit
abbrev Bqe : Type := Int × (List YB) × Int × Int × Int × (List YB) × Int × Int × (List YB) × (List YB) × Int × (List YB) × (List YB) × Int × Int × (List YB) × (List YB) × Int × (List YB) × Int × (List YB) × Int × Int × (List YI) × Int × (List YB) × Int × Int × (List YI) × Bool × Int × (List YB) × Bool × Int × Int × Int × Bool × Int × Int × Int × Int × Unit
def Adr (a0 : YBs) (a1 : YI) : Tree (YI) :=
 .br (decide ((i64.wrap (a1.1 - (a0.1.length : Int))) < (0 : Int))) (
 .leaf ((-1 : Int), ())) (
 .leaf ((i64.wrap (a1.1 - (a0.1.length : Int))), ()))
def Dp (a0 : YBs) (a1 : YI) : Option (YI) := (Adr a0 a1).val
def Ah3 (a0 : (List YI) × Unit) (a1 : YI) : Tree (YI) :=
 .br (decide ((i64.wrap (a1.1 - (a0.1.length : Int))) < (0 : Int))) (
 .leaf ((-1 : Int), ())) (
 .leaf ((i64.wrap (a1.1 - (a0.1.length : Int))), ()))
def Ah4 (a0 : (List YI) × Unit) (a1 : YI) : Option (YI) := (Ah3 a0 a1).val
def Aog (a0 : Bo) (a1 : YI) : Tree (YI) :=
 .ob (Ah4 (a0.2.1, ()) a1) fun r1 =>
 .br (decide (r1.1 < (0 : Int))) (
 .leaf ((-1 : Int), ())) (
 .leaf r1)
def Aoh (a0 : Bo) (a1 : YI) : Option (YI) := (Aog a0 a1).val
def Ave (a0 : YEp) (a1 : YI) : Tree (YI) :=
 .ob (Dp (a0.2.1, ()) a1) fun r1 =>
 .br (decide (r1.1 < (0 : Int))) (
 .leaf ((-1 : Int), ())) (
 .ob (Aoh (a0.2.2.2.1, a0.2.2.2.2.1, ()) r1) fun r2 =>
 .br (decide (r2.1 < (0 : Int))) (
 .leaf ((-1 : Int), ())) (
 .leaf r2))
def Ah5 (a0 : YEp) (a1 : YI) : Option (YI) := (Ave a0 a1).val
def Ah6 (a0 : Ak) (a1 : YI) : Tree (YI) :=
 .ob (Dp (a0.2.1, ()) a1) fun r1 =>
 .br (decide (r1.1 < (0 : Int))) (
 .leaf ((-1 : Int), ())) (
 .ob (Ah5 (a0.2.2.1, a0.2.2.2.1, a0.2.2.2.2.1, a0.2.2.2.2.2.1, a0.2.2.2.2.2.2.1, ()) r1) fun r2 =>
 .br (decide (r2.1 < (0 : Int))) (
 .leaf ((-1 : Int), ())) (
 .ob (Ah5 (a0.2.2.2.2.2.2.2.1, a0.2.2.2.2.2.2.2.2.1, a0.2.2.2.2.2.2.2.2.2.1, a0.2.2.2.2.2.2.2.2.2.2.1, a0.2.2.2.2.2.2.2.2.2.2.2.1, ()) r2) fun r3 =>
 .br (decide (r3.1 < (0 : Int))) (
 .leaf ((-1 : Int), ())) (
 .ob (Dp (a0.2.2.2.2.2.2.2.2.2.2.2.2.2.2.1, ()) r3) fun r4 =>
 .br (decide (r4.1 < (0 : Int))) (
 .leaf ((-1 : Int), ())) (
 .leaf r4))))
def Ah7 (a0 : Ak) (a1 : YI) : Option (YI) := (Ah6 a0 a1).val
def Ah8 (a0 : Aj) (a1 : YI) : Tree (YI) :=
 .ob (Dp (a0.2.2.1, ()) a1) fun r1 =>
 .br (decide (r1.1 < (0 : Int))) (
 .leaf ((-1 : Int), ())) (
 .leaf r1)
def Ah9 (a0 : Aj) (a1 : YI) : Option (YI) := (Ah8 a0 a1).val
def Ls (x1 : (List Aj) × Int × Int × Unit) : Option (((List Aj) × Int × Int × Unit) ⊕ (YI ⊕ YI)) :=
 Tree.val (α := ((List Aj) × Int × Int × Unit) ⊕ (YI ⊕ YI)) <|
 .br (decide (x1.2.2.1 < (x1.1.length : Int))) (
 .ob (idx x1.1 x1.2.2.1) fun e2 =>
 .ob (Ah9 e2 (x1.2.1, ())) fun r3 =>
 .br (decide (r3.1 < (0 : Int))) (
 .leaf (.inr (.inl ((-1 : Int), ())))) (
 .leaf (.inl (x1.1, r3.1, (i64.wrap (x1.2.2.1 + (1 : Int))), ())))) (
 .leaf (.inr (.inr (x1.2.1, ()))))
def P0 (a0 : (List Aj) × Unit) (a1 : YI) : Tree (YI) :=
 .br (decide ((i64.wrap (a1.1 - (a0.1.length : Int))) < (0 : Int))) (
 .leaf ((-1 : Int), ())) (
 .ob (Ay Ls (a0.1, (i64.wrap (a1.1 - (a0.1.length : Int))), (0 : Int), ())) fun o4 =>
 .sm o4 (fun o5 =>
 .leaf o5) (fun o6 =>
 .leaf o6))
def Ads (a0 : (List Aj) × Unit) (a1 : YI) : Option (YI) := (P0 a0 a1).val
def Adt (a0 : A6) (a1 : YI) : Tree (YI) :=
 .ob (Ads (a0.2.2.1, ()) a1) fun r1 =>
 .br (decide (r1.1 < (0 : Int))) (
 .leaf ((-1 : Int), ())) (
 .leaf r1)
def Adu (a0 : A6) (a1 : YI) : Option (YI) := (Adt a0 a1).val
def Aia (a0 : Bi) (a1 : YI) : Tree (YI) :=
 .ob (Dp (a0.2.1, ()) a1) fun r1 =>
 .br (decide (r1.1 < (0 : Int))) (
 .leaf ((-1 : Int), ())) (
 .ob (Dp (a0.2.2.1, ()) r1) fun r2 =>
 .br (decide (r2.1 < (0 : Int))) (
 .leaf ((-1 : Int), ())) (
 .ob (Ah7 (a0.2.2.2.1, a0.2.2.2.2.1, a0.2.2.2.2.2.1, a0.2.2.2.2.2.2.1, a0.2.2.2.2.2.2.2.1, a0.2.2.2.2.2.2.2.2.1, a0.2.2.2.2.2.2.2.2.2.1, a0.2.2.2.2.2.2.2.2.2.2.1, a0.2.2.2.2.2.2.2.2.2.2.2.1, a0.2.2.2.2.2.2.2.2.2.2.2.2.1, a0.2.2.2.2.2.2.2.2.2.2.2.2.2.1, a0.2.2.2.2.2.2.2.2.2.2.2.2.2.2.1, a0.2.2.2.2.2.2.2.2.2.2.2.2.2.2.2.1, a0.2.2.2.2.2.2.2.2.2.2.2.2.2.2.2.2.1, a0.2.2.2.2.2.2.2.2.2.2.2.2.2.2.2.2.2.1, ()) r2) fun r3 =>
 .br (decide (r3.1 < (0 : Int))) (
 .leaf ((-1 : Int), ())) (
 .ob (Adu (a0.2.2.2.2.2.2.2.2.2.2.2.2.2.2.2.2.2.2.1, a0.2.2.2.2.2.2.2.2.2.2.2.2.2.2.2.2.2.2.2.1, a0.2.2.2.2.2.2.2.2.2.2.2.2.2.2.2.2.2.2.2.2.1, ()) r3) fun r4 =>
 .br (decide (r4.1 < (0 : Int))) (
 .leaf ((-1 : Int), ())) (
 .leaf r4))))
def Aib (a0 : Bi) (a1 : YI) : Option (YI) := (Aia a0 a1).val
def Adv (a0 : Av) (a1 : YI) : Tree (YI) :=
 .ob (Dp (a0.2.2.1, ()) a1) fun r1 =>
 .br (decide (r1.1 < (0 : Int))) (
 .leaf ((-1 : Int), ())) (
 .ob (Dp (a0.2.2.2.1, ()) r1) fun r2 =>
 .br (decide (r2.1 < (0 : Int))) (
 .leaf ((-1 : Int), ())) (
 .ob (Dp (a0.2.2.2.2.2.1, ()) r2) fun r3 =>
 .br (decide (r3.1 < (0 : Int))) (
 .leaf ((-1 : Int), ())) (
 .ob (Dp (a0.2.2.2.2.2.2.1, ()) r3) fun r4 =>
 .br (decide (r4.1 < (0 : Int))) (
 .leaf ((-1 : Int), ())) (
 .ob (Dp (a0.2.2.2.2.2.2.2.2.2.1, ()) r4) fun r5 =>
 .br (decide (r5.1 < (0 : Int))) (
 .leaf ((-1 : Int), ())) (
 .ob (Dp (a0.2.2.2.2.2.2.2.2.2.2.1, ()) r5) fun r6 =>
 .br (decide (r6.1 < (0 : Int))) (
 .leaf ((-1 : Int), ())) (
 .leaf r6))))))
def Adw (a0 : Av) (a1 : YI) : Option (YI) := (Adv a0 a1).val
def Ij (x1 : (List YB) × (List YB) × Int × Unit) : Option (((List YB) × (List YB) × Int × Unit) ⊕ (YBs)) :=
 Tree.val (α := ((List YB) × (List YB) × Int × Unit) ⊕ (YBs)) <|
 .br (decide (x1.2.2.1 < (x1.1.length : Int))) (
 .ob (idx x1.1 x1.2.2.1) fun e2 =>
 .ob (idx x1.2.1 x1.2.2.1) fun e3 =>
 let q4 := (x1.2.1.set (x1.2.2.1).toNat e2)
 .leaf (.inl (x1.1, q4, (i64.wrap (x1.2.2.1 + (1 : Int))), ()))) (
 .leaf (.inr (x1.2.1, ())))
def P1 (a0 : YBs) : Tree (YBs) :=
 .chk (decide ((0 : Int) ≤ (a0.1.length : Int))) <|
 .chk (decide ((a0.1.length : Int) ≤ (4294967296 : Int))) <|
 .chk (decide ((a0.1.length : Int) = (a0.1.length : Int))) <|
 .ob (Ay Ij (a0.1, (List.replicate ((a0.1.length : Int)).toNat ((0 : Int), ())), (0 : Int), ())) fun o5 =>
 .leaf o5
def Ct (a0 : YBs) : Option (YBs) := (P1 a0).val
def J7 (x1 : (List YI) × (List YI) × Int × Unit) : Option (((List YI) × (List YI) × Int × Unit) ⊕ (((List YI) × Unit))) :=
 Tree.val (α := ((List YI) × (List YI) × Int × Unit) ⊕ (((List YI) × Unit))) <|
 .br (decide (x1.2.2.1 < (x1.1.length : Int))) (
 .ob (idx x1.1 x1.2.2.1) fun e2 =>
 .ob (idx x1.2.1 x1.2.2.1) fun e3 =>
 let q4 := (x1.2.1.set (x1.2.2.1).toNat e2)
 .leaf (.inl (x1.1, q4, (i64.wrap (x1.2.2.1 + (1 : Int))), ()))) (
 .leaf (.inr (x1.2.1, ())))
def Rx (a0 : (List YI) × Unit) : Tree (((List YI) × Unit)) :=
 .chk (decide ((0 : Int) ≤ (a0.1.length : Int))) <|
 .chk (decide ((a0.1.length : Int) ≤ (4294967296 : Int))) <|
 .chk (decide ((a0.1.length : Int) = (a0.1.length : Int))) <|
 .ob (Ay J7 (a0.1, (List.replicate ((a0.1.length : Int)).toNat ((0 : Int), ())), (0 : Int), ())) fun o5 =>
 .leaf o5
def Aic (a0 : (List YI) × Unit) : Option (((List YI) × Unit)) := (Rx a0).val
def Aoi (a0 : Bo) : Tree (Bo) :=
 .ob (Aic (a0.2.1, ())) fun r1 =>
 .leaf (a0.1, r1.1, ())
def Aoj (a0 : Bo) : Option (Bo) := (Aoi a0).val
def Avf (a0 : YEp) : Tree (YEp) :=
 .ob (Ct (a0.2.1, ())) fun r1 =>
 .ob (Aoj (a0.2.2.2.1, a0.2.2.2.2.1, ())) fun r2 =>
 .leaf (a0.1, r1.1, a0.2.2.1, r2.1, r2.2.1, ())
def Aid (a0 : YEp) : Option (YEp) := (Avf a0).val
def Aie (a0 : Ak) : Tree (Ak) :=
 .ob (Ct (a0.2.1, ())) fun r1 =>
 .ob (Aid (a0.2.2.1, a0.2.2.2.1, a0.2.2.2.2.1, a0.2.2.2.2.2.1, a0.2.2.2.2.2.2.1, ())) fun r2 =>
 .ob (Aid (a0.2.2.2.2.2.2.2.1, a0.2.2.2.2.2.2.2.2.1, a0.2.2.2.2.2.2.2.2.2.1, a0.2.2.2.2.2.2.2.2.2.2.1, a0.2.2.2.2.2.2.2.2.2.2.2.1, ())) fun r3 =>
 .ob (Ct (a0.2.2.2.2.2.2.2.2.2.2.2.2.2.2.1, ())) fun r4 =>
 .leaf (a0.1, r1.1, r2.1, r2.2.1, r2.2.2.1, r2.2.2.2.1, r2.2.2.2.2.1, r3.1, r3.2.1, r3.2.2.1, r3.2.2.2.1, r3.2.2.2.2.1, a0.2.2.2.2.2.2.2.2.2.2.2.2.1, a0.2.2.2.2.2.2.2.2.2.2.2.2.2.1, r4.1, ())
def Aif (a0 : Ak) : Option (Ak) := (Aie a0).val
def Aig (a0 : B5) : Tree (B5) :=
 .leaf a0
def Ld (a0 : B5) : Option (B5) := (Aig a0).val
def Aih (a0 : Aj) : Tree (Aj) :=
 .ob (Ld (a0.1, a0.2.1, ())) fun r1 =>
 .ob (Ct (a0.2.2.1, ())) fun r2 =>
 .leaf (r1.1, r1.2.1, r2.1, a0.2.2.2.1, ())
def Aii (a0 : Aj) : Option (Aj) := (Aih a0).val
def Ik (x1 : (List Aj) × (List Aj) × Int × Unit) : Option (((List Aj) × (List Aj) × Int × Unit) ⊕ (((List Aj) × Unit))) :=
 Tree.val (α := ((List Aj) × (List Aj) × Int × Unit) ⊕ (((List Aj) × Unit))) <|
 .br (decide (x1.2.2.1 < (x1.1.length : Int))) (
 .ob (idx x1.1 x1.2.2.1) fun e2 =>
 .ob (Aii e2) fun r3 =>
 .ob (idx x1.2.1 x1.2.2.1) fun e4 =>
 let q5 := (x1.2.1.set (x1.2.2.1).toNat r3)
 .leaf (.inl (x1.1, q5, (i64.wrap (x1.2.2.1 + (1 : Int))), ()))) (
 .leaf (.inr (x1.2.1, ())))
def P2 (a0 : (List Aj) × Unit) : Tree (((List Aj) × Unit)) :=
 .chk (decide ((0 : Int) ≤ (a0.1.length : Int))) <|
 .chk (decide ((a0.1.length : Int) ≤ (4294967296 : Int))) <|
 .chk (decide ((a0.1.length : Int) = (a0.1.length : Int))) <|
 .ob (Ay Ik (a0.1, (List.replicate ((a0.1.length : Int)).toNat ((0 : Int), (0 : Int), ([] : List YB), (0 : Int), ())), (0 : Int), ())) fun o6 =>
 .leaf o6
def Adx (a0 : (List Aj) × Unit) : Option (((List Aj) × Unit)) := (P2 a0).val
def Ady (a0 : A6) : Tree (A6) :=
 .ob (Ld (a0.1, a0.2.1, ())) fun r1 =>
 .ob (Adx (a0.2.2.1, ())) fun r2 =>
 .leaf (r1.1, r1.2.1, r2.1, ())
def Adz (a0 : A6) : Option (A6) := (Ady a0).val
def Aij (a0 : Bi) : Tree (Bi) :=
 .ob (Ct (a0.2.1, ())) fun r1 =>
 .ob (Ct (a0.2.2.1, ())) fun r2 =>
 .ob (Aif (a0.2.2.2.1, a0.2.2.2.2.1, a0.2.2.2.2.2.1, a0.2.2.2.2.2.2.1, a0.2.2.2.2.2.2.2.1, a0.2.2.2.2.2.2.2.2.1, a0.2.2.2.2.2.2.2.2.2.1, a0.2.2.2.2.2.2.2.2.2.2.1, a0.2.2.2.2.2.2.2.2.2.2.2.1, a0.2.2.2.2.2.2.2.2.2.2.2.2.1, a0.2.2.2.2.2.2.2.2.2.2.2.2.2.1, a0.2.2.2.2.2.2.2.2.2.2.2.2.2.2.1, a0.2.2.2.2.2.2.2.2.2.2.2.2.2.2.2.1, a0.2.2.2.2.2.2.2.2.2.2.2.2.2.2.2.2.1, a0.2.2.2.2.2.2.2.2.2.2.2.2.2.2.2.2.2.1, ())) fun r3 =>
 .ob (Adz (a0.2.2.2.2.2.2.2.2.2.2.2.2.2.2.2.2.2.2.1, a0.2.2.2.2.2.2.2.2.2.2.2.2.2.2.2.2.2.2.2.1, a0.2.2.2.2.2.2.2.2.2.2.2.2.2.2.2.2.2.2.2.2.1, ())) fun r4 =>
 .leaf (a0.1, r1.1, r2.1, r3.1, r3.2.1, r3.2.2.1, r3.2.2.2.1, r3.2.2.2.2.1, r3.2.2.2.2.2.1, r3.2.2.2.2.2.2.1, r3.2.2.2.2.2.2.2.1, r3.2.2.2.2.2.2.2.2.1, r3.2.2.2.2.2.2.2.2.2.1, r3.2.2.2.2.2.2.2.2.2.2.1, r3.2.2.2.2.2.2.2.2.2.2.2.1, r3.2.2.2.2.2.2.2.2.2.2.2.2.1, r3.2.2.2.2.2.2.2.2.2.2.2.2.2.1, r3.2.2.2.2.2.2.2.2.2.2.2.2.2.2.1, r4.1, r4.2.1, r4.2.2.1, a0.2.2.2.2.2.2.2.2.2.2.2.2.2.2.2.2.2.2.2.2.2.1, a0.2.2.2.2.2.2.2.2.2.2.2.2.2.2.2.2.2.2.2.2.2.2.1, a0.2.2.2.2.2.2.2.2.2.2.2.2.2.2.2.2.2.2.2.2.2.2.2.1, ())
def Ol (a0 : Bi) : Option (Bi) := (Aij a0).val
def Ad0 (a0 : Av) : Tree (Av) :=
 .ob (Ct (a0.2.2.1, ())) fun r1 =>
 .ob (Ct (a0.2.2.2.1, ())) fun r2 =>
 .ob (Ct (a0.2.2.2.2.2.1, ())) fun r3 =>
 .ob (Ct (a0.2.2.2.2.2.2.1, ())) fun r4 =>
 .ob (Ct (a0.2.2.2.2.2.2.2.2.2.1, ())) fun r5 =>
 .ob (Ct (a0.2.2.2.2.2.2.2.2.2.2.1, ())) fun r6 =>
 .leaf (a0.1, a0.2.1, r1.1, r2.1, a0.2.2.2.2.1, r3.1, r4.1, a0.2.2.2.2.2.2.2.1, a0.2.2.2.2.2.2.2.2.1, r5.1, r6.1, ())
def L8 (a0 : Av) : Option (Av) := (Ad0 a0).val
def Aya (a0 : Bo) : Tree (Bo) :=
 .chk (decide (([] : List YI).length + a0.2.1.length ≤ 4294967296)) <|
 .leaf (a0.1, (([] : List YI) ++ a0.2.1), ())
def Aik (a0 : Bo) : Option (Bo) := (Aya a0).val
def Ail (a0 : YEp) : Tree (YEp) :=
 .chk (decide (([] : List YB).length + a0.2.1.length ≤ 4294967296)) <|
 .ob (Aik (a0.2.2.2.1, a0.2.2.2.2.1, ())) fun r1 =>
 .leaf (a0.1, (([] : List YB) ++ a0.2.1), a0.2.2.1, r1.1, r1.2.1, ())
def Om (a0 : YEp) : Option (YEp) := (Ail a0).val
def Aok (a0 : YEp) (a1 : Bool × Unit) : Tree (YEp) :=
 .br (!a1.1) (
 .chk (decide (([] : List YB).length + a0.2.1.length ≤ 4294967296)) <|
 .chk (decide (([] : List YI).length + a0.2.2.2.2.1.length ≤ 4294967296)) <|
 .leaf (a0.1, (([] : List YB) ++ a0.2.1), a0.2.2.1, a0.2.2.2.1, (([] : List YI) ++ a0.2.2.2.2.1), ())) (
 .ob (Om a0) fun r1 =>
 .leaf r1)
def Aol (a0 : YEp) (a1 : Bool × Unit) : Option (YEp) := (Aok a0 a1).val
def Ad1 (a0 : Ak) : Tree (Ak) :=
 .chk (decide (([] : List YB).length + a0.2.1.length ≤ 4294967296)) <|
 .ob (Om (a0.2.2.1, a0.2.2.2.1, a0.2.2.2.2.1, a0.2.2.2.2.2.1, a0.2.2.2.2.2.2.1, ())) fun r1 =>
 .ob (Aol (a0.2.2.2.2.2.2.2.1, a0.2.2.2.2.2.2.2.2.1, a0.2.2.2.2.2.2.2.2.2.1, a0.2.2.2.2.2.2.2.2.2.2.1, a0.2.2.2.2.2.2.2.2.2.2.2.1, ()) (a0.2.2.2.2.2.2.2.2.2.2.2.2.1, ())) fun r2 =>
 .chk (decide (([] : List YB).length + a0.2.2.2.2.2.2.2.2.2.2.2.2.2.2.1.length ≤ 4294967296)) <|
 .leaf (a0.1, (([] : List YB) ++ a0.2.1), r1.1, r1.2.1, r1.2.2.1, r1.2.2.2.1, r1.2.2.2.2.1, r2.1, r2.2.1, r2.2.2.1, r2.2.2.2.1, r2.2.2.2.2.1, a0.2.2.2.2.2.2.2.2.2.2.2.2.1, a0.2.2.2.2.2.2.2.2.2.2.2.2.2.1, (([] : List YB) ++ a0.2.2.2.2.2.2.2.2.2.2.2.2.2.2.1), ())
def Fv (a0 : Ak) : Option (Ak) := (Ad1 a0).val
def Ad2 (a0 : Aj) : Tree (Aj) :=
 .chk (decide (([] : List YB).length + a0.2.2.1.length ≤ 4294967296)) <|
 .leaf (a0.1, a0.2.1, (([] : List YB) ++ a0.2.2.1), a0.2.2.2.1, ())
def L9 (a0 : Aj) : Option (Aj) := (Ad2 a0).val
def Gr (x1 : Int × Int × Int × (List Aj) × Int × Int × (List Aj) × Int × Int × (List Aj) × Unit) : Option ((Int × Int × Int × (List Aj) × Int × Int × (List Aj) × Int × Int × (List Aj) × Unit) ⊕ ((Int × Int × (List Aj) × Int × Int × (List Aj) × Unit))) :=
 Tree.val (α := (Int × Int × Int × (List Aj) × Int × Int × (List Aj) × Int × Int × (List Aj) × Unit) ⊕ ((Int × Int × (List Aj) × Int × Int × (List Aj) × Unit))) <|
 .br (decide (x1.1 < (x1.2.2.2.1.length : Int))) (
 .ob (idx x1.2.2.2.1 x1.1) fun e2 =>
 .ob (L9 e2) fun r3 =>
 .chk (decide (x1.2.2.2.2.2.2.2.2.2.1.length + [r3].length ≤ 4294967296)) <|
 .leaf (.inl ((i64.wrap (x1.1 + (1 : Int))), x1.2.1, x1.2.2.1, x1.2.2.2.1, x1.2.2.2.2.1, x1.2.2.2.2.2.1, x1.2.2.2.2.2.2.1, x1.2.2.2.2.2.2.2.1, x1.2.2.2.2.2.2.2.2.1, (x1.2.2.2.2.2.2.2.2.2.1 ++ [r3]), ()))) (
 .leaf (.inr (x1.2.2.2.2.1, x1.2.2.2.2.2.1, x1.2.2.2.2.2.2.1, x1.2.2.2.2.2.2.2.1, x1.2.2.2.2.2.2.2.2.1, x1.2.2.2.2.2.2.2.2.2.1, ())))
def P3 (a0 : A6) : Tree (A6) :=
 .ob (Ay Gr ((0 : Int), a0.1, a0.2.1, a0.2.2.1, (0 : Int), (0 : Int), ([] : List Aj), a0.1, a0.2.1, ([] : List Aj), ())) fun o4 =>
 .leaf (o4.2.2.2.1, o4.2.2.2.2.1, o4.2.2.2.2.2.1, ())
def Cu (a0 : A6) : Option (A6) := (P3 a0).val
def Ad3 (a0 : Bi) : Tree (Bi) :=
 .chk (decide (([] : List YB).length + a0.2.1.length ≤ 4294967296)) <|
 .chk (decide (([] : List YB).length + a0.2.2.1.length ≤ 4294967296)) <|
 .ob (Fv (a0.2.2.2.1, a0.2.2.2.2.1, a0.2.2.2.2.2.1, a0.2.2.2.2.2.2.1, a0.2.2.2.2.2.2.2.1, a0.2.2.2.2.2.2.2.2.1, a0.2.2.2.2.2.2.2.2.2.1, a0.2.2.2.2.2.2.2.2.2.2.1, a0.2.2.2.2.2.2.2.2.2.2.2.1, a0.2.2.2.2.2.2.2.2.2.2.2.2.1, a0.2.2.2.2.2.2.2.2.2.2.2.2.2.1, a0.2.2.2.2.2.2.2.2.2.2.2.2.2.2.1, a0.2.2.2.2.2.2.2.2.2.2.2.2.2.2.2.1, a0.2.2.2.2.2.2.2.2.2.2.2.2.2.2.2.2.1, a0.2.2.2.2.2.2.2.2.2.2.2.2.2.2.2.2.2.1, ())) fun r1 =>
 .ob (Cu (a0.2.2.2.2.2.2.2.2.2.2.2.2.2.2.2.2.2.2.1, a0.2.2.2.2.2.2.2.2.2.2.2.2.2.2.2.2.2.2.2.1, a0.2.2.2.2.2.2.2.2.2.2.2.2.2.2.2.2.2.2.2.2.1, ())) fun r2 =>
 .leaf (a0.1, (([] : List YB) ++ a0.2.1), (([] : List YB) ++ a0.2.2.1), r1.1, r1.2.1, r1.2.2.1, r1.2.2.2.1, r1.2.2.2.2.1, r1.2.2.2.2.2.1, r1.2.2.2.2.2.2.1, r1.2.2.2.2.2.2.2.1, r1.2.2.2.2.2.2.2.2.1, r1.2.2.2.2.2.2.2.2.2.1, r1.2.2.2.2.2.2.2.2.2.2.1, r1.2.2.2.2.2.2.2.2.2.2.2.1, r1.2.2.2.2.2.2.2.2.2.2.2.2.1, r1.2.2.2.2.2.2.2.2.2.2.2.2.2.1, r1.2.2.2.2.2.2.2.2.2.2.2.2.2.2.1, r2.1, r2.2.1, r2.2.2.1, a0.2.2.2.2.2.2.2.2.2.2.2.2.2.2.2.2.2.2.2.2.2.1, a0.2.2.2.2.2.2.2.2.2.2.2.2.2.2.2.2.2.2.2.2.2.2.1, a0.2.2.2.2.2.2.2.2.2.2.2.2.2.2.2.2.2.2.2.2.2.2.2.1, ())
def Ad4 (a0 : Bi) : Option (Bi) := (Ad3 a0).val
def Avg (a0 : YI) (a1 : YI) (a2 : YI) : Tree ((Bool × Unit)) :=
 .br (decide (a0.1 ≥ a1.1)) (
 .leaf ((decide (a0.1 ≤ a2.1)), ())) (
 .leaf (false, ()))
def By (a0 : YI) (a1 : YI) (a2 : YI) : Option ((Bool × Unit)) := (Avg a0 a1 a2).val
def Ad5 (a0 : YEp) : Tree ((Bool × Unit)) :=
 .br (a0.1 == (0 : Int)) (
 .br ((a0.2.1.length : Int) == (0 : Int)) (
 .br (a0.2.2.1 == (0 : Int)) (
 .br (a0.2.2.2.1 == (0 : Int)) (
 .leaf (((a0.2.2.2.2.1.length : Int) == (0 : Int)), ())) (
 .leaf (false, ()))) (
 .leaf (false, ()))) (
 .leaf (false, ()))) (
 .leaf (false, ()))
def P4 (a0 : YEp) : Option ((Bool × Unit)) := (Ad5 a0).val
def Wg (a0 : Ak) : Tree ((Bool × Unit)) :=
 .br (a0.1 == (0 : Int)) (
 .br ((a0.2.1.length : Int) == (0 : Int)) (
 .ob (P4 (a0.2.2.1, a0.2.2.2.1, a0.2.2.2.2.1, a0.2.2.2.2.2.1, a0.2.2.2.2.2.2.1, ())) fun r1 =>
 .br r1.1 (
 .ob (P4 (a0.2.2.2.2.2.2.2.1, a0.2.2.2.2.2.2.2.2.1, a0.2.2.2.2.2.2.2.2.2.1, a0.2.2.2.2.2.2.2.2.2.2.1, a0.2.2.2.2.2.2.2.2.2.2.2.1, ())) fun r2 =>
 .br r2.1 (
 .br (!a0.2.2.2.2.2.2.2.2.2.2.2.2.1) (
 .br (a0.2.2.2.2.2.2.2.2.2.2.2.2.2.1 == (0 : Int)) (
 .leaf (((a0.2.2.2.2.2.2.2.2.2.2.2.2.2.2.1.length : Int) == (0 : Int)), ())) (
 .leaf (false, ()))) (
 .leaf (false, ()))) (
 .leaf (false, ()))) (
 .leaf (false, ()))) (
 .leaf (false, ()))) (
 .leaf (false, ()))
def Wh (a0 : Ak) : Option ((Bool × Unit)) := (Wg a0).val
def Avh (a0 : YI) : Tree (B5) :=
 .ob (By a0 ((0 : Int), ()) ((255 : Int), ())) fun r1 =>
 .br (!r1.1) (
 .leaf ((0 : Int), (0 : Int), ())) (
 .leaf ((i64.wrap ((167772160 : Int) + a0.1)), (i64.wrap ((7000 : Int) + a0.1)), ()))
def Avi (a0 : YI) : Option (B5) := (Avh a0).val
def Aom (a0 : Bo) (a1 : YI) : Tree ((Bool × Unit)) :=
 .chk (decide ((0 : Int) ≤ a1.1)) <|
 .chk (decide ((0 : Int) ≤ (a1.1 % (1024 : Int)))) <|
 .ob (idx a0.2.1 ((a1.1 % (1024 : Int)) / (32 : Int))) fun e1 =>
 .chk (decide ((0 : Int) ≤ (a1.1 % (1024 : Int)))) <|
 .chk (decide ((0 : Int) ≤ ((a1.1 % (1024 : Int)) % (32 : Int)))) <|
 .leaf (((i64.wrap ((BitVec.ofInt (i64.bits) ((Int.fdiv e1.1 (2 ^ (min (((a1.1 % (1024 : Int)) % (32 : Int))).toNat i64.bits)))) &&& BitVec.ofInt (i64.bits) ((1 : Int))).toNat : Nat)) == (1 : Int)), ())
def Vt (a0 : Bo) (a1 : YI) : Option ((Bool × Unit)) := (Aom a0 a1).val
def Jr (x2 : Int × Int × (List YI) × Unit) : Option ((Int × Int × (List YI) × Unit) ⊕ ((Bool × Unit) ⊕ Bo)) :=
 Tree.val (α := (Int × Int × (List YI) × Unit) ⊕ ((Bool × Unit) ⊕ Bo)) <|
 .br (decide (x2.1 < (32 : Int))) (
 .ob (idx x2.2.2.1 x2.1) fun e3 =>
 .ob (By e3 ((0 : Int), ()) ((4294967295 : Int), ())) fun r4 =>
 .br (!r4.1) (
 .leaf (.inr (.inl (false, ())))) (
 .leaf (.inl ((i64.wrap (x2.1 + (1 : Int))), x2.2.1, x2.2.2.1, ())))) (
 .leaf (.inr (.inr (x2.2.1, x2.2.2.1, ()))))
def F5 (x9 : Int × Int × (List YI) × Unit) : Option ((Int × Int × (List YI) × Unit) ⊕ ((Bool × Unit) ⊕ (Unit))) :=
 Tree.val (α := (Int × Int × (List YI) × Unit) ⊕ ((Bool × Unit) ⊕ (Unit))) <|
 .br (decide (x9.1 < (1024 : Int))) (
 .ob (Vt (x9.2.1, x9.2.2.1, ()) (x9.1, ())) fun r10 =>
 .br r10.1 (
 .leaf (.inr (.inl (false, ())))) (
 .leaf (.inl ((i64.wrap (x9.1 + (1 : Int))), x9.2.1, x9.2.2.1, ())))) (
 .leaf (.inr (.inr ())))
def Vu (a0 : Bo) : Tree ((Bool × Unit)) :=
 .br ((a0.2.1.length : Int) != (32 : Int)) (
 .leaf (false, ())) (
 .ob (By (a0.1, ()) ((-1 : Int), ()) ((281474976710655 : Int), ())) fun r1 =>
 .br (!r1.1) (
 .leaf (false, ())) (
 .ob (Ay Jr ((0 : Int), a0.1, a0.2.1, ())) fun o5 =>
 .sm o5 (fun o6 =>
 .leaf o6) (fun o7 =>
 .br (decide (o7.1 ≥ (0 : Int))) (
 .ob (Vt o7 (o7.1, ())) fun r8 =>
 .br (!r8.1) (
 .leaf (false, ())) (
 .ob (Ay F5 ((i64.wrap (o7.1 + (1 : Int))), o7.1, o7.2.1, ())) fun o11 =>
 .sm o11 (fun o12 =>
 .leaf o12) (fun o13 =>
 .leaf (true, ())))) (
 .ob (Ay F5 ((i64.wrap (o7.1 + (1 : Int))), o7.1, o7.2.1, ())) fun o14 =>
 .sm o14 (fun o15 =>
 .leaf o15) (fun o16 =>
 .leaf (true, ()))))))
def Ab4 (a0 : Bo) : Option ((Bool × Unit)) := (Vu a0).val
def Avj (a0 : YEp) : Tree ((Bool × Unit)) :=
 .ob (By (a0.1, ()) ((0 : Int), ()) ((4294967295 : Int), ())) fun r1 =>
 .br r1.1 (
 .br ((a0.2.1.length : Int) == (32 : Int)) (
 .ob (By (a0.2.2.1, ()) ((0 : Int), ()) ((281474976710656 : Int), ())) fun r2 =>
 .br r2.1 (
 .ob (Ab4 (a0.2.2.2.1, a0.2.2.2.2.1, ())) fun r3 =>
 .leaf r3) (
 .leaf (false, ()))) (
 .leaf (false, ()))) (
 .leaf (false, ()))
def Q5 (a0 : YEp) : Option ((Bool × Unit)) := (Avj a0).val
def Aim (a0 : Ak) : Tree ((Bool × Unit)) :=
 .ob (By (a0.1, ()) ((0 : Int), ()) ((1 : Int), ())) fun r1 =>
 .br (!r1.1) (
 .leaf (false, ())) (
 .br ((a0.2.1.length : Int) != (12 : Int)) (
 .leaf (false, ())) (
 .ob (Q5 (a0.2.2.1, a0.2.2.2.1, a0.2.2.2.2.1, a0.2.2.2.2.2.1, a0.2.2.2.2.2.2.1, ())) fun r2 =>
 .br (!r2.1) (
 .leaf (false, ())) (
 .br a0.2.2.2.2.2.2.2.2.2.2.2.2.1 (
 .br (a0.1 == (0 : Int)) (
 .ob (Q5 (a0.2.2.2.2.2.2.2.1, a0.2.2.2.2.2.2.2.2.1, a0.2.2.2.2.2.2.2.2.2.1, a0.2.2.2.2.2.2.2.2.2.2.1, a0.2.2.2.2.2.2.2.2.2.2.2.1, ())) fun r3 =>
 .br (!r3.1) (
 .leaf (false, ())) (
 .br (a0.2.2.2.2.2.2.2.1 != (i64.wrap (a0.2.2.1 - (1 : Int)))) (
 .leaf (false, ())) (
 .ob (By (a0.2.2.2.2.2.2.2.2.2.2.2.2.2.1, ()) ((0 : Int), ()) ((1000005 : Int), ())) fun r4 =>
 .br (!r4.1) (
 .leaf (false, ())) (
 .br ((a0.2.2.2.2.2.2.2.2.2.2.2.2.2.2.1.length : Int) == (0 : Int)) (
 .leaf (true, ())) (
 .br (a0.1 == (0 : Int)) (
 .br ((a0.2.2.2.2.2.2.2.2.2.2.2.2.2.2.1.length : Int) == (32 : Int)) (
 .leaf ((decide (a0.2.2.1 < (4294967295 : Int))), ())) (
 .leaf (false, ()))) (
 .leaf (false, ()))))))) (
 .ob (Q5 (a0.2.2.2.2.2.2.2.1, a0.2.2.2.2.2.2.2.2.1, a0.2.2.2.2.2.2.2.2.2.1, a0.2.2.2.2.2.2.2.2.2.2.1, a0.2.2.2.2.2.2.2.2.2.2.2.1, ())) fun r5 =>
 .br (!r5.1) (
 .leaf (false, ())) (
 .br (a0.2.2.2.2.2.2.2.1 != (i64.wrap (a0.2.2.1 - (1 : Int)))) (
 .leaf (false, ())) (
 .ob (By (a0.2.2.2.2.2.2.2.2.2.2.2.2.2.1, ()) ((-1 : Int), ()) ((1000005 : Int), ())) fun r6 =>
 .br (!r6.1) (
 .leaf (false, ())) (
 .br ((a0.2.2.2.2.2.2.2.2.2.2.2.2.2.2.1.length : Int) == (0 : Int)) (
 .leaf (true, ())) (
 .br (a0.1 == (0 : Int)) (
 .br ((a0.2.2.2.2.2.2.2.2.2.2.2.2.2.2.1.length : Int) == (32 : Int)) (
 .leaf ((decide (a0.2.2.1 < (4294967295 : Int))), ())) (
 .leaf (false, ()))) (
 .leaf (false, ())))))))) (
 .ob (P4 (a0.2.2.2.2.2.2.2.1, a0.2.2.2.2.2.2.2.2.1, a0.2.2.2.2.2.2.2.2.2.1, a0.2.2.2.2.2.2.2.2.2.2.1, a0.2.2.2.2.2.2.2.2.2.2.2.1, ())) fun r7 =>
 .br (!r7.1) (
 .leaf (false, ())) (
 .br (a0.2.2.2.2.2.2.2.2.2.2.2.2.2.1 != (0 : Int)) (
 .leaf (false, ())) (
 .br ((a0.2.2.2.2.2.2.2.2.2.2.2.2.2.2.1.length : Int) == (0 : Int)) (
 .leaf (true, ())) (
 .br (a0.1 == (0 : Int)) (
 .br ((a0.2.2.2.2.2.2.2.2.2.2.2.2.2.2.1.length : Int) == (32 : Int)) (
 .leaf ((decide (a0.2.2.1 < (4294967295 : Int))), ())) (
 .leaf (false, ()))) (
 .leaf (false, ())))))))))
def G4 (a0 : Ak) : Option ((Bool × Unit)) := (Aim a0).val
def Ayb (a0 : YBs) (a1 : YBs) : Tree ((Bool × Unit)) :=
 .leaf ((decide ((Py a0.1) = (Py a1.1))), ())
def Ry (a0 : YBs) (a1 : YBs) : Option ((Bool × Unit)) := (Ayb a0 a1).val
def Ain (a0 : B5) : Tree ((Bool × Unit)) :=
 .ob (By (a0.1, ()) ((0 : Int), ()) ((4294967295 : Int), ())) fun r1 =>
 .br r1.1 (
 .ob (By (a0.2.1, ()) ((0 : Int), ()) ((65535 : Int), ())) fun r2 =>
 .leaf r2) (
 .leaf (false, ()))
def On (a0 : B5) : Option ((Bool × Unit)) := (Ain a0).val
def Fm (x6 : Int × Int × Int × Int × (List Aj) × Int × Int × (List YB) × Int × Unit) : Option ((Int × Int × Int × Int × (List Aj) × Int × Int × (List YB) × Int × Unit) ⊕ ((Bool × Unit) ⊕ (Int × Int × Int × (List Aj) × Unit))) :=
 Tree.val (α := (Int × Int × Int × Int × (List Aj) × Int × Int × (List YB) × Int × Unit) ⊕ ((Bool × Unit) ⊕ (Int × Int × Int × (List Aj) × Unit))) <|
 .br (decide (x6.2.1 < x6.1)) (
 .ob (idx x6.2.2.2.2.1 x6.2.1) fun e7 =>
 .br (and (e7.1 == x6.2.2.2.2.2.1) (and (e7.2.1 == x6.2.2.2.2.2.2.1) true)) (
 .leaf (.inr (.inl (false, ())))) (
 .leaf (.inl (x6.1, (i64.wrap (x6.2.1 + (1 : Int))), x6.2.2.1, x6.2.2.2.1, x6.2.2.2.2.1, x6.2.2.2.2.2.1, x6.2.2.2.2.2.2.1, x6.2.2.2.2.2.2.2.1, x6.2.2.2.2.2.2.2.2.1, ())))) (
 .leaf (.inr (.inr (x6.1, x6.2.2.1, x6.2.2.2.1, x6.2.2.2.2.1, ()))))
def Il (x2 : Int × Int × Int × (List Aj) × Unit) : Option ((Int × Int × Int × (List Aj) × Unit) ⊕ ((Bool × Unit) ⊕ (Unit))) :=
 Tree.val (α := (Int × Int × Int × (List Aj) × Unit) ⊕ ((Bool × Unit) ⊕ (Unit))) <|
 .br (decide (x2.1 < (x2.2.2.2.1.length : Int))) (
 .ob (idx x2.2.2.2.1 x2.1) fun e3 =>
 .ob (On (e3.1, e3.2.1, ())) fun r4 =>
 .br (!r4.1) (
 .leaf (.inr (.inl (false, ())))) (
 .br ((e3.2.2.1.length : Int) != (12 : Int)) (
 .leaf (.inr (.inl (false, ())))) (
 .ob (By (e3.2.2.2.1, ()) ((0 : Int), ()) ((1000006 : Int), ())) fun r5 =>
 .br (!r5.1) (
 .leaf (.inr (.inl (false, ())))) (
 .br (and (e3.1 == x2.2.1) (and (e3.2.1 == x2.2.2.1) true)) (
 .leaf (.inr (.inl (false, ())))) (
 .ob (Ay Fm (x2.1, (0 : Int), x2.2.1, x2.2.2.1, x2.2.2.2.1, e3.1, e3.2.1, e3.2.2.1, e3.2.2.2.1, ())) fun o8 =>
 .sm o8 (fun o9 =>
 .leaf (.inr (.inl o9))) (fun o10 =>
 .leaf (.inl ((i64.wrap (o10.1 + (1 : Int))), o10.2.1, o10.2.2.1, o10.2.2.2.1, ())))))))) (
 .leaf (.inr (.inr ())))
def P5 (a0 : A6) : Tree ((Bool × Unit)) :=
 .ob (On (a0.1, a0.2.1, ())) fun r1 =>
 .br (!r1.1) (
 .leaf (false, ())) (
 .br (decide ((a0.2.2.1.length : Int) > (3 : Int))) (
 .leaf (false, ())) (
 .ob (Ay Il ((0 : Int), a0.1, a0.2.1, a0.2.2.1, ())) fun o11 =>
 .sm o11 (fun o12 =>
 .leaf o12) (fun o13 =>
 .leaf (true, ()))))
def Ma (a0 : A6) : Option ((Bool × Unit)) := (P5 a0).val
def Aio (a0 : Bi) : Tree ((Bool × Unit)) :=
 .ob (By (a0.1, ()) ((1 : Int), ()) ((9 : Int), ())) fun r1 =>
 .br (!r1.1) (
 .leaf (false, ())) (
 .br ((a0.2.1.length : Int) != (12 : Int)) (
 .leaf (false, ())) (
 .br ((a0.2.2.1.length : Int) != (12 : Int)) (
 .leaf (false, ())) (
 .ob (By (a0.2.2.2.2.2.2.2.2.2.2.2.2.2.2.2.2.2.2.2.2.2.1, ()) ((0 : Int), ()) ((1000000 : Int), ())) fun r2 =>
 .br (!r2.1) (
 .leaf (false, ())) (
 .ob (By (a0.2.2.2.2.2.2.2.2.2.2.2.2.2.2.2.2.2.2.2.2.2.2.1, ()) ((0 : Int), ()) ((1000000 : Int), ())) fun r3 =>
 .br (!r3.1) (
 .leaf (false, ())) (
 .br a0.2.2.2.2.2.2.2.2.2.2.2.2.2.2.2.2.2.2.2.2.2.2.2.1 (
 .ob (Wh (a0.2.2.2.1, a0.2.2.2.2.1, a0.2.2.2.2.2.1, a0.2.2.2.2.2.2.1, a0.2.2.2.2.2.2.2.1, a0.2.2.2.2.2.2.2.2.1, a0.2.2.2.2.2.2.2.2.2.1, a0.2.2.2.2.2.2.2.2.2.2.1, a0.2.2.2.2.2.2.2.2.2.2.2.1, a0.2.2.2.2.2.2.2.2.2.2.2.2.1, a0.2.2.2.2.2.2.2.2.2.2.2.2.2.1, a0.2.2.2.2.2.2.2.2.2.2.2.2.2.2.1, a0.2.2.2.2.2.2.2.2.2.2.2.2.2.2.2.1, a0.2.2.2.2.2.2.2.2.2.2.2.2.2.2.2.2.1, a0.2.2.2.2.2.2.2.2.2.2.2.2.2.2.2.2.2.1, ())) fun r4 =>
 .br r4.1 (
 .ob (Avi ((-1 : Int), ())) fun r5 =>
 .br (and (a0.2.2.2.2.2.2.2.2.2.2.2.2.2.2.2.2.2.2.1 == r5.1) (and (a0.2.2.2.2.2.2.2.2.2.2.2.2.2.2.2.2.2.2.2.1 == r5.2.1) true)) (
 .br ((a0.2.2.2.2.2.2.2.2.2.2.2.2.2.2.2.2.2.2.2.2.1.length : Int) == (0 : Int)) (
 .leaf ((a0.2.2.2.2.2.2.2.2.2.2.2.2.2.2.2.2.2.2.2.2.2.2.1 == (0 : Int)), ())) (
 .leaf (false, ()))) (
 .leaf (false, ()))) (
 .leaf (false, ()))) (
 .ob (G4 (a0.2.2.2.1, a0.2.2.2.2.1, a0.2.2.2.2.2.1, a0.2.2.2.2.2.2.1, a0.2.2.2.2.2.2.2.1, a0.2.2.2.2.2.2.2.2.1, a0.2.2.2.2.2.2.2.2.2.1, a0.2.2.2.2.2.2.2.2.2.2.1, a0.2.2.2.2.2.2.2.2.2.2.2.1, a0.2.2.2.2.2.2.2.2.2.2.2.2.1, a0.2.2.2.2.2.2.2.2.2.2.2.2.2.1, a0.2.2.2.2.2.2.2.2.2.2.2.2.2.2.1, a0.2.2.2.2.2.2.2.2.2.2.2.2.2.2.2.1, a0.2.2.2.2.2.2.2.2.2.2.2.2.2.2.2.2.1, a0.2.2.2.2.2.2.2.2.2.2.2.2.2.2.2.2.2.1, ())) fun r6 =>
 .br r6.1 (
 .br (a0.2.2.2.1 == (1 : Int)) (
 .ob (Ry (a0.2.2.2.2.1, ()) (a0.2.2.1, ())) fun r7 =>
 .br r7.1 (
 .ob (Ma (a0.2.2.2.2.2.2.2.2.2.2.2.2.2.2.2.2.2.2.1, a0.2.2.2.2.2.2.2.2.2.2.2.2.2.2.2.2.2.2.2.1, a0.2.2.2.2.2.2.2.2.2.2.2.2.2.2.2.2.2.2.2.2.1, ())) fun r8 =>
 .leaf r8) (
 .leaf (false, ()))) (
 .leaf (false, ()))) (
 .leaf (false, ()))))))))
def Aip (a0 : Bi) : Option ((Bool × Unit)) := (Aio a0).val
def Aiq (a0 : YI) : Tree ((Bool × Unit)) :=
 .ob (By a0 ((4 : Int), ()) ((8 : Int), ())) fun r1 =>
 .leaf r1
def Le (a0 : YI) : Option ((Bool × Unit)) := (Aiq a0).val
def Air (a0 : YI) (a1 : YI) : Tree ((Bool × Unit)) :=
 .br (a0.1 == (4 : Int)) (
 .leaf ((decide (a1.1 ≤ (40 : Int))), ())) (
 .br (a0.1 == (5 : Int)) (
 .leaf ((a1.1 == (12 : Int)), ())) (
 .br (a0.1 == (6 : Int)) (
 .leaf ((a1.1 == (12 : Int)), ())) (
 .leaf ((a1.1 == (4 : Int)), ()))))
def Rz (a0 : YI) (a1 : YI) : Option ((Bool × Unit)) := (Air a0 a1).val
def Ad6 (a0 : Av) : Tree ((Bool × Unit)) :=
 .ob (Le (a0.1, ())) fun r1 =>
 .br r1.1 (
 .br (a0.2.1 == (0 : Int)) (
 .br ((a0.2.2.1.length : Int) == (0 : Int)) (
 .br ((a0.2.2.2.1.length : Int) == (12 : Int)) (
 .br (a0.2.2.2.2.1 == (0 : Int)) (
 .br ((a0.2.2.2.2.2.1.length : Int) == (0 : Int)) (
 .br ((a0.2.2.2.2.2.2.1.length : Int) == (0 : Int)) (
 .ob (By (a0.2.2.2.2.2.2.2.1, ()) ((0 : Int), ()) ((4294967295 : Int), ())) fun r2 =>
 .br r2.1 (
 .ob (By (a0.2.2.2.2.2.2.2.2.1, ()) ((0 : Int), ()) ((281474976710655 : Int), ())) fun r3 =>
 .br r3.1 (
 .ob (Rz (a0.1, ()) ((a0.2.2.2.2.2.2.2.2.2.1.length : Int), ())) fun r4 =>
 .br r4.1 (
 .leaf (((a0.2.2.2.2.2.2.2.2.2.2.1.length : Int) == (16 : Int)), ())) (
 .leaf (false, ()))) (
 .leaf (false, ()))) (
 .leaf (false, ()))) (
 .leaf (false, ()))) (
 .leaf (false, ()))) (
 .leaf (false, ()))) (
 .leaf (false, ()))) (
 .leaf (false, ()))) (
 .leaf (false, ()))) (
 .br (a0.2.2.2.2.2.2.2.1 != (0 : Int)) (
 .leaf (false, ())) (
 .br (a0.2.2.2.2.2.2.2.2.1 != (0 : Int)) (
 .leaf (false, ())) (
 .br ((a0.2.2.2.2.2.2.2.2.2.1.length : Int) != (0 : Int)) (
 .leaf (false, ())) (
 .br ((a0.2.2.2.2.2.2.2.2.2.2.1.length : Int) != (0 : Int)) (
 .leaf (false, ())) (
 .br ((a0.2.2.1.length : Int) != (12 : Int)) (
 .leaf (false, ())) (
 .br (a0.1 == (1 : Int)) (
 .ob (By (a0.2.1, ()) ((1 : Int), ()) ((9 : Int), ())) fun r5 =>
 .br r5.1 (
 .br ((a0.2.2.2.1.length : Int) == (0 : Int)) (
 .br (a0.2.2.2.2.1 == (0 : Int)) (
 .br ((a0.2.2.2.2.2.1.length : Int) == (0 : Int)) (
 .leaf (((a0.2.2.2.2.2.2.1.length : Int) == (0 : Int)), ())) (
 .leaf (false, ()))) (
 .leaf (false, ()))) (
 .leaf (false, ()))) (
 .leaf (false, ()))) (
 .br (a0.1 == (2 : Int)) (
 .br (a0.2.1 == (0 : Int)) (
 .br ((a0.2.2.2.1.length : Int) == (12 : Int)) (
 .ob (By (a0.2.2.2.2.1, ()) ((0 : Int), ()) ((1000000 : Int), ())) fun r6 =>
 .br r6.1 (
 .br ((a0.2.2.2.2.2.1.length : Int) == (16 : Int)) (
 .leaf (((a0.2.2.2.2.2.2.1.length : Int) == (0 : Int)), ())) (
 .leaf (false, ()))) (
 .leaf (false, ()))) (
 .leaf (false, ()))) (
 .leaf (false, ()))) (
 .br (a0.1 == (3 : Int)) (
 .ob (By (a0.2.1, ()) ((1 : Int), ()) ((9 : Int), ())) fun r7 =>
 .br r7.1 (
 .br ((a0.2.2.2.1.length : Int) == (12 : Int)) (
 .ob (By (a0.2.2.2.2.1, ()) ((0 : Int), ()) ((1000000 : Int), ())) fun r8 =>
 .br r8.1 (
 .br ((a0.2.2.2.2.2.1.length : Int) == (16 : Int)) (
 .leaf (((a0.2.2.2.2.2.2.1.length : Int) == (16 : Int)), ())) (
 .leaf (false, ()))) (
 .leaf (false, ()))) (
 .leaf (false, ()))) (
 .leaf (false, ()))) (
 .leaf (false, ()))))))))))
def Ve (a0 : Av) : Option ((Bool × Unit)) := (Ad6 a0).val
def Oo (x1 : Int × (List YB) × Int × Unit) : Option ((Int × (List YB) × Int × Unit) ⊕ (YBs)) :=
 Tree.val (α := (Int × (List YB) × Int × Unit) ⊕ (YBs)) <|
 .br (decide (x1.2.2.1 ≥ (0 : Int))) (
 .chk (decide ((0 : Int) ≤ (i64.wrap ((8 : Int) * x1.2.2.1)))) <|
 .chk (decide (x1.2.1.length + [((u8.wrap ((i64.wrap ((BitVec.ofInt (i64.bits) ((Int.fdiv x1.1 (2 ^ (min ((i64.wrap ((8 : Int) * x1.2.2.1))).toNat i64.bits)))) &&& BitVec.ofInt (i64.bits) ((255 : Int))).toNat : Nat)))), ())].length ≤ 4294967296)) <|
 .leaf (.inl (x1.1, (x1.2.1 ++ [((u8.wrap ((i64.wrap ((BitVec.ofInt (i64.bits) ((Int.fdiv x1.1 (2 ^ (min ((i64.wrap ((8 : Int) * x1.2.2.1))).toNat i64.bits)))) &&& BitVec.ofInt (i64.bits) ((255 : Int))).toNat : Nat)))), ())]), (i64.wrap (x1.2.2.1 - (1 : Int))), ()))) (
 .leaf (.inr (x1.2.1, ())))
def Zt (a0 : YBs) (a1 : YI) (a2 : YI) : Tree (YBs) :=
 .chk (decide (([] : List YB).length + a0.1.length ≤ 4294967296)) <|
 .br (decide (a2.1 < (1 : Int))) (
 .leaf ((([] : List YB) ++ a0.1), ())) (
 .br (decide (a2.1 > (6 : Int))) (
 .leaf ((([] : List YB) ++ a0.1), ())) (
 .ob (Ay Oo (a1.1, (([] : List YB) ++ a0.1), (i64.wrap (a2.1 - (1 : Int))), ())) fun o2 =>
 .leaf o2))
def Gs (a0 : YBs) (a1 : YI) (a2 : YI) : Option (YBs) := (Zt a0 a1 a2).val
def Ais (a0 : YI) (a1 : YBs) (a2 : YI) (a3 : YI) : Tree (YBs) :=
 .ob (By a0 ((0 : Int), ()) ((1 : Int), ())) fun r1 =>
 .br (!r1.1) (
 .leaf (([] : List YB), ())) (
 .br ((a1.1.length : Int) != (12 : Int)) (
 .leaf (([] : List YB), ())) (
 .ob (By a2 ((0 : Int), ()) ((4294967295 : Int), ())) fun r2 =>
 .br (!r2.1) (
 .leaf (([] : List YB), ())) (
 .ob (By a3 ((0 : Int), ()) ((281474976710655 : Int), ())) fun r3 =>
 .br (!r3.1) (
 .leaf (([] : List YB), ())) (
 .chk (decide ([((u8.wrap (a0.1)), ())].length + a1.1.length ≤ 4294967296)) <|
 .ob (Gs (([((u8.wrap (a0.1)), ())] ++ a1.1), ()) a2 ((4 : Int), ())) fun r4 =>
 .ob (Gs r4 a3 ((6 : Int), ())) fun r5 =>
 .leaf r5))))
def Oq (a0 : YI) (a1 : YBs) (a2 : YI) (a3 : YI) : Option (YBs) := (Ais a0 a1 a2 a3).val
def Zu (a0 : YI) (a1 : Av) : Tree (YBs) :=
 .ob (By a0 ((0 : Int), ()) ((1 : Int), ())) fun r1 =>
 .br (!r1.1) (
 .leaf (([] : List YB), ())) (
 .ob (Ve a1) fun r2 =>
 .br (!r2.1) (
 .leaf (([] : List YB), ())) (
 .ob (Le (a1.1, ())) fun r3 =>
 .br (!r3.1) (
 .leaf (([] : List YB), ())) (
 .ob (Oq a0 (a1.2.2.2.1, ()) (a1.2.2.2.2.2.2.2.1, ()) (a1.2.2.2.2.2.2.2.2.1, ())) fun r4 =>
 .chk (decide ([((116 : Int), ())].length + r4.1.length ≤ 4294967296)) <|
 .chk (decide (([((116 : Int), ())] ++ r4.1).length + [((u8.wrap (a1.1)), ())].length ≤ 4294967296)) <|
 .chk (decide ((([((116 : Int), ())] ++ r4.1) ++ [((u8.wrap (a1.1)), ())]).length + a1.2.2.2.2.2.2.2.2.2.1.length ≤ 4294967296)) <|
 .leaf (((([((116 : Int), ())] ++ r4.1) ++ [((u8.wrap (a1.1)), ())]) ++ a1.2.2.2.2.2.2.2.2.2.1), ()))))
def Ht (a0 : YI) (a1 : Av) : Option (YBs) := (Zu a0 a1).val
def Ad7 (a0 : YI) : Tree (YI) :=
 .br (decide (a0.1 < (1024 : Int))) (
 .leaf ((0 : Int), ())) (
 .leaf ((i64.wrap ((i64.wrap (a0.1 - (1024 : Int))) + (1 : Int))), ()))
def Atj (a0 : YI) : Option (YI) := (Ad7 a0).val
def Ait (a0 : Bo) (a1 : YI) : Tree ((Bool × Unit)) :=
 .ob (Ab4 a0) fun r1 =>
 .br (!r1.1) (
 .leaf (false, ())) (
 .ob (By a1 ((0 : Int), ()) ((281474976710655 : Int), ())) fun r2 =>
 .br (!r2.1) (
 .leaf (false, ())) (
 .br (decide (a1.1 > a0.1)) (
 .leaf (true, ())) (
 .ob (Atj (a0.1, ())) fun r3 =>
 .br (decide (a1.1 ≥ r3.1)) (
 .ob (Vt a0 a1) fun r4 =>
 .leaf ((!r4.1), ())) (
 .leaf (false, ())))))
def Xo (a0 : Bo) (a1 : YI) : Option ((Bool × Unit)) := (Ait a0 a1).val
def Ab5 (x1 : Int × (List YB) × Unit) : Option ((Int × (List YB) × Unit) ⊕ ((Int × (List YB) × Unit))) :=
 Tree.val (α := (Int × (List YB) × Unit) ⊕ ((Int × (List YB) × Unit))) <|
 .chk (decide ((0 : Int) ≤ (i64.wrap ((i64.wrap (x1.1 + (x1.2.1.length : Int))) + (8 : Int))))) <|
 .br (((i64.wrap ((i64.wrap (x1.1 + (x1.2.1.length : Int))) + (8 : Int))) % (64 : Int)) != (0 : Int)) (
 .chk (decide (x1.2.1.length + [((0 : Int), ())].length ≤ 4294967296)) <|
 .leaf (.inl (x1.1, (x1.2.1 ++ [((0 : Int), ())]), ()))) (
 .leaf (.inr x1))
def Af6 (a0 : YI) : Tree (YBs) :=
 .br (decide (a0.1 < (0 : Int))) (
 .leaf (([] : List YB), ())) (
 .br (decide (a0.1 > (1048576 : Int))) (
 .leaf (([] : List YB), ())) (
 .ob (Ay Ab5 (a0.1, [((128 : Int), ())], ())) fun o2 =>
 .ob (Gs (o2.2.1, ()) ((0 : Int), ()) ((4 : Int), ())) fun r3 =>
 .ob (Gs r3 ((i64.wrap ((8 : Int) * o2.1)), ()) ((4 : Int), ())) fun r4 =>
 .leaf r4))
def A2o (a0 : YI) : Option (YBs) := (Af6 a0).val
def A5b  : Tree (((List YI) × Unit)) :=
 .leaf ([((1779033703 : Int), ()), ((3144134277 : Int), ()), ((1013904242 : Int), ()), ((2773480762 : Int), ()), ((1359893119 : Int), ()), ((2600822924 : Int), ()), ((528734635 : Int), ()), ((1541459225 : Int), ())], ())
def A5c  : Option (((List YI) × Unit)) := (A5b ).val
def Im (x1 : (List YI) × Int × Unit) : Option (((List YI) × Int × Unit) ⊕ ((Bool × Unit) ⊕ ((List YI) × Unit))) :=
 Tree.val (α := ((List YI) × Int × Unit) ⊕ ((Bool × Unit) ⊕ ((List YI) × Unit))) <|
 .br (decide (x1.2.1 < (x1.1.length : Int))) (
 .ob (idx x1.1 x1.2.1) fun e2 =>
 .ob (By e2 ((0 : Int), ()) ((4294967295 : Int), ())) fun r3 =>
 .br (!r3.1) (
 .leaf (.inr (.inl (false, ())))) (
 .leaf (.inl (x1.1, (i64.wrap (x1.2.1 + (1 : Int))), ())))) (
 .leaf (.inr (.inr (x1.1, ()))))
def P6 (a0 : (List YI) × Unit) : Tree ((Bool × Unit)) :=
 .ob (Ay Im (a0.1, (0 : Int), ())) fun o4 =>
 .sm o4 (fun o5 =>
 .leaf o5) (fun o6 =>
 .leaf (((o6.1.length : Int) == (8 : Int)), ()))
def Ad8 (a0 : (List YI) × Unit) : Option ((Bool × Unit)) := (P6 a0).val
def Be9  : Tree (((List YI) × Unit)) :=
 .leaf ([((1116352408 : Int), ()), ((1899447441 : Int), ()), ((3049323471 : Int), ()), ((3921009573 : Int), ()), ((961987163 : Int), ()), ((1508970993 : Int), ()), ((2453635748 : Int), ()), ((2870763221 : Int), ()), ((3624381080 : Int), ()), ((310598401 : Int), ()), ((607225278 : Int), ()), ((1426881987 : Int), ()), ((1925078388 : Int), ()), ((2162078206 : Int), ()), ((2614888103 : Int), ()), ((3248222580 : Int), ()), ((3835390401 : Int), ()), ((4022224774 : Int), ()), ((264347078 : Int), ()), ((604807628 : Int), ()), ((770255983 : Int), ()), ((1249150122 : Int), ()), ((1555081692 : Int), ()), ((1996064986 : Int), ()), ((2554220882 : Int), ()), ((2821834349 : Int), ()), ((2952996808 : Int), ()), ((3210313671 : Int), ()), ((3336571891 : Int), ()), ((3584528711 : Int), ()), ((113926993 : Int), ()), ((338241895 : Int), ()), ((666307205 : Int), ()), ((773529912 : Int), ()), ((1294757372 : Int), ()), ((1396182291 : Int), ()), ((1695183700 : Int), ()), ((1986661051 : Int), ()), ((2177026350 : Int), ()), ((2456956037 : Int), ()), ((2730485921 : Int), ()), ((2820302411 : Int), ()), ((3259730800 : Int), ()), ((3345764771 : Int), ()), ((3516065817 : Int), ()), ((3600352804 : Int), ()), ((4094571909 : Int), ()), ((275423344 : Int), ()), ((430227734 : Int), ()), ((506948616 : Int), ()), ((659060556 : Int), ()), ((883997877 : Int), ()), ((958139571 : Int), ()), ((1322822218 : Int), ()), ((1537002063 : Int), ()), ((1747873779 : Int), ()), ((1955562222 : Int), ()), ((2024104815 : Int), ()), ((2227730452 : Int), ()), ((2361852424 : Int), ()), ((2428436474 : Int), ()), ((2756734187 : Int), ()), ((3204031479 : Int), ()), ((3329325298 : Int), ())], ())
def Bfa  : Option (((List YI) × Unit)) := (Be9 ).val
def Lf (x1 : (List YB) × Int × Int × Int × Int × Unit) : Option (((List YB) × Int × Int × Int × Int × Unit) ⊕ ((Int × Int × Int × Unit))) :=
 Tree.val (α := ((List YB) × Int × Int × Int × Int × Unit) ⊕ ((Int × Int × Int × Unit))) <|
 .br (decide (x1.2.2.2.2.1 < x1.2.2.1)) (
 .ob (idx x1.1 (i64.wrap (x1.2.1 + x1.2.2.2.2.1))) fun e2 =>
 .leaf (.inl (x1.1, x1.2.1, x1.2.2.1, (i64.wrap ((i64.wrap (x1.2.2.2.1 * (256 : Int))) + (i64.wrap (e2.1)))), (i64.wrap (x1.2.2.2.2.1 + (1 : Int))), ()))) (
 .leaf (.inr (x1.2.1, x1.2.2.1, x1.2.2.2.1, ())))
def Zv (a0 : YBs) (a1 : YI) (a2 : YI) : Tree (YI × YI × (Bool × Unit)) :=
 .br (decide (a2.1 < (1 : Int))) (
 .leaf (((0 : Int), ()), ((0 : Int), ()), (false, ()))) (
 .br (decide (a2.1 > (6 : Int))) (
 .leaf (((0 : Int), ()), ((0 : Int), ()), (false, ()))) (
 .br (decide (a1.1 < (0 : Int))) (
 .leaf (((0 : Int), ()), ((0 : Int), ()), (false, ()))) (
 .br (decide (a1.1 > (i64.wrap ((a0.1.length : Int) - a2.1)))) (
 .leaf (((0 : Int), ()), ((0 : Int), ()), (false, ()))) (
 .ob (Ay Lf (a0.1, a1.1, a2.1, (0 : Int), (0 : Int), ())) fun o3 =>
 .leaf ((o3.2.2.1, ()), ((i64.wrap (o3.1 + o3.2.1)), ()), (true, ()))))))
def Avk (a0 : YBs) (a1 : YI) (a2 : YI) : Option (YI × YI × (Bool × Unit)) := (Zv a0 a1 a2).val
def A2p (a0 : YI) (a1 : YI) : Tree (YI) :=
 .br (decide (a1.1 < (1 : Int))) (
 .leaf ((i64.wrap ((BitVec.ofInt (i64.bits) (a0.1) &&& BitVec.ofInt (i64.bits) ((4294967295 : Int))).toNat : Nat)), ())) (
 .br (decide (a1.1 > (31 : Int))) (
 .leaf ((i64.wrap ((BitVec.ofInt (i64.bits) (a0.1) &&& BitVec.ofInt (i64.bits) ((4294967295 : Int))).toNat : Nat)), ())) (
 .chk (decide ((0 : Int) ≤ a1.1)) <|
 .chk (decide ((0 : Int) ≤ (i64.wrap ((32 : Int) - a1.1)))) <|
 .leaf ((i64.wrap ((BitVec.ofInt (i64.bits) ((i64.wrap ((BitVec.ofInt (i64.bits) ((Int.fdiv (i64.wrap ((BitVec.ofInt (i64.bits) (a0.1) &&& BitVec.ofInt (i64.bits) ((4294967295 : Int))).toNat : Nat)) (2 ^ (min (a1.1).toNat i64.bits)))) ||| BitVec.ofInt (i64.bits) ((i64.wrap ((i64.wrap ((BitVec.ofInt (i64.bits) (a0.1) &&& BitVec.ofInt (i64.bits) ((4294967295 : Int))).toNat : Nat)) * 2 ^ (min ((i64.wrap ((32 : Int) - a1.1))).toNat i64.bits))))).toNat : Nat))) &&& BitVec.ofInt (i64.bits) ((4294967295 : Int))).toNat : Nat)), ())))
def Ip (a0 : YI) (a1 : YI) : Option (YI) := (A2p a0 a1).val
def Hi (x1 : (List YB) × (List YI) × Int × Unit) : Option (((List YB) × (List YI) × Int × Unit) ⊕ (((List YI) × Unit))) :=
 Tree.val (α := ((List YB) × (List YI) × Int × Unit) ⊕ (((List YI) × Unit))) <|
 .br (decide (x1.2.2.1 < (16 : Int))) (
 .ob (Avk (x1.1, ()) ((i64.wrap ((4 : Int) * x1.2.2.1)), ()) ((4 : Int), ())) fun r2 =>
 .chk (decide (x1.2.1.length + [r2.1].length ≤ 4294967296)) <|
 .leaf (.inl (x1.1, (x1.2.1 ++ [r2.1]), (i64.wrap (x1.2.2.1 + (1 : Int))), ()))) (
 .leaf (.inr (x1.2.1, ())))
def Gc (x4 : (List YI) × Int × Unit) : Option (((List YI) × Int × Unit) ⊕ (((List YI) × Unit))) :=
 Tree.val (α := ((List YI) × Int × Unit) ⊕ (((List YI) × Unit))) <|
 .br (decide (x4.2.1 < (64 : Int))) (
 .ob (idx x4.1 (i64.wrap (x4.2.1 - (15 : Int)))) fun e5 =>
 .ob (idx x4.1 (i64.wrap (x4.2.1 - (2 : Int)))) fun e6 =>
 .ob (Ip e5 ((7 : Int), ())) fun r7 =>
 .ob (Ip e5 ((18 : Int), ())) fun r8 =>
 .ob (Ip e6 ((17 : Int), ())) fun r9 =>
 .ob (Ip e6 ((19 : Int), ())) fun r10 =>
 .ob (idx x4.1 (i64.wrap (x4.2.1 - (7 : Int)))) fun e11 =>
 .ob (idx x4.1 (i64.wrap (x4.2.1 - (16 : Int)))) fun e12 =>
 .chk (decide (x4.1.length + [((i64.wrap ((BitVec.ofInt (i64.bits) ((i64.wrap ((i64.wrap ((i64.wrap (e11.1 + e12.1)) + (i64.wrap ((BitVec.ofInt (i64.bits) ((i64.wrap ((BitVec.ofInt (i64.bits) (r7.1) ^^^ BitVec.ofInt (i64.bits) (r8.1)).toNat : Nat))) ^^^ BitVec.ofInt (i64.bits) ((Int.fdiv e5.1 (2 ^ (min ((3 : Int)).toNat i64.bits))))).toNat : Nat)))) + (i64.wrap ((BitVec.ofInt (i64.bits) ((i64.wrap ((BitVec.ofInt (i64.bits) (r9.1) ^^^ BitVec.ofInt (i64.bits) (r10.1)).toNat : Nat))) ^^^ BitVec.ofInt (i64.bits) ((Int.fdiv e6.1 (2 ^ (min ((10 : Int)).toNat i64.bits))))).toNat : Nat))))) &&& BitVec.ofInt (i64.bits) ((4294967295 : Int))).toNat : Nat)), ())].length ≤ 4294967296)) <|
 .leaf (.inl ((x4.1 ++ [((i64.wrap ((BitVec.ofInt (i64.bits) ((i64.wrap ((i64.wrap ((i64.wrap (e11.1 + e12.1)) + (i64.wrap ((BitVec.ofInt (i64.bits) ((i64.wrap ((BitVec.ofInt (i64.bits) (r7.1) ^^^ BitVec.ofInt (i64.bits) (r8.1)).toNat : Nat))) ^^^ BitVec.ofInt (i64.bits) ((Int.fdiv e5.1 (2 ^ (min ((3 : Int)).toNat i64.bits))))).toNat : Nat)))) + (i64.wrap ((BitVec.ofInt (i64.bits) ((i64.wrap ((BitVec.ofInt (i64.bits) (r9.1) ^^^ BitVec.ofInt (i64.bits) (r10.1)).toNat : Nat))) ^^^ BitVec.ofInt (i64.bits) ((Int.fdiv e6.1 (2 ^ (min ((10 : Int)).toNat i64.bits))))).toNat : Nat))))) &&& BitVec.ofInt (i64.bits) ((4294967295 : Int))).toNat : Nat)), ())]), (i64.wrap (x4.2.1 + (1 : Int))), ()))) (
 .leaf (.inr (x4.1, ())))
def M4 (a0 : YBs) : Tree (((List YI) × Unit)) :=
 .br ((a0.1.length : Int) != (64 : Int)) (
 .leaf (([] : List YI), ())) (
 .ob (Ay Hi (a0.1, ([] : List YI), (0 : Int), ())) fun o3 =>
 .ob (Ay Gc (o3.1, (16 : Int), ())) fun o13 =>
 .leaf o13)
def Zw (a0 : YBs) : Option (((List YI) × Unit)) := (M4 a0).val
def Fo (x12 : (List YI) × (List YI) × (List YI) × (List YI) × Int × Int × Int × Int × Int × Int × Int × Int × Int × Unit) : Option (((List YI) × (List YI) × (List YI) × (List YI) × Int × Int × Int × Int × Int × Int × Int × Int × Int × Unit) ⊕ (((List YI) × (List YI) × Int × Int × Int × Int × Int × Int × Int × Int × Unit))) :=
 Tree.val (α := ((List YI) × (List YI) × (List YI) × (List YI) × Int × Int × Int × Int × Int × Int × Int × Int × Int × Unit) ⊕ (((List YI) × (List YI) × Int × Int × Int × Int × Int × Int × Int × Int × Unit))) <|
 .br (decide (x12.2.2.2.2.2.2.2.2.2.2.2.2.1 < (64 : Int))) (
 .ob (Ip (x12.2.2.2.2.2.2.2.2.1, ()) ((6 : Int), ())) fun r13 =>
 .ob (Ip (x12.2.2.2.2.2.2.2.2.1, ()) ((11 : Int), ())) fun r14 =>
 .ob (Ip (x12.2.2.2.2.2.2.2.2.1, ()) ((25 : Int), ())) fun r15 =>
 .ob (idx x12.2.2.1 x12.2.2.2.2.2.2.2.2.2.2.2.2.1) fun e16 =>
 .ob (idx x12.2.2.2.1 x12.2.2.2.2.2.2.2.2.2.2.2.2.1) fun e17 =>
 .ob (Ip (x12.2.2.2.2.1, ()) ((2 : Int), ())) fun r18 =>
 .ob (Ip (x12.2.2.2.2.1, ()) ((13 : Int), ())) fun r19 =>
 .ob (Ip (x12.2.2.2.2.1, ()) ((22 : Int), ())) fun r20 =>
 .leaf (.inl (x12.1, x12.2.1, x12.2.2.1, x12.2.2.2.1, (i64.wrap ((BitVec.ofInt (i64.bits) ((i64.wrap ((i64.wrap ((BitVec.ofInt (i64.bits) ((i64.wrap ((i64.wrap ((i64.wrap ((i64.wrap (x12.2.2.2.2.2.2.2.2.2.2.2.1 + (i64.wrap ((BitVec.ofInt (i64.bits) ((i64.wrap ((BitVec.ofInt (i64.bits) (r13.1) ^^^ BitVec.ofInt (i64.bits) (r14.1)).toNat : Nat))) ^^^ BitVec.ofInt (i64.bits) (r15.1)).toNat : Nat)))) + (i64.wrap ((BitVec.ofInt (i64.bits) ((i64.wrap ((BitVec.ofInt (i64.bits) (x12.2.2.2.2.2.2.2.2.1) &&& BitVec.ofInt (i64.bits) (x12.2.2.2.2.2.2.2.2.2.1)).toNat : Nat))) ^^^ BitVec.ofInt (i64.bits) ((i64.wrap ((BitVec.ofInt (i64.bits) ((i64.wrap ((BitVec.ofInt (i64.bits) (x12.2.2.2.2.2.2.2.2.1) ^^^ BitVec.ofInt (i64.bits) ((4294967295 : Int))).toNat : Nat))) &&& BitVec.ofInt (i64.bits) (x12.2.2.2.2.2.2.2.2.2.2.1)).toNat : Nat)))).toNat : Nat)))) + e16.1)) + e17.1))) &&& BitVec.ofInt (i64.bits) ((4294967295 : Int))).toNat : Nat)) + (i64.wrap ((BitVec.ofInt (i64.bits) ((i64.wrap ((i64.wrap ((BitVec.ofInt (i64.bits) ((i64.wrap ((BitVec.ofInt (i64.bits) (r18.1) ^^^ BitVec.ofInt (i64.bits) (r19.1)).toNat : Nat))) ^^^ BitVec.ofInt (i64.bits) (r20.1)).toNat : Nat)) + (i64.wrap ((BitVec.ofInt (i64.bits) ((i64.wrap ((BitVec.ofInt (i64.bits) ((i64.wrap ((BitVec.ofInt (i64.bits) (x12.2.2.2.2.1) &&& BitVec.ofInt (i64.bits) (x12.2.2.2.2.2.1)).toNat : Nat))) ^^^ BitVec.ofInt (i64.bits) ((i64.wrap ((BitVec.ofInt (i64.bits) (x12.2.2.2.2.1) &&& BitVec.ofInt (i64.bits) (x12.2.2.2.2.2.2.1)).toNat : Nat)))).toNat : Nat))) ^^^ BitVec.ofInt (i64.bits) ((i64.wrap ((BitVec.ofInt (i64.bits) (x12.2.2.2.2.2.1) &&& BitVec.ofInt (i64.bits) (x12.2.2.2.2.2.2.1)).toNat : Nat)))).toNat : Nat))))) &&& BitVec.ofInt (i64.bits) ((4294967295 : Int))).toNat : Nat))))) &&& BitVec.ofInt (i64.bits) ((4294967295 : Int))).toNat : Nat)), x12.2.2.2.2.1, x12.2.2.2.2.2.1, x12.2.2.2.2.2.2.1, (i64.wrap ((BitVec.ofInt (i64.bits) ((i64.wrap (x12.2.2.2.2.2.2.2.1 + (i64.wrap ((BitVec.ofInt (i64.bits) ((i64.wrap ((i64.wrap ((i64.wrap ((i64.wrap (x12.2.2.2.2.2.2.2.2.2.2.2.1 + (i64.wrap ((BitVec.ofInt (i64.bits) ((i64.wrap ((BitVec.ofInt (i64.bits) (r13.1) ^^^ BitVec.ofInt (i64.bits) (r14.1)).toNat : Nat))) ^^^ BitVec.ofInt (i64.bits) (r15.1)).toNat : Nat)))) + (i64.wrap ((BitVec.ofInt (i64.bits) ((i64.wrap ((BitVec.ofInt (i64.bits) (x12.2.2.2.2.2.2.2.2.1) &&& BitVec.ofInt (i64.bits) (x12.2.2.2.2.2.2.2.2.2.1)).toNat : Nat))) ^^^ BitVec.ofInt (i64.bits) ((i64.wrap ((BitVec.ofInt (i64.bits) ((i64.wrap ((BitVec.ofInt (i64.bits) (x12.2.2.2.2.2.2.2.2.1) ^^^ BitVec.ofInt (i64.bits) ((4294967295 : Int))).toNat : Nat))) &&& BitVec.ofInt (i64.bits) (x12.2.2.2.2.2.2.2.2.2.2.1)).toNat : Nat)))).toNat : Nat)))) + e16.1)) + e17.1))) &&& BitVec.ofInt (i64.bits) ((4294967295 : Int))).toNat : Nat))))) &&& BitVec.ofInt (i64.bits) ((4294967295 : Int))).toNat : Nat)), x12.2.2.2.2.2.2.2.2.1, x12.2.2.2.2.2.2.2.2.2.1, x12.2.2.2.2.2.2.2.2.2.2.1, (i64.wrap (x12.2.2.2.2.2.2.2.2.2.2.2.2.1 + (1 : Int))), ()))) (
 .leaf (.inr (x12.1, x12.2.1, x12.2.2.2.2.1, x12.2.2.2.2.2.1, x12.2.2.2.2.2.2.1, x12.2.2.2.2.2.2.2.1, x12.2.2.2.2.2.2.2.2.1, x12.2.2.2.2.2.2.2.2.2.1, x12.2.2.2.2.2.2.2.2.2.2.1, x12.2.2.2.2.2.2.2.2.2.2.2.1, ())))
def E0 (x22 : (List YI) × (List YI) × (List YI) × Int × Unit) : Option (((List YI) × (List YI) × (List YI) × Int × Unit) ⊕ (((List YI) × Unit))) :=
 Tree.val (α := ((List YI) × (List YI) × (List YI) × Int × Unit) ⊕ (((List YI) × Unit))) <|
 .br (decide (x22.2.2.2.1 < (8 : Int))) (
 .ob (idx x22.1 x22.2.2.2.1) fun e23 =>
 .ob (idx x22.2.2.1 x22.2.2.2.1) fun e24 =>
 .ob (idx x22.2.1 x22.2.2.2.1) fun e25 =>
 let q26 := (x22.2.1.set (x22.2.2.2.1).toNat ((i64.wrap ((BitVec.ofInt (i64.bits) ((i64.wrap (e23.1 + e24.1))) &&& BitVec.ofInt (i64.bits) ((4294967295 : Int))).toNat : Nat)), ()))
 .leaf (.inl (x22.1, q26, x22.2.2.1, (i64.wrap (x22.2.2.2.1 + (1 : Int))), ()))) (
 .leaf (.inr (x22.2.1, ())))
def M5 (a0 : (List YI) × Unit) (a1 : YBs) : Tree (((List YI) × Unit)) :=
 .chk (decide (([] : List YI).length + a0.1.length ≤ 4294967296)) <|
 .ob (Ad8 a0) fun r1 =>
 .br (!r1.1) (
 .leaf ((([] : List YI) ++ a0.1), ())) (
 .br ((a1.1.length : Int) != (64 : Int)) (
 .leaf ((([] : List YI) ++ a0.1), ())) (
 .ob Bfa fun r2 =>
 .ob (Zw a1) fun r3 =>
 .ob (idx a0.1 (0 : Int)) fun e4 =>
 .ob (idx a0.1 (1 : Int)) fun e5 =>
 .ob (idx a0.1 (2 : Int)) fun e6 =>
 .ob (idx a0.1 (3 : Int)) fun e7 =>
 .ob (idx a0.1 (4 : Int)) fun e8 =>
 .ob (idx a0.1 (5 : Int)) fun e9 =>
 .ob (idx a0.1 (6 : Int)) fun e10 =>
 .ob (idx a0.1 (7 : Int)) fun e11 =>
 .ob (Ay Fo (a0.1, (([] : List YI) ++ a0.1), r2.1, r3.1, e4.1, e5.1, e6.1, e7.1, e8.1, e9.1, e10.1, e11.1, (0 : Int), ())) fun o21 =>
 .ob (Ay E0 (o21.1, o21.2.1, [(o21.2.2.1, ()), (o21.2.2.2.1, ()), (o21.2.2.2.2.1, ()), (o21.2.2.2.2.2.1, ()), (o21.2.2.2.2.2.2.1, ()), (o21.2.2.2.2.2.2.2.1, ()), (o21.2.2.2.2.2.2.2.2.1, ()), (o21.2.2.2.2.2.2.2.2.2.1, ())], (0 : Int), ())) fun o27 =>
 .leaf o27))
def R0 (a0 : (List YI) × Unit) (a1 : YBs) : Option (((List YI) × Unit)) := (M5 a0 a1).val
def Js (x1 : Lc) : Option (Lc ⊕ (YBs)) :=
 Tree.val (α := Lc ⊕ (YBs)) <|
 .br (decide (x1.2.2.1 < (8 : Int))) (
 .ob (idx x1.1 x1.2.2.1) fun e2 =>
 .ob (Gs (x1.2.1, ()) e2 ((4 : Int), ())) fun r3 =>
 .leaf (.inl (x1.1, r3.1, (i64.wrap (x1.2.2.1 + (1 : Int))), ()))) (
 .leaf (.inr (x1.2.1, ())))
def Vv (a0 : (List YI) × Unit) : Tree (YBs) :=
 .ob (Ay Js (a0.1, ([] : List YB), (0 : Int), ())) fun o4 =>
 .leaf o4
def Aon (a0 : (List YI) × Unit) : Option (YBs) := (Vv a0).val
def M6 (x3 : (List YB) × (List YI) × Int × Unit) : Option (((List YB) × (List YI) × Int × Unit) ⊕ (((List YI) × Unit))) :=
 Tree.val (α := ((List YB) × (List YI) × Int × Unit) ⊕ (((List YI) × Unit))) <|
 .br (decide (x3.2.2.1 < (x3.1.length : Int))) (
 .chk (decide ((0 : Int) ≤ x3.2.2.1)) <|
 .chk (decide (x3.2.2.1 ≤ (i64.wrap (x3.2.2.1 + (64 : Int))))) <|
 .chk (decide ((i64.wrap (x3.2.2.1 + (64 : Int))) ≤ (x3.1.length : Int))) <|
 .ob (R0 (x3.2.1, ()) (((x3.1.take ((i64.wrap (x3.2.2.1 + (64 : Int)))).toNat).drop (x3.2.2.1).toNat), ())) fun r4 =>
 .leaf (.inl (x3.1, r4.1, (i64.wrap (x3.2.2.1 + (64 : Int))), ()))) (
 .leaf (.inr (x3.2.1, ())))
def Af7 (a0 : YBs) : Tree (YBs) :=
 .br (decide ((a0.1.length : Int) > (1048576 : Int))) (
 .leaf (([] : List YB), ())) (
 .chk (decide (([] : List YB).length + a0.1.length ≤ 4294967296)) <|
 .ob (A2o ((a0.1.length : Int), ())) fun r1 =>
 .chk (decide ((([] : List YB) ++ a0.1).length + r1.1.length ≤ 4294967296)) <|
 .ob A5c fun r2 =>
 .ob (Ay M6 (((([] : List YB) ++ a0.1) ++ r1.1), r2.1, (0 : Int), ())) fun o5 =>
 .ob (Aon o5) fun r6 =>
 .leaf r6)
def Af8 (a0 : YBs) : Option (YBs) := (Af7 a0).val
def J8 (x2 : YBs) : Option (YBs ⊕ (YBs)) :=
 Tree.val (α := YBs ⊕ (YBs)) <|
 .br (decide ((x2.1.length : Int) < (64 : Int))) (
 .chk (decide (x2.1.length + [((0 : Int), ())].length ≤ 4294967296)) <|
 .leaf (.inl ((x2.1 ++ [((0 : Int), ())]), ()))) (
 .leaf (.inr x2))
def M7 (a0 : YBs) : Tree (YBs) :=
 .br (decide ((a0.1.length : Int) > (1048576 : Int))) (
 .leaf (([] : List YB), ())) (
 .chk (decide (([] : List YB).length + a0.1.length ≤ 4294967296)) <|
 .br (decide ((a0.1.length : Int) > (64 : Int))) (
 .ob (Af8 a0) fun r1 =>
 .ob (Ay J8 r1) fun o3 =>
 .leaf o3) (
 .ob (Ay J8 ((([] : List YB) ++ a0.1), ())) fun o4 =>
 .leaf o4))
def Zx (a0 : YBs) : Option (YBs) := (M7 a0).val
def Lg (x2 : (List YB) × (List YB) × (List YB) × (List YB) × Int × Unit) : Option (((List YB) × (List YB) × (List YB) × (List YB) × Int × Unit) ⊕ (((List YB) × (List YB) × (List YB) × Unit))) :=
 Tree.val (α := ((List YB) × (List YB) × (List YB) × (List YB) × Int × Unit) ⊕ (((List YB) × (List YB) × (List YB) × Unit))) <|
 .br (decide (x2.2.2.2.2.1 < (64 : Int))) (
 .ob (idx x2.2.1 x2.2.2.2.2.1) fun e3 =>
 .chk (decide (x2.2.2.1.length + [((u8.wrap ((BitVec.ofInt (u8.bits) (e3.1) ^^^ BitVec.ofInt (u8.bits) ((54 : Int))).toNat : Nat)), ())].length ≤ 4294967296)) <|
 .ob (idx x2.2.1 x2.2.2.2.2.1) fun e4 =>
 .chk (decide (x2.2.2.2.1.length + [((u8.wrap ((BitVec.ofInt (u8.bits) (e4.1) ^^^ BitVec.ofInt (u8.bits) ((92 : Int))).toNat : Nat)), ())].length ≤ 4294967296)) <|
 .leaf (.inl (x2.1, x2.2.1, (x2.2.2.1 ++ [((u8.wrap ((BitVec.ofInt (u8.bits) (e3.1) ^^^ BitVec.ofInt (u8.bits) ((54 : Int))).toNat : Nat)), ())]), (x2.2.2.2.1 ++ [((u8.wrap ((BitVec.ofInt (u8.bits) (e4.1) ^^^ BitVec.ofInt (u8.bits) ((92 : Int))).toNat : Nat)), ())]), (i64.wrap (x2.2.2.2.2.1 + (1 : Int))), ()))) (
 .leaf (.inr (x2.1, x2.2.2.1, x2.2.2.2.1, ())))
def Zy (a0 : YBs) (a1 : YBs) : Tree (YBs) :=
 .br (decide ((a0.1.length : Int) > (1048576 : Int))) (
 .leaf (([] : List YB), ())) (
 .br (decide ((a1.1.length : Int) > (1048512 : Int))) (
 .leaf (([] : List YB), ())) (
 .ob (Zx a0) fun r1 =>
 .ob (Ay Lg (a1.1, r1.1, ([] : List YB), ([] : List YB), (0 : Int), ())) fun o5 =>
 .chk (decide (o5.2.1.length + o5.1.length ≤ 4294967296)) <|
 .ob (Af8 ((o5.2.1 ++ o5.1), ())) fun r6 =>
 .chk (decide (o5.2.2.1.length + r6.1.length ≤ 4294967296)) <|
 .ob (Af8 ((o5.2.2.1 ++ r6.1), ())) fun r7 =>
 .leaf r7))
def Zz (a0 : YBs) (a1 : YBs) : Option (YBs) := (Zy a0 a1).val
def A2q (a0 : YBs) (a1 : YBs) : Tree (YBs) :=
 .ob (Zz a0 a1) fun r1 =>
 .br (decide ((r1.1.length : Int) < (16 : Int))) (
 .leaf (([] : List YB), ())) (
 .chk (decide ((16 : Int) ≤ (r1.1.length : Int))) <|
 .chk (decide (([] : List YB).length + ((r1.1.take ((16 : Int)).toNat).drop ((0 : Int)).toNat).length ≤ 4294967296)) <|
 .leaf ((([] : List YB) ++ ((r1.1.take ((16 : Int)).toNat).drop ((0 : Int)).toNat)), ()))
def Asl (a0 : YBs) (a1 : YBs) : Option (YBs) := (A2q a0 a1).val
def Ot (x1 : (List YB) × (List YB) × Int × Int × Unit) : Option (((List YB) × (List YB) × Int × Int × Unit) ⊕ (YI)) :=
 Tree.val (α := ((List YB) × (List YB) × Int × Int × Unit) ⊕ (YI)) <|
 .br (decide (x1.2.2.2.1 < (x1.1.length : Int))) (
 .ob (idx x1.1 x1.2.2.2.1) fun e2 =>
 .ob (idx x1.2.1 x1.2.2.2.1) fun e3 =>
 .leaf (.inl (x1.1, x1.2.1, (i64.wrap ((BitVec.ofInt (i64.bits) (x1.2.2.1) ||| BitVec.ofInt (i64.bits) ((i64.wrap ((u8.wrap ((BitVec.ofInt (u8.bits) (e2.1) ^^^ BitVec.ofInt (u8.bits) (e3.1)).toNat : Nat)))))).toNat : Nat)), (i64.wrap (x1.2.2.2.1 + (1 : Int))), ()))) (
 .leaf (.inr (x1.2.2.1, ())))
def Z0 (a0 : YBs) (a1 : YBs) : Tree (YI) :=
 .br ((a0.1.length : Int) != (a1.1.length : Int)) (
 .leaf ((-1 : Int), ())) (
 .ob (Ay Ot (a0.1, a1.1, (0 : Int), (0 : Int), ())) fun o4 =>
 .leaf o4)
def Avl (a0 : YBs) (a1 : YBs) : Option (YI) := (Z0 a0 a1).val
def Ad9 (a0 : YBs) (a1 : YBs) : Tree ((Bool × Unit)) :=
 .br ((a0.1.length : Int) == (16 : Int)) (
 .ob (Avl a0 a1) fun r1 =>
 .leaf ((r1.1 == (0 : Int)), ())) (
 .leaf (false, ()))
def Aea (a0 : YBs) (a1 : YBs) : Option ((Bool × Unit)) := (Ad9 a0 a1).val
def Aeb (a0 : YBs) (a1 : YBs) (a2 : YI) : Tree (YBs) :=
 .ob (By a2 ((0 : Int), ()) ((6 : Int), ())) fun r1 =>
 .br (!r1.1) (
 .leaf (([] : List YB), ())) (
 .br (decide ((a1.1.length : Int) > (100 : Int))) (
 .leaf (([] : List YB), ())) (
 .chk (decide ([((115 : Int), ())].length + a1.1.length ≤ 4294967296)) <|
 .ob (Gs (([((115 : Int), ())] ++ a1.1), ()) a2 ((4 : Int), ())) fun r2 =>
 .ob (Zz a0 r2) fun r3 =>
 .leaf r3))
def Aec (a0 : YBs) (a1 : YBs) (a2 : YI) : Option (YBs) := (Aeb a0 a1 a2).val
def Hu (x2 : (List YB) × (List YB) × Int × (List YB) × Int × Unit) : Option (((List YB) × (List YB) × Int × (List YB) × Int × Unit) ⊕ ((Int × (List YB) × Unit))) :=
 Tree.val (α := ((List YB) × (List YB) × Int × (List YB) × Int × Unit) ⊕ ((Int × (List YB) × Unit))) <|
 .br (decide ((x2.2.2.2.1.length : Int) < x2.2.2.1)) (
 .ob (Aec (x2.1, ()) (x2.2.1, ()) (x2.2.2.2.2.1, ())) fun r3 =>
 .chk (decide (x2.2.2.2.1.length + r3.1.length ≤ 4294967296)) <|
 .leaf (.inl (x2.1, x2.2.1, x2.2.2.1, (x2.2.2.2.1 ++ r3.1), (i64.wrap (x2.2.2.2.2.1 + (1 : Int))), ()))) (
 .leaf (.inr (x2.2.2.1, x2.2.2.2.1, ())))
def R4 (a0 : YBs) (a1 : YBs) (a2 : YI) : Tree (YBs) :=
 .ob (By a2 ((0 : Int), ()) ((200 : Int), ())) fun r1 =>
 .br (!r1.1) (
 .leaf (([] : List YB), ())) (
 .br (decide ((a1.1.length : Int) > (100 : Int))) (
 .leaf (([] : List YB), ())) (
 .br (decide ((a0.1.length : Int) > (1048576 : Int))) (
 .leaf (([] : List YB), ())) (
 .ob (Ay Hu (a0.1, a1.1, a2.1, ([] : List YB), (0 : Int), ())) fun o4 =>
 .chk (decide ((0 : Int) ≤ o4.1)) <|
 .chk (decide (o4.1 ≤ (o4.2.1.length : Int))) <|
 .chk (decide (([] : List YB).length + ((o4.2.1.take (o4.1).toNat).drop ((0 : Int)).toNat).length ≤ 4294967296)) <|
 .leaf ((([] : List YB) ++ ((o4.2.1.take (o4.1).toNat).drop ((0 : Int)).toNat)), ()))))
def Aiu (a0 : YBs) (a1 : YBs) (a2 : YI) : Option (YBs) := (R4 a0 a1 a2).val
def M8 (x2 : (List YB) × (List YB) × (List YB) × Int × Unit) : Option (((List YB) × (List YB) × (List YB) × Int × Unit) ⊕ (YBs)) :=
 Tree.val (α := ((List YB) × (List YB) × (List YB) × Int × Unit) ⊕ (YBs)) <|
 .br (decide (x2.2.2.2.1 < (x2.1.length : Int))) (
 .ob (idx x2.1 x2.2.2.2.1) fun e3 =>
 .ob (idx x2.2.2.1 x2.2.2.2.1) fun e4 =>
 .chk (decide (x2.2.1.length + [((u8.wrap ((BitVec.ofInt (u8.bits) (e3.1) ^^^ BitVec.ofInt (u8.bits) (e4.1)).toNat : Nat)), ())].length ≤ 4294967296)) <|
 .leaf (.inl (x2.1, (x2.2.1 ++ [((u8.wrap ((BitVec.ofInt (u8.bits) (e3.1) ^^^ BitVec.ofInt (u8.bits) (e4.1)).toNat : Nat)), ())]), x2.2.2.1, (i64.wrap (x2.2.2.2.1 + (1 : Int))), ()))) (
 .leaf (.inr (x2.2.1, ())))
def Af9 (a0 : YBs) (a1 : YBs) (a2 : YBs) : Tree (YBs) :=
 .br (decide ((a2.1.length : Int) > (200 : Int))) (
 .leaf (([] : List YB), ())) (
 .br (decide ((a1.1.length : Int) > (100 : Int))) (
 .leaf (([] : List YB), ())) (
 .br (decide ((a0.1.length : Int) > (1048576 : Int))) (
 .leaf (([] : List YB), ())) (
 .ob (Aiu a0 a1 ((a2.1.length : Int), ())) fun r1 =>
 .ob (Ay M8 (a2.1, ([] : List YB), r1.1, (0 : Int), ())) fun o5 =>
 .leaf o5)))
def Asm (a0 : YBs) (a1 : YBs) (a2 : YBs) : Option (YBs) := (Af9 a0 a1 a2).val
def Aiv (a0 : YBs) (a1 : YI) (a2 : Av) : Tree (YBs × (Bool × Unit)) :=
 .ob (Ht a1 a2) fun r1 =>
 .br ((a0.1.length : Int) != (32 : Int)) (
 .leaf ((([] : List YB), ()), (false, ()))) (
 .br ((r1.1.length : Int) == (0 : Int)) (
 .leaf ((([] : List YB), ()), (false, ()))) (
 .ob (Asl a0 r1) fun r2 =>
 .ob (Aea (a2.2.2.2.2.2.2.2.2.2.2.1, ()) r2) fun r3 =>
 .br (!r3.1) (
 .leaf ((([] : List YB), ()), (false, ()))) (
 .ob (Oq a1 (a2.2.2.2.1, ()) (a2.2.2.2.2.2.2.2.1, ()) (a2.2.2.2.2.2.2.2.2.1, ())) fun r4 =>
 .ob (Asm a0 r4 (a2.2.2.2.2.2.2.2.2.2.1, ())) fun r5 =>
 .leaf (r5, (true, ())))))
def Aiw (a0 : YBs) (a1 : YI) (a2 : Av) : Option (YBs × (Bool × Unit)) := (Aiv a0 a1 a2).val
def Hv (x3 : Int × Int × Int × Int × (List YI) × Int × (List YI) × Int × (List YI) × Unit) : Option ((Int × Int × Int × Int × (List YI) × Int × (List YI) × Int × (List YI) × Unit) ⊕ ((Int × Int × (List YI) × Int × (List YI) × Int × (List YI) × Unit))) :=
 Tree.val (α := (Int × Int × Int × Int × (List YI) × Int × (List YI) × Int × (List YI) × Unit) ⊕ ((Int × Int × (List YI) × Int × (List YI) × Int × (List YI) × Unit))) <|
 .br (decide (x3.2.2.1 ≤ x3.1)) (
 .br (decide (x3.2.1 < (1024 : Int))) (
 .chk (decide ((0 : Int) ≤ x3.2.2.1)) <|
 .chk (decide ((0 : Int) ≤ (x3.2.2.1 % (1024 : Int)))) <|
 .chk (decide ((0 : Int) ≤ (x3.2.2.1 % (1024 : Int)))) <|
 .ob (idx x3.2.2.2.2.2.2.2.2.1 ((x3.2.2.1 % (1024 : Int)) / (32 : Int))) fun e4 =>
 .chk (decide ((0 : Int) ≤ (x3.2.2.1 % (1024 : Int)))) <|
 .chk (decide ((0 : Int) ≤ ((x3.2.2.1 % (1024 : Int)) % (32 : Int)))) <|
 .ob (idx x3.2.2.2.2.2.2.2.2.1 ((x3.2.2.1 % (1024 : Int)) / (32 : Int))) fun e5 =>
 let q6 := (x3.2.2.2.2.2.2.2.2.1.set (((x3.2.2.1 % (1024 : Int)) / (32 : Int))).toNat ((i64.wrap ((BitVec.ofInt (i64.bits) (e4.1) &&& ~~~ BitVec.ofInt (i64.bits) ((i64.wrap ((1 : Int) * 2 ^ (min (((x3.2.2.1 % (1024 : Int)) % (32 : Int))).toNat i64.bits))))).toNat : Nat)), ()))
 .leaf (.inl (x3.1, (i64.wrap (x3.2.1 + (1 : Int))), (i64.wrap (x3.2.2.1 + (1 : Int))), x3.2.2.2.1, x3.2.2.2.2.1, x3.2.2.2.2.2.1, x3.2.2.2.2.2.2.1, x3.2.2.2.2.2.2.2.1, q6, ()))) (
 .leaf (.inr (x3.1, x3.2.2.2.1, x3.2.2.2.2.1, x3.2.2.2.2.2.1, x3.2.2.2.2.2.2.1, x3.2.2.2.2.2.2.2.1, x3.2.2.2.2.2.2.2.2.1, ())))) (
 .leaf (.inr (x3.1, x3.2.2.2.1, x3.2.2.2.2.1, x3.2.2.2.2.2.1, x3.2.2.2.2.2.2.1, x3.2.2.2.2.2.2.2.1, x3.2.2.2.2.2.2.2.2.1, ())))
def R5 (a0 : Bo) (a1 : YI) : Tree (Bo × (Bool × Unit)) :=
 .ob (Aik a0) fun r1 =>
 .ob (Xo a0 a1) fun r2 =>
 .br (!r2.1) (
 .leaf (r1, (false, ()))) (
 .ob (Ay Hv (a1.1, (0 : Int), (i64.wrap (a0.1 + (1 : Int))), a0.1, a0.2.1, (0 : Int), ([] : List YI), r1.1, r1.2.1, ())) fun o7 =>
 .chk (decide ((0 : Int) ≤ o7.1)) <|
 .chk (decide ((0 : Int) ≤ (o7.1 % (1024 : Int)))) <|
 .chk (decide ((0 : Int) ≤ (o7.1 % (1024 : Int)))) <|
 .ob (idx o7.2.2.2.2.2.2.1 ((o7.1 % (1024 : Int)) / (32 : Int))) fun e8 =>
 .chk (decide ((0 : Int) ≤ (o7.1 % (1024 : Int)))) <|
 .chk (decide ((0 : Int) ≤ ((o7.1 % (1024 : Int)) % (32 : Int)))) <|
 .ob (idx o7.2.2.2.2.2.2.1 ((o7.1 % (1024 : Int)) / (32 : Int))) fun e9 =>
 let q10 := (o7.2.2.2.2.2.2.1.set (((o7.1 % (1024 : Int)) / (32 : Int))).toNat ((i64.wrap ((BitVec.ofInt (i64.bits) (e8.1) ||| BitVec.ofInt (i64.bits) ((i64.wrap ((1 : Int) * 2 ^ (min (((o7.1 % (1024 : Int)) % (32 : Int))).toNat i64.bits))))).toNat : Nat)), ()))
 .br (decide (o7.1 > o7.2.1)) (
 .leaf ((o7.1, q10, ()), (true, ()))) (
 .leaf ((o7.2.2.2.2.2.1, q10, ()), (true, ()))))
def Aix (a0 : Bo) (a1 : YI) : Option (Bo × (Bool × Unit)) := (R5 a0 a1).val
def Aiy (a0 : YEp) (a1 : YI) (a2 : Av) : Tree (YEp × YBs × YI) :=
 .ob (Om a0) fun r1 =>
 .ob (Q5 a0) fun r2 =>
 .br (!r2.1) (
 .leaf (r1, (([] : List YB), ()), ((1 : Int), ()))) (
 .ob (Ht a1 a2) fun r3 =>
 .br ((r3.1.length : Int) == (0 : Int)) (
 .leaf (r1, (([] : List YB), ()), ((1 : Int), ()))) (
 .br (a2.2.2.2.2.2.2.2.1 != a0.1) (
 .leaf (r1, (([] : List YB), ()), ((1 : Int), ()))) (
 .ob (Xo (a0.2.2.2.1, a0.2.2.2.2.1, ()) (a2.2.2.2.2.2.2.2.2.1, ())) fun r4 =>
 .br (!r4.1) (
 .leaf (r1, (([] : List YB), ()), ((3 : Int), ()))) (
 .ob (Aiw (a0.2.1, ()) a1 a2) fun r5 =>
 .br (!r5.2.1) (
 .leaf (r1, (([] : List YB), ()), ((2 : Int), ()))) (
 .ob (Aix (a0.2.2.2.1, a0.2.2.2.2.1, ()) (a2.2.2.2.2.2.2.2.2.1, ())) fun r6 =>
 .leaf ((r1.1, r1.2.1, r1.2.2.1, r6.1.1, r6.1.2.1, ()), r5.1, ((0 : Int), ())))))))
def I9 (a0 : YEp) (a1 : YI) (a2 : Av) : Option (YEp × YBs × YI) := (Aiy a0 a1 a2).val
def Hw (x1 : Int × Int × (List YI) × Int × (List YI) × Unit) : Option ((Int × Int × (List YI) × Int × (List YI) × Unit) ⊕ ((Int × (List YI) × Int × (List YI) × Unit))) :=
 Tree.val (α := (Int × Int × (List YI) × Int × (List YI) × Unit) ⊕ ((Int × (List YI) × Int × (List YI) × Unit))) <|
 .br (decide (x1.1 < (32 : Int))) (
 .chk (decide (x1.2.2.2.2.1.length + [((0 : Int), ())].length ≤ 4294967296)) <|
 .leaf (.inl ((i64.wrap (x1.1 + (1 : Int))), x1.2.1, x1.2.2.1, x1.2.2.2.1, (x1.2.2.2.2.1 ++ [((0 : Int), ())]), ()))) (
 .leaf (.inr (x1.2.1, x1.2.2.1, x1.2.2.2.1, x1.2.2.2.2.1, ())))
def R6  : Tree (Bo) :=
 .ob (Ay Hw ((0 : Int), (0 : Int), ([] : List YI), (-1 : Int), ([] : List YI), ())) fun o2 =>
 .leaf (o2.2.2.1, o2.2.2.2.1, ())
def Aiz  : Option (Bo) := (R6 ).val
def Vw (a0 : YI) (a1 : YBs) : Tree (YEp) :=
 .ob (By a0 ((0 : Int), ()) ((4294967295 : Int), ())) fun r1 =>
 .br (!r1.1) (
 .leaf ((0 : Int), ([] : List YB), (0 : Int), (0 : Int), ([] : List YI), ())) (
 .br ((a1.1.length : Int) != (32 : Int)) (
 .leaf ((0 : Int), ([] : List YB), (0 : Int), (0 : Int), ([] : List YI), ())) (
 .chk (decide (([] : List YB).length + a1.1.length ≤ 4294967296)) <|
 .ob Aiz fun r2 =>
 .leaf (a0.1, (([] : List YB) ++ a1.1), (0 : Int), r2.1, r2.2.1, ())))
def K4 (a0 : YI) (a1 : YBs) : Option (YEp) := (Vw a0 a1).val
def R7 (a0 : Ak) (a1 : YI) (a2 : Av) : Tree (Ak × YBs × YI) :=
 .ob (Fv a0) fun r1 =>
 .ob (G4 a0) fun r2 =>
 .br (!r2.1) (
 .leaf (r1, (([] : List YB), ()), ((1 : Int), ()))) (
 .ob (By a1 ((0 : Int), ()) ((1000000 : Int), ())) fun r3 =>
 .br (!r3.1) (
 .leaf (r1, (([] : List YB), ()), ((1 : Int), ()))) (
 .ob (Ve a2) fun r4 =>
 .br (!r4.1) (
 .leaf (r1, (([] : List YB), ()), ((1 : Int), ()))) (
 .ob (Le (a2.1, ())) fun r5 =>
 .br (!r5.1) (
 .leaf (r1, (([] : List YB), ()), ((1 : Int), ()))) (
 .ob (Ry (a2.2.2.2.1, ()) (a0.2.1, ())) fun r6 =>
 .br (!r6.1) (
 .leaf (r1, (([] : List YB), ()), ((8 : Int), ()))) (
 .br (a2.2.2.2.2.2.2.2.1 == a0.2.2.1) (
 .ob (I9 (a0.2.2.1, a0.2.2.2.1, a0.2.2.2.2.1, a0.2.2.2.2.2.1, a0.2.2.2.2.2.2.1, ()) ((i64.wrap ((1 : Int) - a0.1)), ()) a2) fun r7 =>
 .br (r7.2.2.1 != (0 : Int)) (
 .leaf (r1, (([] : List YB), ()), r7.2.2)) (
 .br a0.2.2.2.2.2.2.2.2.2.2.2.2.1 (
 .br (a0.2.2.2.2.2.2.2.2.2.2.2.2.2.1 == (-1 : Int)) (
 .leaf ((r1.1, r1.2.1, r7.1.1, r7.1.2.1, r7.1.2.2.1, r7.1.2.2.2.1, r7.1.2.2.2.2.1, r1.2.2.2.2.2.2.2.1, r1.2.2.2.2.2.2.2.2.1, r1.2.2.2.2.2.2.2.2.2.1, r1.2.2.2.2.2.2.2.2.2.2.1, r1.2.2.2.2.2.2.2.2.2.2.2.1, r1.2.2.2.2.2.2.2.2.2.2.2.2.1, (i64.wrap (a1.1 + (5 : Int))), r1.2.2.2.2.2.2.2.2.2.2.2.2.2.2.1, ()), r7.2.1, ((0 : Int), ()))) (
 .leaf ((r1.1, r1.2.1, r7.1.1, r7.1.2.1, r7.1.2.2.1, r7.1.2.2.2.1, r7.1.2.2.2.2.1, r1.2.2.2.2.2.2.2.1, r1.2.2.2.2.2.2.2.2.1, r1.2.2.2.2.2.2.2.2.2.1, r1.2.2.2.2.2.2.2.2.2.2.1, r1.2.2.2.2.2.2.2.2.2.2.2.1, r1.2.2.2.2.2.2.2.2.2.2.2.2.1, r1.2.2.2.2.2.2.2.2.2.2.2.2.2.1, r1.2.2.2.2.2.2.2.2.2.2.2.2.2.2.1, ()), r7.2.1, ((0 : Int), ())))) (
 .leaf ((r1.1, r1.2.1, r7.1.1, r7.1.2.1, r7.1.2.2.1, r7.1.2.2.2.1, r7.1.2.2.2.2.1, r1.2.2.2.2.2.2.2.1, r1.2.2.2.2.2.2.2.2.1, r1.2.2.2.2.2.2.2.2.2.1, r1.2.2.2.2.2.2.2.2.2.2.1, r1.2.2.2.2.2.2.2.2.2.2.2.1, r1.2.2.2.2.2.2.2.2.2.2.2.2.1, r1.2.2.2.2.2.2.2.2.2.2.2.2.2.1, r1.2.2.2.2.2.2.2.2.2.2.2.2.2.2.1, ()), r7.2.1, ((0 : Int), ()))))) (
 .br a0.2.2.2.2.2.2.2.2.2.2.2.2.1 (
 .br (a2.2.2.2.2.2.2.2.1 == a0.2.2.2.2.2.2.2.1) (
 .br (a0.2.2.2.2.2.2.2.2.2.2.2.2.2.1 != (-1 : Int)) (
 .br (decide (a1.1 > a0.2.2.2.2.2.2.2.2.2.2.2.2.2.1)) (
 .leaf (r1, (([] : List YB), ()), ((9 : Int), ()))) (
 .ob (I9 (a0.2.2.2.2.2.2.2.1, a0.2.2.2.2.2.2.2.2.1, a0.2.2.2.2.2.2.2.2.2.1, a0.2.2.2.2.2.2.2.2.2.2.1, a0.2.2.2.2.2.2.2.2.2.2.2.1, ()) ((i64.wrap ((1 : Int) - a0.1)), ()) a2) fun r8 =>
 .br (r8.2.2.1 != (0 : Int)) (
 .leaf (r1, (([] : List YB), ()), r8.2.2)) (
 .leaf ((r1.1, r1.2.1, r1.2.2.1, r1.2.2.2.1, r1.2.2.2.2.1, r1.2.2.2.2.2.1, r1.2.2.2.2.2.2.1, r8.1.1, r8.1.2.1, r8.1.2.2.1, r8.1.2.2.2.1, r8.1.2.2.2.2.1, r1.2.2.2.2.2.2.2.2.2.2.2.2.1, r1.2.2.2.2.2.2.2.2.2.2.2.2.2.1, r1.2.2.2.2.2.2.2.2.2.2.2.2.2.2.1, ()), r8.2.1, ((0 : Int), ()))))) (
 .ob (I9 (a0.2.2.2.2.2.2.2.1, a0.2.2.2.2.2.2.2.2.1, a0.2.2.2.2.2.2.2.2.2.1, a0.2.2.2.2.2.2.2.2.2.2.1, a0.2.2.2.2.2.2.2.2.2.2.2.1, ()) ((i64.wrap ((1 : Int) - a0.1)), ()) a2) fun r9 =>
 .br (r9.2.2.1 != (0 : Int)) (
 .leaf (r1, (([] : List YB), ()), r9.2.2)) (
 .leaf ((r1.1, r1.2.1, r1.2.2.1, r1.2.2.2.1, r1.2.2.2.2.1, r1.2.2.2.2.2.1, r1.2.2.2.2.2.2.1, r9.1.1, r9.1.2.1, r9.1.2.2.1, r9.1.2.2.2.1, r9.1.2.2.2.2.1, r1.2.2.2.2.2.2.2.2.2.2.2.2.1, r1.2.2.2.2.2.2.2.2.2.2.2.2.2.1, r1.2.2.2.2.2.2.2.2.2.2.2.2.2.2.1, ()), r9.2.1, ((0 : Int), ()))))) (
 .br (decide ((a0.2.2.2.2.2.2.2.2.2.2.2.2.2.2.1.length : Int) > (0 : Int))) (
 .br (a2.2.2.2.2.2.2.2.1 == (i64.wrap (a0.2.2.1 + (1 : Int)))) (
 .ob (K4 ((i64.wrap (a0.2.2.1 + (1 : Int))), ()) (a0.2.2.2.2.2.2.2.2.2.2.2.2.2.2.1, ())) fun r10 =>
 .ob (I9 r10 ((i64.wrap ((1 : Int) - a0.1)), ()) a2) fun r11 =>
 .br (r11.2.2.1 != (0 : Int)) (
 .leaf (r1, (([] : List YB), ()), r11.2.2)) (
 .leaf ((r1.1, r1.2.1, r11.1.1, r11.1.2.1, r11.1.2.2.1, r11.1.2.2.2.1, r11.1.2.2.2.2.1, r1.2.2.1, r1.2.2.2.1, r1.2.2.2.2.1, r1.2.2.2.2.2.1, r1.2.2.2.2.2.2.1, true, (i64.wrap (a1.1 + (5 : Int))), ([] : List YB), ()), r11.2.1, ((0 : Int), ())))) (
 .leaf (r1, (([] : List YB), ()), ((8 : Int), ())))) (
 .leaf (r1, (([] : List YB), ()), ((8 : Int), ()))))) (
 .br (decide ((a0.2.2.2.2.2.2.2.2.2.2.2.2.2.2.1.length : Int) > (0 : Int))) (
 .br (a2.2.2.2.2.2.2.2.1 == (i64.wrap (a0.2.2.1 + (1 : Int)))) (
 .ob (K4 ((i64.wrap (a0.2.2.1 + (1 : Int))), ()) (a0.2.2.2.2.2.2.2.2.2.2.2.2.2.2.1, ())) fun r12 =>
 .ob (I9 r12 ((i64.wrap ((1 : Int) - a0.1)), ()) a2) fun r13 =>
 .br (r13.2.2.1 != (0 : Int)) (
 .leaf (r1, (([] : List YB), ()), r13.2.2)) (
 .leaf ((r1.1, r1.2.1, r13.1.1, r13.1.2.1, r13.1.2.2.1, r13.1.2.2.2.1, r13.1.2.2.2.2.1, r1.2.2.1, r1.2.2.2.1, r1.2.2.2.2.1, r1.2.2.2.2.2.1, r1.2.2.2.2.2.2.1, true, (i64.wrap (a1.1 + (5 : Int))), ([] : List YB), ()), r13.2.1, ((0 : Int), ())))) (
 .leaf (r1, (([] : List YB), ()), ((8 : Int), ())))) (
 .leaf (r1, (([] : List YB), ()), ((8 : Int), ()))))))))))
def Hx (a0 : Ak) (a1 : YI) (a2 : Av) : Option (Ak × YBs × YI) := (R7 a0 a1 a2).val
def Ai0 (a0 : Ak) (a1 : YI) : Tree (YBs × (Bool × Unit)) :=
 .ob (G4 a0) fun r1 =>
 .br (!r1.1) (
 .leaf ((([] : List YB), ()), (false, ()))) (
 .br a0.2.2.2.2.2.2.2.2.2.2.2.2.1 (
 .br (a1.1 == a0.2.2.2.2.2.2.2.1) (
 .chk (decide (([] : List YB).length + a0.2.2.2.2.2.2.2.2.1.length ≤ 4294967296)) <|
 .leaf (((([] : List YB) ++ a0.2.2.2.2.2.2.2.2.1), ()), (true, ()))) (
 .br (a1.1 == a0.2.2.1) (
 .chk (decide (([] : List YB).length + a0.2.2.2.1.length ≤ 4294967296)) <|
 .leaf (((([] : List YB) ++ a0.2.2.2.1), ()), (true, ()))) (
 .br (decide ((a0.2.2.2.2.2.2.2.2.2.2.2.2.2.2.1.length : Int) > (0 : Int))) (
 .br (a1.1 == (i64.wrap (a0.2.2.1 + (1 : Int)))) (
 .chk (decide (([] : List YB).length + a0.2.2.2.2.2.2.2.2.2.2.2.2.2.2.1.length ≤ 4294967296)) <|
 .leaf (((([] : List YB) ++ a0.2.2.2.2.2.2.2.2.2.2.2.2.2.2.1), ()), (true, ()))) (
 .leaf ((([] : List YB), ()), (false, ())))) (
 .leaf ((([] : List YB), ()), (false, ())))))) (
 .br (a1.1 == a0.2.2.1) (
 .chk (decide (([] : List YB).length + a0.2.2.2.1.length ≤ 4294967296)) <|
 .leaf (((([] : List YB) ++ a0.2.2.2.1), ()), (true, ()))) (
 .br (decide ((a0.2.2.2.2.2.2.2.2.2.2.2.2.2.2.1.length : Int) > (0 : Int))) (
 .br (a1.1 == (i64.wrap (a0.2.2.1 + (1 : Int)))) (
 .chk (decide (([] : List YB).length + a0.2.2.2.2.2.2.2.2.2.2.2.2.2.2.1.length ≤ 4294967296)) <|
 .leaf (((([] : List YB) ++ a0.2.2.2.2.2.2.2.2.2.2.2.2.2.2.1), ()), (true, ()))) (
 .leaf ((([] : List YB), ()), (false, ())))) (
 .leaf ((([] : List YB), ()), (false, ()))))))
def Xp (a0 : Ak) (a1 : YI) : Option (YBs × (Bool × Unit)) := (Ai0 a0 a1).val
def Avm (a0 : YBs) (a1 : YBs) (a2 : YBs) : Tree (A5) :=
 .chk (decide (([] : List YB).length + a0.1.length ≤ 4294967296)) <|
 .chk (decide (([] : List YB).length + a1.1.length ≤ 4294967296)) <|
 .chk (decide (([] : List YB).length + a2.1.length ≤ 4294967296)) <|
 .leaf ((16 : Int), (0 : Int), (0 : Int), ([] : List YB), (([] : List YB) ++ a1.1), (0 : Int), (0 : Int), (([] : List YB) ++ a2.1), (([] : List YB) ++ a0.1), (0 : Int), (0 : Int), (0 : Int), ())
def Avn (a0 : YBs) (a1 : YBs) (a2 : YBs) : Option (A5) := (Avm a0 a1 a2).val
def Hy (x2 : Int × Int × Int × (List Aj) × Int × Int × Int × Int × (List YB) × Int × Unit) : Option ((Int × Int × Int × (List Aj) × Int × Int × Int × Int × (List YB) × Int × Unit) ⊕ ((Bool × Int × Int × (List YB) × Int × Unit) ⊕ Aj)) :=
 Tree.val (α := (Int × Int × Int × (List Aj) × Int × Int × Int × Int × (List YB) × Int × Unit) ⊕ ((Bool × Int × Int × (List YB) × Int × Unit) ⊕ Aj)) <|
 .br (decide (x2.1 < (x2.2.2.2.1.length : Int))) (
 .ob (idx x2.2.2.2.1 x2.1) fun e3 =>
 .br (and (e3.1 == x2.2.2.2.2.1) (and (e3.2.1 == x2.2.2.2.2.2.1) true)) (
 .ob (idx x2.2.2.2.1 x2.1) fun e4 =>
 .ob (L9 e4) fun r5 =>
 .leaf (.inr (.inl (true, r5.1, r5.2.1, r5.2.2.1, r5.2.2.2.1, ())))) (
 .leaf (.inl ((i64.wrap (x2.1 + (1 : Int))), x2.2.1, x2.2.2.1, x2.2.2.2.1, x2.2.2.2.2.1, x2.2.2.2.2.2.1, x2.2.2.2.2.2.2.1, x2.2.2.2.2.2.2.2.1, x2.2.2.2.2.2.2.2.2.1, x2.2.2.2.2.2.2.2.2.2.1, ())))) (
 .leaf (.inr (.inr (x2.2.2.2.2.2.2.1, x2.2.2.2.2.2.2.2.1, x2.2.2.2.2.2.2.2.2.1, x2.2.2.2.2.2.2.2.2.2.1, ()))))
def R8 (a0 : A6) (a1 : B5) : Tree (Aj × (Bool × Unit)) :=
 .ob (Ma a0) fun r1 =>
 .br (!r1.1) (
 .leaf (((0 : Int), (0 : Int), ([] : List YB), (0 : Int), ()), (false, ()))) (
 .ob (Ay Hy ((0 : Int), a0.1, a0.2.1, a0.2.2.1, a1.1, a1.2.1, (0 : Int), (0 : Int), ([] : List YB), (0 : Int), ())) fun o6 =>
 .sm o6 (fun o7 =>
 .leaf ((o7.2.1, o7.2.2.1, o7.2.2.2.1, o7.2.2.2.2.1, ()), (o7.1, ()))) (fun o8 =>
 .leaf (((0 : Int), (0 : Int), ([] : List YB), (0 : Int), ()), (false, ()))))
def Ayc (a0 : A6) (a1 : B5) : Option (Aj × (Bool × Unit)) := (R8 a0 a1).val
def Hz (x8 : Int × Int × Int × (List Aj) × Int × Int × Int × Int × (List Aj) × Int × Int × (List Aj) × Unit) : Option ((Int × Int × Int × (List Aj) × Int × Int × Int × Int × (List Aj) × Int × Int × (List Aj) × Unit) ⊕ ((Int × Int × (List Aj) × Int × Int × (List Aj) × Unit))) :=
 Tree.val (α := (Int × Int × Int × (List Aj) × Int × Int × Int × Int × (List Aj) × Int × Int × (List Aj) × Unit) ⊕ ((Int × Int × (List Aj) × Int × Int × (List Aj) × Unit))) <|
 .br (decide (x8.1 < (x8.2.2.2.1.length : Int))) (
 .ob (idx x8.2.2.2.1 x8.1) fun e9 =>
 .br (!(and (e9.1 == x8.2.2.2.2.1) (and (e9.2.1 == x8.2.2.2.2.2.1) true))) (
 .ob (idx x8.2.2.2.1 x8.1) fun e10 =>
 .ob (L9 e10) fun r11 =>
 .chk (decide (x8.2.2.2.2.2.2.2.2.2.2.2.1.length + [r11].length ≤ 4294967296)) <|
 .leaf (.inl ((i64.wrap (x8.1 + (1 : Int))), x8.2.1, x8.2.2.1, x8.2.2.2.1, x8.2.2.2.2.1, x8.2.2.2.2.2.1, x8.2.2.2.2.2.2.1, x8.2.2.2.2.2.2.2.1, x8.2.2.2.2.2.2.2.2.1, x8.2.2.2.2.2.2.2.2.2.1, x8.2.2.2.2.2.2.2.2.2.2.1, (x8.2.2.2.2.2.2.2.2.2.2.2.1 ++ [r11]), ()))) (
 .leaf (.inl ((i64.wrap (x8.1 + (1 : Int))), x8.2.1, x8.2.2.1, x8.2.2.2.1, x8.2.2.2.2.1, x8.2.2.2.2.2.1, x8.2.2.2.2.2.2.1, x8.2.2.2.2.2.2.2.1, x8.2.2.2.2.2.2.2.2.1, x8.2.2.2.2.2.2.2.2.2.1, x8.2.2.2.2.2.2.2.2.2.2.1, x8.2.2.2.2.2.2.2.2.2.2.2.1, ())))) (
 .leaf (.inr (x8.2.2.2.2.2.2.1, x8.2.2.2.2.2.2.2.1, x8.2.2.2.2.2.2.2.2.1, x8.2.2.2.2.2.2.2.2.2.1, x8.2.2.2.2.2.2.2.2.2.2.1, x8.2.2.2.2.2.2.2.2.2.2.2.1, ())))
def R9 (a0 : A6) (a1 : YI) (a2 : B5) (a3 : YBs) : Tree (A6 × (Bool × Unit)) :=
 .ob (Ayc a0 a2) fun r1 =>
 .br (!r1.2.1) (
 .ob (Cu a0) fun r2 =>
 .leaf (r2, (false, ()))) (
 .ob (By a1 ((0 : Int), ()) ((1000000 : Int), ())) fun r3 =>
 .br (!r3.1) (
 .ob (Cu a0) fun r4 =>
 .leaf (r4, (false, ()))) (
 .ob (Ry (r1.1.2.2.1, ()) a3) fun r5 =>
 .br (!r5.1) (
 .ob (Cu a0) fun r6 =>
 .leaf (r6, (false, ()))) (
 .br (decide (a1.1 > r1.1.2.2.2.1)) (
 .ob (Cu a0) fun r7 =>
 .leaf (r7, (false, ()))) (
 .ob (Ay Hz ((0 : Int), a0.1, a0.2.1, a0.2.2.1, a2.1, a2.2.1, (0 : Int), (0 : Int), ([] : List Aj), a2.1, a2.2.1, ([] : List Aj), ())) fun o12 =>
 .leaf ((o12.2.2.2.1, o12.2.2.2.2.1, o12.2.2.2.2.2.1, ()), (true, ()))))))
def Xq (a0 : A6) (a1 : YI) (a2 : B5) (a3 : YBs) : Option (A6 × (Bool × Unit)) := (R9 a0 a1 a2 a3).val
def Wi (a0 : YI) : Tree (YBs) :=
 .ob (By a0 ((0 : Int), ()) ((4294967295 : Int), ())) fun r1 =>
 .br (!r1.1) (
 .leaf (([] : List YB), ())) (
 .ob (Gs (([] : List YB), ()) a0 ((4 : Int), ())) fun r2 =>
 .leaf r2)
def Qw (a0 : YI) : Option (YBs) := (Wi a0).val
def H0 (x2 : (List YB) × (List YB) × Int × (List YB) × (List YB) × Int × Unit) : Option (((List YB) × (List YB) × Int × (List YB) × (List YB) × Int × Unit) ⊕ ((Int × (List YB) × Unit))) :=
 Tree.val (α := ((List YB) × (List YB) × Int × (List YB) × (List YB) × Int × Unit) ⊕ ((Int × (List YB) × Unit))) <|
 .br (decide ((x2.2.2.2.1.length : Int) < x2.2.2.1)) (
 .chk (decide (([] : List YB).length + x2.2.2.2.2.1.length ≤ 4294967296)) <|
 .chk (decide ((([] : List YB) ++ x2.2.2.2.2.1).length + x2.2.1.length ≤ 4294967296)) <|
 .chk (decide (((([] : List YB) ++ x2.2.2.2.2.1) ++ x2.2.1).length + [((u8.wrap (x2.2.2.2.2.2.1)), ())].length ≤ 4294967296)) <|
 .ob (Zz (x2.1, ()) ((((([] : List YB) ++ x2.2.2.2.2.1) ++ x2.2.1) ++ [((u8.wrap (x2.2.2.2.2.2.1)), ())]), ())) fun r3 =>
 .chk (decide (x2.2.2.2.1.length + r3.1.length ≤ 4294967296)) <|
 .leaf (.inl (x2.1, x2.2.1, x2.2.2.1, (x2.2.2.2.1 ++ r3.1), r3.1, (i64.wrap (x2.2.2.2.2.2.1 + (1 : Int))), ()))) (
 .leaf (.inr (x2.2.2.1, x2.2.2.2.1, ())))
def Sa (a0 : YBs) (a1 : YBs) (a2 : YI) : Tree (YBs × (Bool × Unit)) :=
 .ob (By a2 ((0 : Int), ()) ((8160 : Int), ())) fun r1 =>
 .br (!r1.1) (
 .leaf ((([] : List YB), ()), (false, ()))) (
 .br (decide ((a1.1.length : Int) > (100 : Int))) (
 .leaf ((([] : List YB), ()), (false, ()))) (
 .br (decide ((a0.1.length : Int) > (1048576 : Int))) (
 .leaf ((([] : List YB), ()), (false, ()))) (
 .ob (Ay H0 (a0.1, a1.1, a2.1, ([] : List YB), ([] : List YB), (1 : Int), ())) fun o4 =>
 .chk (decide ((0 : Int) ≤ o4.1)) <|
 .chk (decide (o4.1 ≤ (o4.2.1.length : Int))) <|
 .chk (decide (([] : List YB).length + ((o4.2.1.take (o4.1).toNat).drop ((0 : Int)).toNat).length ≤ 4294967296)) <|
 .leaf (((([] : List YB) ++ ((o4.2.1.take (o4.1).toNat).drop ((0 : Int)).toNat)), ()), (true, ())))))
def Ai1 (a0 : YBs) (a1 : YBs) (a2 : YI) : Option (YBs × (Bool × Unit)) := (Sa a0 a1 a2).val
def Ai2 (a0 : YBs) (a1 : ByteArray × Unit) : Tree (YBs) :=
 .chk (decide (a1.1.size ≤ 4294967296)) <|
 .ob (Ai1 a0 ((Wj a1.1), ()) ((32 : Int), ())) fun r1 =>
 .leaf r1.1
def Xr (a0 : YBs) (a1 : ByteArray × Unit) : Option (YBs) := (Ai2 a0 a1).val
def Avo (a0 : Ak) : Tree (Ak × (Bool × Unit)) :=
 .ob (Fv a0) fun r1 =>
 .ob (G4 a0) fun r2 =>
 .br (!r2.1) (
 .leaf (r1, (false, ()))) (
 .br (a0.1 != (1 : Int)) (
 .leaf (r1, (false, ()))) (
 .br (a0.2.2.1 == (4294967295 : Int)) (
 .leaf (r1, (false, ()))) (
 .ob (Xr (a0.2.2.2.1, ()) ((Z1 [114, 101, 107, 101, 121]), ())) fun r3 =>
 .ob (K4 ((i64.wrap (a0.2.2.1 + (1 : Int))), ()) r3) fun r4 =>
 .leaf ((r1.1, r1.2.1, r4.1, r4.2.1, r4.2.2.1, r4.2.2.2.1, r4.2.2.2.2.1, r1.2.2.1, r1.2.2.2.1, r1.2.2.2.2.1, r1.2.2.2.2.2.1, r1.2.2.2.2.2.2.1, true, (-1 : Int), r1.2.2.2.2.2.2.2.2.2.2.2.2.2.2.1, ()), (true, ())))))
def Avp (a0 : Ak) : Option (Ak × (Bool × Unit)) := (Avo a0).val
def Wk (a0 : Ak) (a1 : YI) (a2 : YBs) : Tree (Ak × YI) :=
 .ob (Fv a0) fun r1 =>
 .ob (G4 a0) fun r2 =>
 .br (!r2.1) (
 .leaf (r1, ((6 : Int), ()))) (
 .br (a0.1 != (1 : Int)) (
 .leaf (r1, ((6 : Int), ()))) (
 .ob (By a1 ((0 : Int), ()) ((4294967294 : Int), ())) fun r3 =>
 .br (!r3.1) (
 .leaf (r1, ((6 : Int), ()))) (
 .ob (Qw ((i64.wrap (a1.1 + (1 : Int))), ())) fun r4 =>
 .ob (Ry a2 r4) fun r5 =>
 .br (!r5.1) (
 .leaf (r1, ((6 : Int), ()))) (
 .br (a1.1 == a0.2.2.1) (
 .ob (Avp a0) fun r6 =>
 .br (!r6.2.1) (
 .leaf (r1, ((6 : Int), ()))) (
 .leaf (r6.1, ((0 : Int), ())))) (
 .br (a1.1 == (i64.wrap (a0.2.2.1 - (1 : Int)))) (
 .leaf (r1, ((0 : Int), ()))) (
 .leaf (r1, ((6 : Int), ()))))))))
def Qx (a0 : Ak) (a1 : YI) (a2 : YBs) : Option (Ak × YI) := (Wk a0 a1 a2).val
def Lh (x5 : (List YB) × Int × Int × Int × Int × (List YB) × (List YB) × Int × (List YB) × (List YB) × Int × Int × (List YB) × (List YB) × Int × Int × (List YB) × (List YB) × Int × (List YB) × (List YB) × Int × Int × (List YB) × (List YB) × Unit) : Option (((List YB) × Int × Int × Int × Int × (List YB) × (List YB) × Int × (List YB) × (List YB) × Int × Int × (List YB) × (List YB) × Int × Int × (List YB) × (List YB) × Int × (List YB) × (List YB) × Int × Int × (List YB) × (List YB) × Unit) ⊕ (((List YB) × Int × Int × Int × (List YB) × (List YB) × Int × (List YB) × (List YB) × Int × Int × (List YB) × (List YB) × Int × Int × (List YB) × (List YB) × Int × (List YB) × (List YB) × Int × Int × (List YB) × (List YB) × Unit))) :=
 Tree.val (α := ((List YB) × Int × Int × Int × Int × (List YB) × (List YB) × Int × (List YB) × (List YB) × Int × Int × (List YB) × (List YB) × Int × Int × (List YB) × (List YB) × Int × (List YB) × (List YB) × Int × Int × (List YB) × (List YB) × Unit) ⊕ (((List YB) × Int × Int × Int × (List YB) × (List YB) × Int × (List YB) × (List YB) × Int × Int × (List YB) × (List YB) × Int × Int × (List YB) × (List YB) × Int × (List YB) × (List YB) × Int × Int × (List YB) × (List YB) × Unit))) <|
 .br (decide (x5.2.2.1 < (16 : Int))) (
 .chk (decide (x5.2.2.2.2.2.2.2.2.2.2.2.2.2.2.2.2.2.2.2.2.2.2.2.2.1.length + [((0 : Int), ())].length ≤ 4294967296)) <|
 .leaf (.inl (x5.1, x5.2.1, (i64.wrap (x5.2.2.1 + (1 : Int))), x5.2.2.2.1, x5.2.2.2.2.1, x5.2.2.2.2.2.1, x5.2.2.2.2.2.2.1, x5.2.2.2.2.2.2.2.1, x5.2.2.2.2.2.2.2.2.1, x5.2.2.2.2.2.2.2.2.2.1, x5.2.2.2.2.2.2.2.2.2.2.1, x5.2.2.2.2.2.2.2.2.2.2.2.1, x5.2.2.2.2.2.2.2.2.2.2.2.2.1, x5.2.2.2.2.2.2.2.2.2.2.2.2.2.1, x5.2.2.2.2.2.2.2.2.2.2.2.2.2.2.1, x5.2.2.2.2.2.2.2.2.2.2.2.2.2.2.2.1, x5.2.2.2.2.2.2.2.2.2.2.2.2.2.2.2.2.1, x5.2.2.2.2.2.2.2.2.2.2.2.2.2.2.2.2.2.1, x5.2.2.2.2.2.2.2.2.2.2.2.2.2.2.2.2.2.2.1, x5.2.2.2.2.2.2.2.2.2.2.2.2.2.2.2.2.2.2.2.1, x5.2.2.2.2.2.2.2.2.2.2.2.2.2.2.2.2.2.2.2.2.1, x5.2.2.2.2.2.2.2.2.2.2.2.2.2.2.2.2.2.2.2.2.2.1, x5.2.2.2.2.2.2.2.2.2.2.2.2.2.2.2.2.2.2.2.2.2.2.1, x5.2.2.2.2.2.2.2.2.2.2.2.2.2.2.2.2.2.2.2.2.2.2.2.1, (x5.2.2.2.2.2.2.2.2.2.2.2.2.2.2.2.2.2.2.2.2.2.2.2.2.1 ++ [((0 : Int), ())]), ()))) (
 .leaf (.inr (x5.1, x5.2.1, x5.2.2.2.1, x5.2.2.2.2.1, x5.2.2.2.2.2.1, x5.2.2.2.2.2.2.1, x5.2.2.2.2.2.2.2.1, x5.2.2.2.2.2.2.2.2.1, x5.2.2.2.2.2.2.2.2.2.1, x5.2.2.2.2.2.2.2.2.2.2.1, x5.2.2.2.2.2.2.2.2.2.2.2.1, x5.2.2.2.2.2.2.2.2.2.2.2.2.1, x5.2.2.2.2.2.2.2.2.2.2.2.2.2.1, x5.2.2.2.2.2.2.2.2.2.2.2.2.2.2.1, x5.2.2.2.2.2.2.2.2.2.2.2.2.2.2.2.1, x5.2.2.2.2.2.2.2.2.2.2.2.2.2.2.2.2.1, x5.2.2.2.2.2.2.2.2.2.2.2.2.2.2.2.2.2.1, x5.2.2.2.2.2.2.2.2.2.2.2.2.2.2.2.2.2.2.1, x5.2.2.2.2.2.2.2.2.2.2.2.2.2.2.2.2.2.2.2.1, x5.2.2.2.2.2.2.2.2.2.2.2.2.2.2.2.2.2.2.2.2.1, x5.2.2.2.2.2.2.2.2.2.2.2.2.2.2.2.2.2.2.2.2.2.1, x5.2.2.2.2.2.2.2.2.2.2.2.2.2.2.2.2.2.2.2.2.2.2.1, x5.2.2.2.2.2.2.2.2.2.2.2.2.2.2.2.2.2.2.2.2.2.2.2.1, x5.2.2.2.2.2.2.2.2.2.2.2.2.2.2.2.2.2.2.2.2.2.2.2.2.1, ())))
def Z2 (a0 : YBs) (a1 : YI) (a2 : YBs) (a3 : YI) (a4 : YI) (a5 : YI) (a6 : YBs) : Tree (Av × (Bool × Unit)) :=
 .ob (Oq a1 a2 a3 a4) fun r1 =>
 .br ((a0.1.length : Int) != (32 : Int)) (
 .leaf (((0 : Int), (0 : Int), ([] : List YB), ([] : List YB), (0 : Int), ([] : List YB), ([] : List YB), (0 : Int), (0 : Int), ([] : List YB), ([] : List YB), ()), (false, ()))) (
 .br ((r1.1.length : Int) == (0 : Int)) (
 .leaf (((0 : Int), (0 : Int), ([] : List YB), ([] : List YB), (0 : Int), ([] : List YB), ([] : List YB), (0 : Int), (0 : Int), ([] : List YB), ([] : List YB), ()), (false, ()))) (
 .ob (Le a5) fun r2 =>
 .br (!r2.1) (
 .leaf (((0 : Int), (0 : Int), ([] : List YB), ([] : List YB), (0 : Int), ([] : List YB), ([] : List YB), (0 : Int), (0 : Int), ([] : List YB), ([] : List YB), ()), (false, ()))) (
 .ob (Rz a5 ((a6.1.length : Int), ())) fun r3 =>
 .br (!r3.1) (
 .leaf (((0 : Int), (0 : Int), ([] : List YB), ([] : List YB), (0 : Int), ([] : List YB), ([] : List YB), (0 : Int), (0 : Int), ([] : List YB), ([] : List YB), ()), (false, ()))) (
 .chk (decide (([] : List YB).length + a2.1.length ≤ 4294967296)) <|
 .ob (Asm a0 r1 a6) fun r4 =>
 .ob (Ay Lh (a0.1, a1.1, (0 : Int), (0 : Int), (0 : Int), ([] : List YB), ([] : List YB), (0 : Int), ([] : List YB), ([] : List YB), (0 : Int), (0 : Int), ([] : List YB), ([] : List YB), a5.1, (0 : Int), ([] : List YB), (([] : List YB) ++ a2.1), (0 : Int), ([] : List YB), ([] : List YB), a3.1, a4.1, r4.1, ([] : List YB), ())) fun o6 =>
 .ob (Ht (o6.2.1, ()) (o6.2.2.2.2.2.2.2.2.2.2.2.2.2.1, o6.2.2.2.2.2.2.2.2.2.2.2.2.2.2.1, o6.2.2.2.2.2.2.2.2.2.2.2.2.2.2.2.1, o6.2.2.2.2.2.2.2.2.2.2.2.2.2.2.2.2.1, o6.2.2.2.2.2.2.2.2.2.2.2.2.2.2.2.2.2.1, o6.2.2.2.2.2.2.2.2.2.2.2.2.2.2.2.2.2.2.1, o6.2.2.2.2.2.2.2.2.2.2.2.2.2.2.2.2.2.2.2.1, o6.2.2.2.2.2.2.2.2.2.2.2.2.2.2.2.2.2.2.2.2.1, o6.2.2.2.2.2.2.2.2.2.2.2.2.2.2.2.2.2.2.2.2.2.1, o6.2.2.2.2.2.2.2.2.2.2.2.2.2.2.2.2.2.2.2.2.2.2.1, o6.2.2.2.2.2.2.2.2.2.2.2.2.2.2.2.2.2.2.2.2.2.2.2.1, ())) fun r7 =>
 .ob (Asl (o6.1, ()) r7) fun r8 =>
 .leaf ((o6.2.2.2.2.2.2.2.2.2.2.2.2.2.1, o6.2.2.2.2.2.2.2.2.2.2.2.2.2.2.1, o6.2.2.2.2.2.2.2.2.2.2.2.2.2.2.2.1, o6.2.2.2.2.2.2.2.2.2.2.2.2.2.2.2.2.1, o6.2.2.2.2.2.2.2.2.2.2.2.2.2.2.2.2.2.1, o6.2.2.2.2.2.2.2.2.2.2.2.2.2.2.2.2.2.2.1, o6.2.2.2.2.2.2.2.2.2.2.2.2.2.2.2.2.2.2.2.1, o6.2.2.2.2.2.2.2.2.2.2.2.2.2.2.2.2.2.2.2.2.1, o6.2.2.2.2.2.2.2.2.2.2.2.2.2.2.2.2.2.2.2.2.2.1, o6.2.2.2.2.2.2.2.2.2.2.2.2.2.2.2.2.2.2.2.2.2.2.1, r8.1, ()), (true, ()))))))
def Ai3 (a0 : YBs) (a1 : YI) (a2 : YBs) (a3 : YI) (a4 : YI) (a5 : YI) (a6 : YBs) : Option (Av × (Bool × Unit)) := (Z2 a0 a1 a2 a3 a4 a5 a6).val
def Ai4 (a0 : YEp) (a1 : YI) (a2 : YBs) (a3 : YI) (a4 : YBs) : Tree (YEp × Av × YI) :=
 .ob (Om a0) fun r1 =>
 .ob (Q5 a0) fun r2 =>
 .br (!r2.1) (
 .leaf (r1, ((0 : Int), (0 : Int), ([] : List YB), ([] : List YB), (0 : Int), ([] : List YB), ([] : List YB), (0 : Int), (0 : Int), ([] : List YB), ([] : List YB), ()), ((1 : Int), ()))) (
 .ob (Oq a1 a2 (a0.1, ()) ((0 : Int), ())) fun r3 =>
 .br ((r3.1.length : Int) == (0 : Int)) (
 .leaf (r1, ((0 : Int), (0 : Int), ([] : List YB), ([] : List YB), (0 : Int), ([] : List YB), ([] : List YB), (0 : Int), (0 : Int), ([] : List YB), ([] : List YB), ()), ((1 : Int), ()))) (
 .ob (Le a3) fun r4 =>
 .br (!r4.1) (
 .leaf (r1, ((0 : Int), (0 : Int), ([] : List YB), ([] : List YB), (0 : Int), ([] : List YB), ([] : List YB), (0 : Int), (0 : Int), ([] : List YB), ([] : List YB), ()), ((1 : Int), ()))) (
 .ob (Rz a3 ((a4.1.length : Int), ())) fun r5 =>
 .br (!r5.1) (
 .leaf (r1, ((0 : Int), (0 : Int), ([] : List YB), ([] : List YB), (0 : Int), ([] : List YB), ([] : List YB), (0 : Int), (0 : Int), ([] : List YB), ([] : List YB), ()), ((1 : Int), ()))) (
 .br (a3.1 == (4 : Int)) (
 .br (decide (a0.2.2.1 ≥ (281474976709656 : Int))) (
 .leaf (r1, ((0 : Int), (0 : Int), ([] : List YB), ([] : List YB), (0 : Int), ([] : List YB), ([] : List YB), (0 : Int), (0 : Int), ([] : List YB), ([] : List YB), ()), ((4 : Int), ()))) (
 .br (a0.2.2.1 == (281474976710656 : Int)) (
 .leaf (r1, ((0 : Int), (0 : Int), ([] : List YB), ([] : List YB), (0 : Int), ([] : List YB), ([] : List YB), (0 : Int), (0 : Int), ([] : List YB), ([] : List YB), ()), ((5 : Int), ()))) (
 .ob (Ai3 (a0.2.1, ()) a1 a2 (a0.1, ()) (a0.2.2.1, ()) a3 a4) fun r6 =>
 .leaf ((r1.1, r1.2.1, (i64.wrap (a0.2.2.1 + (1 : Int))), r1.2.2.2.1, r1.2.2.2.2.1, ()), r6.1, ((0 : Int), ()))))) (
 .br (a0.2.2.1 == (281474976710656 : Int)) (
 .leaf (r1, ((0 : Int), (0 : Int), ([] : List YB), ([] : List YB), (0 : Int), ([] : List YB), ([] : List YB), (0 : Int), (0 : Int), ([] : List YB), ([] : List YB), ()), ((5 : Int), ()))) (
 .ob (Ai3 (a0.2.1, ()) a1 a2 (a0.1, ()) (a0.2.2.1, ()) a3 a4) fun r7 =>
 .leaf ((r1.1, r1.2.1, (i64.wrap (a0.2.2.1 + (1 : Int))), r1.2.2.2.1, r1.2.2.2.2.1, ()), r7.1, ((0 : Int), ()))))))))
def Ai5 (a0 : YEp) (a1 : YI) (a2 : YBs) (a3 : YI) (a4 : YBs) : Option (YEp × Av × YI) := (Ai4 a0 a1 a2 a3 a4).val
def Z3 (a0 : Ak) (a1 : YI) (a2 : YBs) : Tree (Ak × Av × YI) :=
 .ob (Fv a0) fun r1 =>
 .ob (G4 a0) fun r2 =>
 .br (!r2.1) (
 .leaf (r1, ((0 : Int), (0 : Int), ([] : List YB), ([] : List YB), (0 : Int), ([] : List YB), ([] : List YB), (0 : Int), (0 : Int), ([] : List YB), ([] : List YB), ()), ((1 : Int), ()))) (
 .ob (Ai5 (a0.2.2.1, a0.2.2.2.1, a0.2.2.2.2.1, a0.2.2.2.2.2.1, a0.2.2.2.2.2.2.1, ()) (a0.1, ()) (a0.2.1, ()) a1 a2) fun r3 =>
 .br (r3.2.2.1 == (0 : Int)) (
 .leaf ((r1.1, r1.2.1, r3.1.1, r3.1.2.1, r3.1.2.2.1, r3.1.2.2.2.1, r3.1.2.2.2.2.1, r1.2.2.2.2.2.2.2.1, r1.2.2.2.2.2.2.2.2.1, r1.2.2.2.2.2.2.2.2.2.1, r1.2.2.2.2.2.2.2.2.2.2.1, r1.2.2.2.2.2.2.2.2.2.2.2.1, r1.2.2.2.2.2.2.2.2.2.2.2.2.1, r1.2.2.2.2.2.2.2.2.2.2.2.2.2.1, r1.2.2.2.2.2.2.2.2.2.2.2.2.2.2.1, ()), r3.2.1, r3.2.2)) (
 .leaf (r1, r3.2.1, r3.2.2)))
def Cc (a0 : Ak) (a1 : YI) (a2 : YBs) : Option (Ak × Av × YI) := (Z3 a0 a1 a2).val
def A2r (a0 : Ak) : Tree (Ak × Av × YI) :=
 .ob (G4 a0) fun r1 =>
 .br (!r1.1) (
 .ob (Fv a0) fun r2 =>
 .leaf (r2, ((0 : Int), (0 : Int), ([] : List YB), ([] : List YB), (0 : Int), ([] : List YB), ([] : List YB), (0 : Int), (0 : Int), ([] : List YB), ([] : List YB), ()), ((6 : Int), ()))) (
 .br (a0.1 != (1 : Int)) (
 .ob (Fv a0) fun r3 =>
 .leaf (r3, ((0 : Int), (0 : Int), ([] : List YB), ([] : List YB), (0 : Int), ([] : List YB), ([] : List YB), (0 : Int), (0 : Int), ([] : List YB), ([] : List YB), ()), ((6 : Int), ()))) (
 .ob (Qw (a0.2.2.1, ())) fun r4 =>
 .ob (Cc a0 ((8 : Int), ()) r4) fun r5 =>
 .leaf (r5.1, r5.2.1, r5.2.2)))
def Asn (a0 : Ak) : Option (Ak × Av × YI) := (A2r a0).val
def Avq (a0 : YBs) (a1 : YBs) : Tree (A5) :=
 .chk (decide (([] : List YB).length + a0.1.length ≤ 4294967296)) <|
 .chk (decide (([] : List YB).length + a1.1.length ≤ 4294967296)) <|
 .leaf ((15 : Int), (0 : Int), (0 : Int), ([] : List YB), ([] : List YB), (0 : Int), (0 : Int), (([] : List YB) ++ a1.1), (([] : List YB) ++ a0.1), (0 : Int), (0 : Int), (0 : Int), ())
def Avr (a0 : YBs) (a1 : YBs) : Option (A5) := (Avq a0 a1).val
def Aed (a0 : Ak) (a1 : Av) : Tree (A5) :=
 .ob (Ht (a0.1, ()) a1) fun r1 =>
 .ob (Avr (a0.2.2.2.1, ()) r1) fun r2 =>
 .leaf r2
def Ey (a0 : Ak) (a1 : Av) : Option (A5) := (Aed a0 a1).val
def Fp (x5 : Int × Int × Int × Int × (List Aj) × Int × Int × (List Aj) × Int × Int × (List Aj) × Unit) : Option ((Int × Int × Int × Int × (List Aj) × Int × Int × (List Aj) × Int × Int × (List Aj) × Unit) ⊕ ((Int × Int × (List Aj) × Int × Int × (List Aj) × Unit))) :=
 Tree.val (α := (Int × Int × Int × Int × (List Aj) × Int × Int × (List Aj) × Int × Int × (List Aj) × Unit) ⊕ ((Int × Int × (List Aj) × Int × Int × (List Aj) × Unit))) <|
 .br (decide (x5.2.1 < (x5.2.2.2.2.1.length : Int))) (
 .ob (idx x5.2.2.2.2.1 x5.2.1) fun e6 =>
 .br (decide (e6.2.2.2.1 ≥ x5.1)) (
 .ob (idx x5.2.2.2.2.1 x5.2.1) fun e7 =>
 .ob (L9 e7) fun r8 =>
 .chk (decide (x5.2.2.2.2.2.2.2.2.2.2.1.length + [r8].length ≤ 4294967296)) <|
 .leaf (.inl (x5.1, (i64.wrap (x5.2.1 + (1 : Int))), x5.2.2.1, x5.2.2.2.1, x5.2.2.2.2.1, x5.2.2.2.2.2.1, x5.2.2.2.2.2.2.1, x5.2.2.2.2.2.2.2.1, x5.2.2.2.2.2.2.2.2.1, x5.2.2.2.2.2.2.2.2.2.1, (x5.2.2.2.2.2.2.2.2.2.2.1 ++ [r8]), ()))) (
 .leaf (.inl (x5.1, (i64.wrap (x5.2.1 + (1 : Int))), x5.2.2.1, x5.2.2.2.1, x5.2.2.2.2.1, x5.2.2.2.2.2.1, x5.2.2.2.2.2.2.1, x5.2.2.2.2.2.2.2.1, x5.2.2.2.2.2.2.2.2.1, x5.2.2.2.2.2.2.2.2.2.1, x5.2.2.2.2.2.2.2.2.2.2.1, ())))) (
 .leaf (.inr (x5.2.2.2.2.2.1, x5.2.2.2.2.2.2.1, x5.2.2.2.2.2.2.2.1, x5.2.2.2.2.2.2.2.2.1, x5.2.2.2.2.2.2.2.2.2.1, x5.2.2.2.2.2.2.2.2.2.2.1, ())))
def M9 (a0 : A6) (a1 : YI) : Tree (A6) :=
 .ob (Ma a0) fun r1 =>
 .br (!r1.1) (
 .ob (Cu a0) fun r2 =>
 .leaf r2) (
 .ob (By a1 ((0 : Int), ()) ((1000000 : Int), ())) fun r3 =>
 .br (!r3.1) (
 .ob (Cu a0) fun r4 =>
 .leaf r4) (
 .ob (Ay Fp (a1.1, (0 : Int), a0.1, a0.2.1, a0.2.2.1, (0 : Int), (0 : Int), ([] : List Aj), a0.1, a0.2.1, ([] : List Aj), ())) fun o9 =>
 .leaf (o9.2.2.2.1, o9.2.2.2.2.1, o9.2.2.2.2.2.1, ())))
def Z4 (a0 : A6) (a1 : YI) : Option (A6) := (M9 a0 a1).val
def Jt (x10 : Int × (List YB) × Int × Int × Int × (List Aj) × Int × Int × Int × Int × (List Aj) × Int × Int × (List Aj) × Unit) : Option ((Int × (List YB) × Int × Int × Int × (List Aj) × Int × Int × Int × Int × (List Aj) × Int × Int × (List Aj) × Unit) ⊕ ((Bool × Int × Int × (List Aj) × Unit) ⊕ (Int × (List YB) × Int × Int × (List Aj) × Int × Int × Int × Int × (List Aj) × Int × Int × (List Aj) × Unit))) :=
 Tree.val (α := (Int × (List YB) × Int × Int × Int × (List Aj) × Int × Int × Int × Int × (List Aj) × Int × Int × (List Aj) × Unit) ⊕ ((Bool × Int × Int × (List Aj) × Unit) ⊕ (Int × (List YB) × Int × Int × (List Aj) × Int × Int × Int × Int × (List Aj) × Int × Int × (List Aj) × Unit))) <|
 .br (decide (x10.2.2.1 < (x10.2.2.2.2.2.2.2.2.2.2.2.2.2.1.length : Int))) (
 .ob (idx x10.2.2.2.2.2.2.2.2.2.2.2.2.2.1 x10.2.2.1) fun e11 =>
 .br (and (e11.1 == x10.2.2.2.2.2.2.1) (and (e11.2.1 == x10.2.2.2.2.2.2.2.1) true)) (
 .ob (Cu (x10.2.2.2.1, x10.2.2.2.2.1, x10.2.2.2.2.2.1, ())) fun r12 =>
 .leaf (.inr (.inl (false, r12.1, r12.2.1, r12.2.2.1, ())))) (
 .leaf (.inl (x10.1, x10.2.1, (i64.wrap (x10.2.2.1 + (1 : Int))), x10.2.2.2.1, x10.2.2.2.2.1, x10.2.2.2.2.2.1, x10.2.2.2.2.2.2.1, x10.2.2.2.2.2.2.2.1, x10.2.2.2.2.2.2.2.2.1, x10.2.2.2.2.2.2.2.2.2.1, x10.2.2.2.2.2.2.2.2.2.2.1, x10.2.2.2.2.2.2.2.2.2.2.2.1, x10.2.2.2.2.2.2.2.2.2.2.2.2.1, x10.2.2.2.2.2.2.2.2.2.2.2.2.2.1, ())))) (
 .leaf (.inr (.inr (x10.1, x10.2.1, x10.2.2.2.1, x10.2.2.2.2.1, x10.2.2.2.2.2.1, x10.2.2.2.2.2.2.1, x10.2.2.2.2.2.2.2.1, x10.2.2.2.2.2.2.2.2.1, x10.2.2.2.2.2.2.2.2.2.1, x10.2.2.2.2.2.2.2.2.2.2.1, x10.2.2.2.2.2.2.2.2.2.2.2.1, x10.2.2.2.2.2.2.2.2.2.2.2.2.1, x10.2.2.2.2.2.2.2.2.2.2.2.2.2.1, ()))))
def Vx (a0 : A6) (a1 : YI) (a2 : B5) (a3 : YBs) : Tree (A6 × (Bool × Unit)) :=
 .ob (Ma a0) fun r1 =>
 .br (!r1.1) (
 .ob (Cu a0) fun r2 =>
 .leaf (r2, (false, ()))) (
 .ob (By a1 ((0 : Int), ()) ((1000000 : Int), ())) fun r3 =>
 .br (!r3.1) (
 .ob (Cu a0) fun r4 =>
 .leaf (r4, (false, ()))) (
 .ob (On a2) fun r5 =>
 .br (!r5.1) (
 .ob (Cu a0) fun r6 =>
 .leaf (r6, (false, ()))) (
 .br ((a3.1.length : Int) != (12 : Int)) (
 .ob (Cu a0) fun r7 =>
 .leaf (r7, (false, ()))) (
 .br (and (a2.1 == a0.1) (and (a2.2.1 == a0.2.1) true)) (
 .ob (Cu a0) fun r8 =>
 .leaf (r8, (false, ()))) (
 .ob (Z4 a0 a1) fun r9 =>
 .ob (Ay Jt (a1.1, a3.1, (0 : Int), a0.1, a0.2.1, a0.2.2.1, a2.1, a2.2.1, (0 : Int), (0 : Int), ([] : List Aj), r9.1, r9.2.1, r9.2.2.1, ())) fun o13 =>
 .sm o13 (fun o14 =>
 .leaf ((o14.2.1, o14.2.2.1, o14.2.2.2.1, ()), (o14.1, ()))) (fun o15 =>
 .br ((o15.2.2.2.2.2.2.2.2.2.2.2.2.1.length : Int) == (3 : Int)) (
 .ob (Cu (o15.2.2.1, o15.2.2.2.1, o15.2.2.2.2.1, ())) fun r16 =>
 .leaf (r16, (false, ()))) (
 .chk (decide (([] : List YB).length + o15.2.1.length ≤ 4294967296)) <|
 .chk (decide (o15.2.2.2.2.2.2.2.2.2.2.2.2.1.length + [(o15.2.2.2.2.2.1, o15.2.2.2.2.2.2.1, (([] : List YB) ++ o15.2.1), (i64.wrap (o15.1 + (6 : Int))), ())].length ≤ 4294967296)) <|
 .leaf ((o15.2.2.2.2.2.2.2.2.2.2.1, o15.2.2.2.2.2.2.2.2.2.2.2.1, (o15.2.2.2.2.2.2.2.2.2.2.2.2.1 ++ [(o15.2.2.2.2.2.1, o15.2.2.2.2.2.2.1, (([] : List YB) ++ o15.2.1), (i64.wrap (o15.1 + (6 : Int))), ())]), ()), (true, ())))))))))
def Dh (a0 : A6) (a1 : YI) (a2 : B5) (a3 : YBs) : Option (A6 × (Bool × Unit)) := (Vx a0 a1 a2 a3).val
def Aga (r7 : A5) (r17 : A5) (r1 : Bi) (r16 : Ak × Av × YI) (r15 : A6 × (Bool × Unit)) (a1 : YI) (a2 : B5) : Tree (Bi × ((List Bg) × Unit) × ((List A5) × Unit) × (Bool × Unit)) :=
 .chk (decide ((([] : List A5) ++ [r7]).length + [r17].length ≤ 4294967296)) <|
 .leaf ((r1.1, r1.2.1, r1.2.2.1, r16.1.1, r16.1.2.1, r16.1.2.2.1, r16.1.2.2.2.1, r16.1.2.2.2.2.1, r16.1.2.2.2.2.2.1, r16.1.2.2.2.2.2.2.1, r16.1.2.2.2.2.2.2.2.1, r16.1.2.2.2.2.2.2.2.2.1, r16.1.2.2.2.2.2.2.2.2.2.1, r16.1.2.2.2.2.2.2.2.2.2.2.1, r16.1.2.2.2.2.2.2.2.2.2.2.2.1, r16.1.2.2.2.2.2.2.2.2.2.2.2.2.1, r16.1.2.2.2.2.2.2.2.2.2.2.2.2.2.1, r16.1.2.2.2.2.2.2.2.2.2.2.2.2.2.2.1, r15.1.1, r15.1.2.1, r15.1.2.2.1, r1.2.2.2.2.2.2.2.2.2.2.2.2.2.2.2.2.2.2.2.2.2.1, a1.1, r1.2.2.2.2.2.2.2.2.2.2.2.2.2.2.2.2.2.2.2.2.2.2.2.1, ()), ((([] : List Bg) ++ [(a2.1, a2.2.1, r16.2.1.1, r16.2.1.2.1, r16.2.1.2.2.1, r16.2.1.2.2.2.1, r16.2.1.2.2.2.2.1, r16.2.1.2.2.2.2.2.1, r16.2.1.2.2.2.2.2.2.1, r16.2.1.2.2.2.2.2.2.2.1, r16.2.1.2.2.2.2.2.2.2.2.1, r16.2.1.2.2.2.2.2.2.2.2.2.1, r16.2.1.2.2.2.2.2.2.2.2.2.2.1, ())]), ()), (((([] : List A5) ++ [r7]) ++ [r17]), ()), (true, ()))
def Agb (r16 : Ak × Av × YI) (r7 : A5) (r1 : Bi) (r15 : A6 × (Bool × Unit)) (a1 : YI) (a2 : B5) : Tree (Bi × ((List Bg) × Unit) × ((List A5) × Unit) × (Bool × Unit)) :=
 .ob (Ey r16.1 r16.2.1) fun r17 =>
 Aga r7 r17 r1 r16 r15 a1 a2
def T6 (a2 : B5) (r16 : Ak × Av × YI) (r7 : A5) (r1 : Bi) (r15 : A6 × (Bool × Unit)) (a1 : YI) : Tree (Bi × ((List Bg) × Unit) × ((List A5) × Unit) × (Bool × Unit)) :=
 .chk (decide (([] : List Bg).length + [(a2.1, a2.2.1, r16.2.1.1, r16.2.1.2.1, r16.2.1.2.2.1, r16.2.1.2.2.2.1, r16.2.1.2.2.2.2.1, r16.2.1.2.2.2.2.2.1, r16.2.1.2.2.2.2.2.2.1, r16.2.1.2.2.2.2.2.2.2.1, r16.2.1.2.2.2.2.2.2.2.2.1, r16.2.1.2.2.2.2.2.2.2.2.2.1, r16.2.1.2.2.2.2.2.2.2.2.2.2.1, ())].length ≤ 4294967296)) <|
 Agb r16 r7 r1 r15 a1 a2
def Agc (r16 : Ak × Av × YI) (r1 : Bi) (r4 : Ak × YBs × YI) (a1 : YI) (r7 : A5) (a2 : B5) (r15 : A6 × (Bool × Unit)) : Tree (Bi × ((List Bg) × Unit) × ((List A5) × Unit) × (Bool × Unit)) :=
 .br (r16.2.2.1 != (0 : Int)) (
 .leaf ((r1.1, r1.2.1, r1.2.2.1, r4.1.1, r4.1.2.1, r4.1.2.2.1, r4.1.2.2.2.1, r4.1.2.2.2.2.1, r4.1.2.2.2.2.2.1, r4.1.2.2.2.2.2.2.1, r4.1.2.2.2.2.2.2.2.1, r4.1.2.2.2.2.2.2.2.2.1, r4.1.2.2.2.2.2.2.2.2.2.1, r4.1.2.2.2.2.2.2.2.2.2.2.1, r4.1.2.2.2.2.2.2.2.2.2.2.2.1, r4.1.2.2.2.2.2.2.2.2.2.2.2.2.1, r4.1.2.2.2.2.2.2.2.2.2.2.2.2.2.1, r4.1.2.2.2.2.2.2.2.2.2.2.2.2.2.2.1, r1.2.2.2.2.2.2.2.2.2.2.2.2.2.2.2.2.2.2.1, r1.2.2.2.2.2.2.2.2.2.2.2.2.2.2.2.2.2.2.2.1, r1.2.2.2.2.2.2.2.2.2.2.2.2.2.2.2.2.2.2.2.2.1, r1.2.2.2.2.2.2.2.2.2.2.2.2.2.2.2.2.2.2.2.2.2.1, a1.1, r1.2.2.2.2.2.2.2.2.2.2.2.2.2.2.2.2.2.2.2.2.2.2.2.1, ()), (([] : List Bg), ()), ((([] : List A5) ++ [r7]), ()), (false, ()))) (
 T6 a2 r16 r7 r1 r15 a1)
def Agd (r15 : A6 × (Bool × Unit)) (r1 : Bi) (r4 : Ak × YBs × YI) (a1 : YI) (r7 : A5) (r16 : Ak × Av × YI) (a2 : B5) : Tree (Bi × ((List Bg) × Unit) × ((List A5) × Unit) × (Bool × Unit)) :=
 .br (!r15.2.1) (
 .leaf ((r1.1, r1.2.1, r1.2.2.1, r4.1.1, r4.1.2.1, r4.1.2.2.1, r4.1.2.2.2.1, r4.1.2.2.2.2.1, r4.1.2.2.2.2.2.1, r4.1.2.2.2.2.2.2.1, r4.1.2.2.2.2.2.2.2.1, r4.1.2.2.2.2.2.2.2.2.1, r4.1.2.2.2.2.2.2.2.2.2.1, r4.1.2.2.2.2.2.2.2.2.2.2.1, r4.1.2.2.2.2.2.2.2.2.2.2.2.1, r4.1.2.2.2.2.2.2.2.2.2.2.2.2.1, r4.1.2.2.2.2.2.2.2.2.2.2.2.2.2.1, r4.1.2.2.2.2.2.2.2.2.2.2.2.2.2.2.1, r1.2.2.2.2.2.2.2.2.2.2.2.2.2.2.2.2.2.2.1, r1.2.2.2.2.2.2.2.2.2.2.2.2.2.2.2.2.2.2.2.1, r1.2.2.2.2.2.2.2.2.2.2.2.2.2.2.2.2.2.2.2.2.1, r1.2.2.2.2.2.2.2.2.2.2.2.2.2.2.2.2.2.2.2.2.2.1, a1.1, r1.2.2.2.2.2.2.2.2.2.2.2.2.2.2.2.2.2.2.2.2.2.2.2.1, ()), (([] : List Bg), ()), ((([] : List A5) ++ [r7]), ()), (false, ()))) (
 Agc r16 r1 r4 a1 r7 a2 r15)
def Age (r4 : Ak × YBs × YI) (a4 : YBs) (r15 : A6 × (Bool × Unit)) (r1 : Bi) (a1 : YI) (r7 : A5) (a2 : B5) : Tree (Bi × ((List Bg) × Unit) × ((List A5) × Unit) × (Bool × Unit)) :=
 .ob (Cc r4.1 ((5 : Int), ()) a4) fun r16 =>
 Agd r15 r1 r4 a1 r7 r16 a2
def Ou (r1 : Bi) (a1 : YI) (a2 : B5) (a4 : YBs) (r4 : Ak × YBs × YI) (r7 : A5) : Tree (Bi × ((List Bg) × Unit) × ((List A5) × Unit) × (Bool × Unit)) :=
 .ob (Dh (r1.2.2.2.2.2.2.2.2.2.2.2.2.2.2.2.2.2.2.1, r1.2.2.2.2.2.2.2.2.2.2.2.2.2.2.2.2.2.2.2.1, r1.2.2.2.2.2.2.2.2.2.2.2.2.2.2.2.2.2.2.2.2.1, ()) a1 a2 a4) fun r15 =>
 Age r4 a4 r15 r1 a1 r7 a2
def Z5 (a0 : Bi) (a1 : YI) (a2 : B5) (a3 : Av) (a4 : YBs) : Tree (Bi × ((List Bg) × Unit) × ((List A5) × Unit) × (Bool × Unit)) :=
 .ob (Ad4 a0) fun r1 =>
 .ob (Aip a0) fun r2 =>
 .br (!r2.1) (
 .leaf (r1, (([] : List Bg), ()), (([] : List A5), ()), (false, ()))) (
 .br a0.2.2.2.2.2.2.2.2.2.2.2.2.2.2.2.2.2.2.2.2.2.2.2.1 (
 .leaf (r1, (([] : List Bg), ()), (([] : List A5), ()), (false, ()))) (
 .ob (On a2) fun r3 =>
 .br (!r3.1) (
 .leaf (r1, (([] : List Bg), ()), (([] : List A5), ()), (false, ()))) (
 .ob (Hx (a0.2.2.2.1, a0.2.2.2.2.1, a0.2.2.2.2.2.1, a0.2.2.2.2.2.2.1, a0.2.2.2.2.2.2.2.1, a0.2.2.2.2.2.2.2.2.1, a0.2.2.2.2.2.2.2.2.2.1, a0.2.2.2.2.2.2.2.2.2.2.1, a0.2.2.2.2.2.2.2.2.2.2.2.1, a0.2.2.2.2.2.2.2.2.2.2.2.2.1, a0.2.2.2.2.2.2.2.2.2.2.2.2.2.1, a0.2.2.2.2.2.2.2.2.2.2.2.2.2.2.1, a0.2.2.2.2.2.2.2.2.2.2.2.2.2.2.2.1, a0.2.2.2.2.2.2.2.2.2.2.2.2.2.2.2.2.1, a0.2.2.2.2.2.2.2.2.2.2.2.2.2.2.2.2.2.1, ()) a1 a3) fun r4 =>
 .br (r4.2.2.1 != (0 : Int)) (
 .leaf (r1, (([] : List Bg), ()), (([] : List A5), ()), (false, ()))) (
 .ob (Xp (a0.2.2.2.1, a0.2.2.2.2.1, a0.2.2.2.2.2.1, a0.2.2.2.2.2.2.1, a0.2.2.2.2.2.2.2.1, a0.2.2.2.2.2.2.2.2.1, a0.2.2.2.2.2.2.2.2.2.1, a0.2.2.2.2.2.2.2.2.2.2.1, a0.2.2.2.2.2.2.2.2.2.2.2.1, a0.2.2.2.2.2.2.2.2.2.2.2.2.1, a0.2.2.2.2.2.2.2.2.2.2.2.2.2.1, a0.2.2.2.2.2.2.2.2.2.2.2.2.2.2.1, a0.2.2.2.2.2.2.2.2.2.2.2.2.2.2.2.1, a0.2.2.2.2.2.2.2.2.2.2.2.2.2.2.2.2.1, a0.2.2.2.2.2.2.2.2.2.2.2.2.2.2.2.2.2.1, ()) (a3.2.2.2.2.2.2.2.1, ())) fun r5 =>
 .ob (Ht ((0 : Int), ()) a3) fun r6 =>
 .ob (Avn r5.1 (a0.2.2.1, ()) r6) fun r7 =>
 .chk (decide (([] : List A5).length + [r7].length ≤ 4294967296)) <|
 .br (a3.1 == (4 : Int)) (
 .chk (decide (([] : List YB).length + a0.2.2.1.length ≤ 4294967296)) <|
 .chk (decide (([] : List YB).length + r4.2.1.1.length ≤ 4294967296)) <|
 .chk (decide ((([] : List A5) ++ [r7]).length + [((6 : Int), (0 : Int), (0 : Int), ([] : List YB), (([] : List YB) ++ a0.2.2.1), a3.2.2.2.2.2.2.2.1, a3.2.2.2.2.2.2.2.2.1, (([] : List YB) ++ r4.2.1.1), ([] : List YB), (0 : Int), (0 : Int), a1.1, ())].length ≤ 4294967296)) <|
 .ob (Dh (r1.2.2.2.2.2.2.2.2.2.2.2.2.2.2.2.2.2.2.1, r1.2.2.2.2.2.2.2.2.2.2.2.2.2.2.2.2.2.2.2.1, r1.2.2.2.2.2.2.2.2.2.2.2.2.2.2.2.2.2.2.2.2.1, ()) a1 a2 a4) fun r8 =>
 .ob (Cc r4.1 ((5 : Int), ()) a4) fun r9 =>
 .br (!r8.2.1) (
 .leaf ((r1.1, r1.2.1, r1.2.2.1, r4.1.1, r4.1.2.1, r4.1.2.2.1, r4.1.2.2.2.1, r4.1.2.2.2.2.1, r4.1.2.2.2.2.2.1, r4.1.2.2.2.2.2.2.1, r4.1.2.2.2.2.2.2.2.1, r4.1.2.2.2.2.2.2.2.2.1, r4.1.2.2.2.2.2.2.2.2.2.1, r4.1.2.2.2.2.2.2.2.2.2.2.1, r4.1.2.2.2.2.2.2.2.2.2.2.2.1, r4.1.2.2.2.2.2.2.2.2.2.2.2.2.1, r4.1.2.2.2.2.2.2.2.2.2.2.2.2.2.1, r4.1.2.2.2.2.2.2.2.2.2.2.2.2.2.2.1, r1.2.2.2.2.2.2.2.2.2.2.2.2.2.2.2.2.2.2.1, r1.2.2.2.2.2.2.2.2.2.2.2.2.2.2.2.2.2.2.2.1, r1.2.2.2.2.2.2.2.2.2.2.2.2.2.2.2.2.2.2.2.2.1, r1.2.2.2.2.2.2.2.2.2.2.2.2.2.2.2.2.2.2.2.2.2.1, a1.1, r1.2.2.2.2.2.2.2.2.2.2.2.2.2.2.2.2.2.2.2.2.2.2.2.1, ()), (([] : List Bg), ()), (((([] : List A5) ++ [r7]) ++ [((6 : Int), (0 : Int), (0 : Int), ([] : List YB), (([] : List YB) ++ a0.2.2.1), a3.2.2.2.2.2.2.2.1, a3.2.2.2.2.2.2.2.2.1, (([] : List YB) ++ r4.2.1.1), ([] : List YB), (0 : Int), (0 : Int), a1.1, ())]), ()), (false, ()))) (
 .br (r9.2.2.1 != (0 : Int)) (
 .leaf ((r1.1, r1.2.1, r1.2.2.1, r4.1.1, r4.1.2.1, r4.1.2.2.1, r4.1.2.2.2.1, r4.1.2.2.2.2.1, r4.1.2.2.2.2.2.1, r4.1.2.2.2.2.2.2.1, r4.1.2.2.2.2.2.2.2.1, r4.1.2.2.2.2.2.2.2.2.1, r4.1.2.2.2.2.2.2.2.2.2.1, r4.1.2.2.2.2.2.2.2.2.2.2.1, r4.1.2.2.2.2.2.2.2.2.2.2.2.1, r4.1.2.2.2.2.2.2.2.2.2.2.2.2.1, r4.1.2.2.2.2.2.2.2.2.2.2.2.2.2.1, r4.1.2.2.2.2.2.2.2.2.2.2.2.2.2.2.1, r1.2.2.2.2.2.2.2.2.2.2.2.2.2.2.2.2.2.2.1, r1.2.2.2.2.2.2.2.2.2.2.2.2.2.2.2.2.2.2.2.1, r1.2.2.2.2.2.2.2.2.2.2.2.2.2.2.2.2.2.2.2.2.1, r1.2.2.2.2.2.2.2.2.2.2.2.2.2.2.2.2.2.2.2.2.2.1, a1.1, r1.2.2.2.2.2.2.2.2.2.2.2.2.2.2.2.2.2.2.2.2.2.2.2.1, ()), (([] : List Bg), ()), (((([] : List A5) ++ [r7]) ++ [((6 : Int), (0 : Int), (0 : Int), ([] : List YB), (([] : List YB) ++ a0.2.2.1), a3.2.2.2.2.2.2.2.1, a3.2.2.2.2.2.2.2.2.1, (([] : List YB) ++ r4.2.1.1), ([] : List YB), (0 : Int), (0 : Int), a1.1, ())]), ()), (false, ()))) (
 .chk (decide (([] : List Bg).length + [(a2.1, a2.2.1, r9.2.1.1, r9.2.1.2.1, r9.2.1.2.2.1, r9.2.1.2.2.2.1, r9.2.1.2.2.2.2.1, r9.2.1.2.2.2.2.2.1, r9.2.1.2.2.2.2.2.2.1, r9.2.1.2.2.2.2.2.2.2.1, r9.2.1.2.2.2.2.2.2.2.2.1, r9.2.1.2.2.2.2.2.2.2.2.2.1, r9.2.1.2.2.2.2.2.2.2.2.2.2.1, ())].length ≤ 4294967296)) <|
 .ob (Ey r9.1 r9.2.1) fun r10 =>
 .chk (decide (((([] : List A5) ++ [r7]) ++ [((6 : Int), (0 : Int), (0 : Int), ([] : List YB), (([] : List YB) ++ a0.2.2.1), a3.2.2.2.2.2.2.2.1, a3.2.2.2.2.2.2.2.2.1, (([] : List YB) ++ r4.2.1.1), ([] : List YB), (0 : Int), (0 : Int), a1.1, ())]).length + [r10].length ≤ 4294967296)) <|
 .leaf ((r1.1, r1.2.1, r1.2.2.1, r9.1.1, r9.1.2.1, r9.1.2.2.1, r9.1.2.2.2.1, r9.1.2.2.2.2.1, r9.1.2.2.2.2.2.1, r9.1.2.2.2.2.2.2.1, r9.1.2.2.2.2.2.2.2.1, r9.1.2.2.2.2.2.2.2.2.1, r9.1.2.2.2.2.2.2.2.2.2.1, r9.1.2.2.2.2.2.2.2.2.2.2.1, r9.1.2.2.2.2.2.2.2.2.2.2.2.1, r9.1.2.2.2.2.2.2.2.2.2.2.2.2.1, r9.1.2.2.2.2.2.2.2.2.2.2.2.2.2.1, r9.1.2.2.2.2.2.2.2.2.2.2.2.2.2.2.1, r8.1.1, r8.1.2.1, r8.1.2.2.1, r1.2.2.2.2.2.2.2.2.2.2.2.2.2.2.2.2.2.2.2.2.2.1, a1.1, r1.2.2.2.2.2.2.2.2.2.2.2.2.2.2.2.2.2.2.2.2.2.2.2.1, ()), ((([] : List Bg) ++ [(a2.1, a2.2.1, r9.2.1.1, r9.2.1.2.1, r9.2.1.2.2.1, r9.2.1.2.2.2.1, r9.2.1.2.2.2.2.1, r9.2.1.2.2.2.2.2.1, r9.2.1.2.2.2.2.2.2.1, r9.2.1.2.2.2.2.2.2.2.1, r9.2.1.2.2.2.2.2.2.2.2.1, r9.2.1.2.2.2.2.2.2.2.2.2.1, r9.2.1.2.2.2.2.2.2.2.2.2.2.1, ())]), ()), ((((([] : List A5) ++ [r7]) ++ [((6 : Int), (0 : Int), (0 : Int), ([] : List YB), (([] : List YB) ++ a0.2.2.1), a3.2.2.2.2.2.2.2.1, a3.2.2.2.2.2.2.2.2.1, (([] : List YB) ++ r4.2.1.1), ([] : List YB), (0 : Int), (0 : Int), a1.1, ())]) ++ [r10]), ()), (true, ()))))) (
 .br (a3.1 == (6 : Int)) (
 .ob (Xq (r1.2.2.2.2.2.2.2.2.2.2.2.2.2.2.2.2.2.2.1, r1.2.2.2.2.2.2.2.2.2.2.2.2.2.2.2.2.2.2.2.1, r1.2.2.2.2.2.2.2.2.2.2.2.2.2.2.2.2.2.2.2.2.1, ()) a1 a2 r4.2.1) fun r11 =>
 .br r11.2.1 (
 .chk (decide (([] : List YB).length + a0.2.2.1.length ≤ 4294967296)) <|
 .chk (decide (([] : List YB).length + r4.2.1.1.length ≤ 4294967296)) <|
 .chk (decide ((([] : List A5) ++ [r7]).length + [((9 : Int), (0 : Int), (0 : Int), ([] : List YB), (([] : List YB) ++ a0.2.2.1), (0 : Int), (0 : Int), (([] : List YB) ++ r4.2.1.1), ([] : List YB), a2.1, a2.2.1, a1.1, ())].length ≤ 4294967296)) <|
 .ob (Dh r11.1 a1 a2 a4) fun r12 =>
 .ob (Cc r4.1 ((5 : Int), ()) a4) fun r13 =>
 .br (!r12.2.1) (
 .leaf ((r1.1, r1.2.1, r1.2.2.1, r4.1.1, r4.1.2.1, r4.1.2.2.1, r4.1.2.2.2.1, r4.1.2.2.2.2.1, r4.1.2.2.2.2.2.1, r4.1.2.2.2.2.2.2.1, r4.1.2.2.2.2.2.2.2.1, r4.1.2.2.2.2.2.2.2.2.1, r4.1.2.2.2.2.2.2.2.2.2.1, r4.1.2.2.2.2.2.2.2.2.2.2.1, r4.1.2.2.2.2.2.2.2.2.2.2.2.1, r4.1.2.2.2.2.2.2.2.2.2.2.2.2.1, r4.1.2.2.2.2.2.2.2.2.2.2.2.2.2.1, r4.1.2.2.2.2.2.2.2.2.2.2.2.2.2.2.1, r11.1.1, r11.1.2.1, r11.1.2.2.1, r1.2.2.2.2.2.2.2.2.2.2.2.2.2.2.2.2.2.2.2.2.2.1, a1.1, r1.2.2.2.2.2.2.2.2.2.2.2.2.2.2.2.2.2.2.2.2.2.2.2.1, ()), (([] : List Bg), ()), (((([] : List A5) ++ [r7]) ++ [((9 : Int), (0 : Int), (0 : Int), ([] : List YB), (([] : List YB) ++ a0.2.2.1), (0 : Int), (0 : Int), (([] : List YB) ++ r4.2.1.1), ([] : List YB), a2.1, a2.2.1, a1.1, ())]), ()), (false, ()))) (
 .br (r13.2.2.1 != (0 : Int)) (
 .leaf ((r1.1, r1.2.1, r1.2.2.1, r4.1.1, r4.1.2.1, r4.1.2.2.1, r4.1.2.2.2.1, r4.1.2.2.2.2.1, r4.1.2.2.2.2.2.1, r4.1.2.2.2.2.2.2.1, r4.1.2.2.2.2.2.2.2.1, r4.1.2.2.2.2.2.2.2.2.1, r4.1.2.2.2.2.2.2.2.2.2.1, r4.1.2.2.2.2.2.2.2.2.2.2.1, r4.1.2.2.2.2.2.2.2.2.2.2.2.1, r4.1.2.2.2.2.2.2.2.2.2.2.2.2.1, r4.1.2.2.2.2.2.2.2.2.2.2.2.2.2.1, r4.1.2.2.2.2.2.2.2.2.2.2.2.2.2.2.1, r11.1.1, r11.1.2.1, r11.1.2.2.1, r1.2.2.2.2.2.2.2.2.2.2.2.2.2.2.2.2.2.2.2.2.2.1, a1.1, r1.2.2.2.2.2.2.2.2.2.2.2.2.2.2.2.2.2.2.2.2.2.2.2.1, ()), (([] : List Bg), ()), (((([] : List A5) ++ [r7]) ++ [((9 : Int), (0 : Int), (0 : Int), ([] : List YB), (([] : List YB) ++ a0.2.2.1), (0 : Int), (0 : Int), (([] : List YB) ++ r4.2.1.1), ([] : List YB), a2.1, a2.2.1, a1.1, ())]), ()), (false, ()))) (
 .chk (decide (([] : List Bg).length + [(a2.1, a2.2.1, r13.2.1.1, r13.2.1.2.1, r13.2.1.2.2.1, r13.2.1.2.2.2.1, r13.2.1.2.2.2.2.1, r13.2.1.2.2.2.2.2.1, r13.2.1.2.2.2.2.2.2.1, r13.2.1.2.2.2.2.2.2.2.1, r13.2.1.2.2.2.2.2.2.2.2.1, r13.2.1.2.2.2.2.2.2.2.2.2.1, r13.2.1.2.2.2.2.2.2.2.2.2.2.1, ())].length ≤ 4294967296)) <|
 .ob (Ey r13.1 r13.2.1) fun r14 =>
 .chk (decide (((([] : List A5) ++ [r7]) ++ [((9 : Int), (0 : Int), (0 : Int), ([] : List YB), (([] : List YB) ++ a0.2.2.1), (0 : Int), (0 : Int), (([] : List YB) ++ r4.2.1.1), ([] : List YB), a2.1, a2.2.1, a1.1, ())]).length + [r14].length ≤ 4294967296)) <|
 .leaf ((r1.1, r1.2.1, r1.2.2.1, r13.1.1, r13.1.2.1, r13.1.2.2.1, r13.1.2.2.2.1, r13.1.2.2.2.2.1, r13.1.2.2.2.2.2.1, r13.1.2.2.2.2.2.2.1, r13.1.2.2.2.2.2.2.2.1, r13.1.2.2.2.2.2.2.2.2.1, r13.1.2.2.2.2.2.2.2.2.2.1, r13.1.2.2.2.2.2.2.2.2.2.2.1, r13.1.2.2.2.2.2.2.2.2.2.2.2.1, r13.1.2.2.2.2.2.2.2.2.2.2.2.2.1, r13.1.2.2.2.2.2.2.2.2.2.2.2.2.2.1, r13.1.2.2.2.2.2.2.2.2.2.2.2.2.2.2.1, r12.1.1, r12.1.2.1, r12.1.2.2.1, r1.2.2.2.2.2.2.2.2.2.2.2.2.2.2.2.2.2.2.2.2.2.1, a1.1, r1.2.2.2.2.2.2.2.2.2.2.2.2.2.2.2.2.2.2.2.2.2.2.2.1, ()), ((([] : List Bg) ++ [(a2.1, a2.2.1, r13.2.1.1, r13.2.1.2.1, r13.2.1.2.2.1, r13.2.1.2.2.2.1, r13.2.1.2.2.2.2.1, r13.2.1.2.2.2.2.2.1, r13.2.1.2.2.2.2.2.2.1, r13.2.1.2.2.2.2.2.2.2.1, r13.2.1.2.2.2.2.2.2.2.2.1, r13.2.1.2.2.2.2.2.2.2.2.2.1, r13.2.1.2.2.2.2.2.2.2.2.2.2.1, ())]), ()), ((((([] : List A5) ++ [r7]) ++ [((9 : Int), (0 : Int), (0 : Int), ([] : List YB), (([] : List YB) ++ a0.2.2.1), (0 : Int), (0 : Int), (([] : List YB) ++ r4.2.1.1), ([] : List YB), a2.1, a2.2.1, a1.1, ())]) ++ [r14]), ()), (true, ()))))) (
 Ou r1 a1 a2 a4 r4 r7)) (
 .br (a3.1 == (7 : Int)) (
 .ob (Qx r4.1 (a3.2.2.2.2.2.2.2.1, ()) r4.2.1) fun r18 =>
 .br (r18.2.1 == (0 : Int)) (
 .br (r18.1.2.2.1 != r4.1.2.2.1) (
 .chk (decide (([] : List YB).length + a0.2.2.1.length ≤ 4294967296)) <|
 .chk (decide (([] : List YB).length + r18.1.2.2.2.1.length ≤ 4294967296)) <|
 .chk (decide ((([] : List A5) ++ [r7]).length + [((10 : Int), (0 : Int), (1 : Int), ([] : List YB), (([] : List YB) ++ a0.2.2.1), r18.1.2.2.1, (0 : Int), ([] : List YB), (([] : List YB) ++ r18.1.2.2.2.1), (0 : Int), (0 : Int), (0 : Int), ())].length ≤ 4294967296)) <|
 .ob (Asn r18.1) fun r19 =>
 .br (r19.2.2.1 == (0 : Int)) (
 .chk (decide (([] : List Bg).length + [(r1.2.2.2.2.2.2.2.2.2.2.2.2.2.2.2.2.2.2.1, r1.2.2.2.2.2.2.2.2.2.2.2.2.2.2.2.2.2.2.2.1, r19.2.1.1, r19.2.1.2.1, r19.2.1.2.2.1, r19.2.1.2.2.2.1, r19.2.1.2.2.2.2.1, r19.2.1.2.2.2.2.2.1, r19.2.1.2.2.2.2.2.2.1, r19.2.1.2.2.2.2.2.2.2.1, r19.2.1.2.2.2.2.2.2.2.2.1, r19.2.1.2.2.2.2.2.2.2.2.2.1, r19.2.1.2.2.2.2.2.2.2.2.2.2.1, ())].length ≤ 4294967296)) <|
 .ob (Ey r19.1 r19.2.1) fun r20 =>
 .chk (decide (((([] : List A5) ++ [r7]) ++ [((10 : Int), (0 : Int), (1 : Int), ([] : List YB), (([] : List YB) ++ a0.2.2.1), r18.1.2.2.1, (0 : Int), ([] : List YB), (([] : List YB) ++ r18.1.2.2.2.1), (0 : Int), (0 : Int), (0 : Int), ())]).length + [r20].length ≤ 4294967296)) <|
 .ob (Dh (r1.2.2.2.2.2.2.2.2.2.2.2.2.2.2.2.2.2.2.1, r1.2.2.2.2.2.2.2.2.2.2.2.2.2.2.2.2.2.2.2.1, r1.2.2.2.2.2.2.2.2.2.2.2.2.2.2.2.2.2.2.2.2.1, ()) a1 a2 a4) fun r21 =>
 .ob (Cc r19.1 ((5 : Int), ()) a4) fun r22 =>
 .br (!r21.2.1) (
 .leaf ((r1.1, r1.2.1, r1.2.2.1, r19.1.1, r19.1.2.1, r19.1.2.2.1, r19.1.2.2.2.1, r19.1.2.2.2.2.1, r19.1.2.2.2.2.2.1, r19.1.2.2.2.2.2.2.1, r19.1.2.2.2.2.2.2.2.1, r19.1.2.2.2.2.2.2.2.2.1, r19.1.2.2.2.2.2.2.2.2.2.1, r19.1.2.2.2.2.2.2.2.2.2.2.1, r19.1.2.2.2.2.2.2.2.2.2.2.2.1, r19.1.2.2.2.2.2.2.2.2.2.2.2.2.1, r19.1.2.2.2.2.2.2.2.2.2.2.2.2.2.1, r19.1.2.2.2.2.2.2.2.2.2.2.2.2.2.2.1, r1.2.2.2.2.2.2.2.2.2.2.2.2.2.2.2.2.2.2.1, r1.2.2.2.2.2.2.2.2.2.2.2.2.2.2.2.2.2.2.2.1, r1.2.2.2.2.2.2.2.2.2.2.2.2.2.2.2.2.2.2.2.2.1, r1.2.2.2.2.2.2.2.2.2.2.2.2.2.2.2.2.2.2.2.2.2.1, a1.1, r1.2.2.2.2.2.2.2.2.2.2.2.2.2.2.2.2.2.2.2.2.2.2.2.1, ()), ((([] : List Bg) ++ [(r1.2.2.2.2.2.2.2.2.2.2.2.2.2.2.2.2.2.2.1, r1.2.2.2.2.2.2.2.2.2.2.2.2.2.2.2.2.2.2.2.1, r19.2.1.1, r19.2.1.2.1, r19.2.1.2.2.1, r19.2.1.2.2.2.1, r19.2.1.2.2.2.2.1, r19.2.1.2.2.2.2.2.1, r19.2.1.2.2.2.2.2.2.1, r19.2.1.2.2.2.2.2.2.2.1, r19.2.1.2.2.2.2.2.2.2.2.1, r19.2.1.2.2.2.2.2.2.2.2.2.1, r19.2.1.2.2.2.2.2.2.2.2.2.2.1, ())]), ()), ((((([] : List A5) ++ [r7]) ++ [((10 : Int), (0 : Int), (1 : Int), ([] : List YB), (([] : List YB) ++ a0.2.2.1), r18.1.2.2.1, (0 : Int), ([] : List YB), (([] : List YB) ++ r18.1.2.2.2.1), (0 : Int), (0 : Int), (0 : Int), ())]) ++ [r20]), ()), (false, ()))) (
 .br (r22.2.2.1 != (0 : Int)) (
 .leaf ((r1.1, r1.2.1, r1.2.2.1, r19.1.1, r19.1.2.1, r19.1.2.2.1, r19.1.2.2.2.1, r19.1.2.2.2.2.1, r19.1.2.2.2.2.2.1, r19.1.2.2.2.2.2.2.1, r19.1.2.2.2.2.2.2.2.1, r19.1.2.2.2.2.2.2.2.2.1, r19.1.2.2.2.2.2.2.2.2.2.1, r19.1.2.2.2.2.2.2.2.2.2.2.1, r19.1.2.2.2.2.2.2.2.2.2.2.2.1, r19.1.2.2.2.2.2.2.2.2.2.2.2.2.1, r19.1.2.2.2.2.2.2.2.2.2.2.2.2.2.1, r19.1.2.2.2.2.2.2.2.2.2.2.2.2.2.2.1, r1.2.2.2.2.2.2.2.2.2.2.2.2.2.2.2.2.2.2.1, r1.2.2.2.2.2.2.2.2.2.2.2.2.2.2.2.2.2.2.2.1, r1.2.2.2.2.2.2.2.2.2.2.2.2.2.2.2.2.2.2.2.2.1, r1.2.2.2.2.2.2.2.2.2.2.2.2.2.2.2.2.2.2.2.2.2.1, a1.1, r1.2.2.2.2.2.2.2.2.2.2.2.2.2.2.2.2.2.2.2.2.2.2.2.1, ()), ((([] : List Bg) ++ [(r1.2.2.2.2.2.2.2.2.2.2.2.2.2.2.2.2.2.2.1, r1.2.2.2.2.2.2.2.2.2.2.2.2.2.2.2.2.2.2.2.1, r19.2.1.1, r19.2.1.2.1, r19.2.1.2.2.1, r19.2.1.2.2.2.1, r19.2.1.2.2.2.2.1, r19.2.1.2.2.2.2.2.1, r19.2.1.2.2.2.2.2.2.1, r19.2.1.2.2.2.2.2.2.2.1, r19.2.1.2.2.2.2.2.2.2.2.1, r19.2.1.2.2.2.2.2.2.2.2.2.1, r19.2.1.2.2.2.2.2.2.2.2.2.2.1, ())]), ()), ((((([] : List A5) ++ [r7]) ++ [((10 : Int), (0 : Int), (1 : Int), ([] : List YB), (([] : List YB) ++ a0.2.2.1), r18.1.2.2.1, (0 : Int), ([] : List YB), (([] : List YB) ++ r18.1.2.2.2.1), (0 : Int), (0 : Int), (0 : Int), ())]) ++ [r20]), ()), (false, ()))) (
 .chk (decide ((([] : List Bg) ++ [(r1.2.2.2.2.2.2.2.2.2.2.2.2.2.2.2.2.2.2.1, r1.2.2.2.2.2.2.2.2.2.2.2.2.2.2.2.2.2.2.2.1, r19.2.1.1, r19.2.1.2.1, r19.2.1.2.2.1, r19.2.1.2.2.2.1, r19.2.1.2.2.2.2.1, r19.2.1.2.2.2.2.2.1, r19.2.1.2.2.2.2.2.2.1, r19.2.1.2.2.2.2.2.2.2.1, r19.2.1.2.2.2.2.2.2.2.2.1, r19.2.1.2.2.2.2.2.2.2.2.2.1, r19.2.1.2.2.2.2.2.2.2.2.2.2.1, ())]).length + [(a2.1, a2.2.1, r22.2.1.1, r22.2.1.2.1, r22.2.1.2.2.1, r22.2.1.2.2.2.1, r22.2.1.2.2.2.2.1, r22.2.1.2.2.2.2.2.1, r22.2.1.2.2.2.2.2.2.1, r22.2.1.2.2.2.2.2.2.2.1, r22.2.1.2.2.2.2.2.2.2.2.1, r22.2.1.2.2.2.2.2.2.2.2.2.1, r22.2.1.2.2.2.2.2.2.2.2.2.2.1, ())].length ≤ 4294967296)) <|
 .ob (Ey r22.1 r22.2.1) fun r23 =>
 .chk (decide ((((([] : List A5) ++ [r7]) ++ [((10 : Int), (0 : Int), (1 : Int), ([] : List YB), (([] : List YB) ++ a0.2.2.1), r18.1.2.2.1, (0 : Int), ([] : List YB), (([] : List YB) ++ r18.1.2.2.2.1), (0 : Int), (0 : Int), (0 : Int), ())]) ++ [r20]).length + [r23].length ≤ 4294967296)) <|
 .leaf ((r1.1, r1.2.1, r1.2.2.1, r22.1.1, r22.1.2.1, r22.1.2.2.1, r22.1.2.2.2.1, r22.1.2.2.2.2.1, r22.1.2.2.2.2.2.1, r22.1.2.2.2.2.2.2.1, r22.1.2.2.2.2.2.2.2.1, r22.1.2.2.2.2.2.2.2.2.1, r22.1.2.2.2.2.2.2.2.2.2.1, r22.1.2.2.2.2.2.2.2.2.2.2.1, r22.1.2.2.2.2.2.2.2.2.2.2.2.1, r22.1.2.2.2.2.2.2.2.2.2.2.2.2.1, r22.1.2.2.2.2.2.2.2.2.2.2.2.2.2.1, r22.1.2.2.2.2.2.2.2.2.2.2.2.2.2.2.1, r21.1.1, r21.1.2.1, r21.1.2.2.1, r1.2.2.2.2.2.2.2.2.2.2.2.2.2.2.2.2.2.2.2.2.2.1, a1.1, r1.2.2.2.2.2.2.2.2.2.2.2.2.2.2.2.2.2.2.2.2.2.2.2.1, ()), (((([] : List Bg) ++ [(r1.2.2.2.2.2.2.2.2.2.2.2.2.2.2.2.2.2.2.1, r1.2.2.2.2.2.2.2.2.2.2.2.2.2.2.2.2.2.2.2.1, r19.2.1.1, r19.2.1.2.1, r19.2.1.2.2.1, r19.2.1.2.2.2.1, r19.2.1.2.2.2.2.1, r19.2.1.2.2.2.2.2.1, r19.2.1.2.2.2.2.2.2.1, r19.2.1.2.2.2.2.2.2.2.1, r19.2.1.2.2.2.2.2.2.2.2.1, r19.2.1.2.2.2.2.2.2.2.2.2.1, r19.2.1.2.2.2.2.2.2.2.2.2.2.1, ())]) ++ [(a2.1, a2.2.1, r22.2.1.1, r22.2.1.2.1, r22.2.1.2.2.1, r22.2.1.2.2.2.1, r22.2.1.2.2.2.2.1, r22.2.1.2.2.2.2.2.1, r22.2.1.2.2.2.2.2.2.1, r22.2.1.2.2.2.2.2.2.2.1, r22.2.1.2.2.2.2.2.2.2.2.1, r22.2.1.2.2.2.2.2.2.2.2.2.1, r22.2.1.2.2.2.2.2.2.2.2.2.2.1, ())]), ()), (((((([] : List A5) ++ [r7]) ++ [((10 : Int), (0 : Int), (1 : Int), ([] : List YB), (([] : List YB) ++ a0.2.2.1), r18.1.2.2.1, (0 : Int), ([] : List YB), (([] : List YB) ++ r18.1.2.2.2.1), (0 : Int), (0 : Int), (0 : Int), ())]) ++ [r20]) ++ [r23]), ()), (true, ()))))) (
 .ob (Dh (r1.2.2.2.2.2.2.2.2.2.2.2.2.2.2.2.2.2.2.1, r1.2.2.2.2.2.2.2.2.2.2.2.2.2.2.2.2.2.2.2.1, r1.2.2.2.2.2.2.2.2.2.2.2.2.2.2.2.2.2.2.2.2.1, ()) a1 a2 a4) fun r24 =>
 .ob (Cc r18.1 ((5 : Int), ()) a4) fun r25 =>
 .br (!r24.2.1) (
 .leaf ((r1.1, r1.2.1, r1.2.2.1, r18.1.1, r18.1.2.1, r18.1.2.2.1, r18.1.2.2.2.1, r18.1.2.2.2.2.1, r18.1.2.2.2.2.2.1, r18.1.2.2.2.2.2.2.1, r18.1.2.2.2.2.2.2.2.1, r18.1.2.2.2.2.2.2.2.2.1, r18.1.2.2.2.2.2.2.2.2.2.1, r18.1.2.2.2.2.2.2.2.2.2.2.1, r18.1.2.2.2.2.2.2.2.2.2.2.2.1, r18.1.2.2.2.2.2.2.2.2.2.2.2.2.1, r18.1.2.2.2.2.2.2.2.2.2.2.2.2.2.1, r18.1.2.2.2.2.2.2.2.2.2.2.2.2.2.2.1, r1.2.2.2.2.2.2.2.2.2.2.2.2.2.2.2.2.2.2.1, r1.2.2.2.2.2.2.2.2.2.2.2.2.2.2.2.2.2.2.2.1, r1.2.2.2.2.2.2.2.2.2.2.2.2.2.2.2.2.2.2.2.2.1, r1.2.2.2.2.2.2.2.2.2.2.2.2.2.2.2.2.2.2.2.2.2.1, a1.1, r1.2.2.2.2.2.2.2.2.2.2.2.2.2.2.2.2.2.2.2.2.2.2.2.1, ()), (([] : List Bg), ()), (((([] : List A5) ++ [r7]) ++ [((10 : Int), (0 : Int), (1 : Int), ([] : List YB), (([] : List YB) ++ a0.2.2.1), r18.1.2.2.1, (0 : Int), ([] : List YB), (([] : List YB) ++ r18.1.2.2.2.1), (0 : Int), (0 : Int), (0 : Int), ())]), ()), (false, ()))) (
 .br (r25.2.2.1 != (0 : Int)) (
 .leaf ((r1.1, r1.2.1, r1.2.2.1, r18.1.1, r18.1.2.1, r18.1.2.2.1, r18.1.2.2.2.1, r18.1.2.2.2.2.1, r18.1.2.2.2.2.2.1, r18.1.2.2.2.2.2.2.1, r18.1.2.2.2.2.2.2.2.1, r18.1.2.2.2.2.2.2.2.2.1, r18.1.2.2.2.2.2.2.2.2.2.1, r18.1.2.2.2.2.2.2.2.2.2.2.1, r18.1.2.2.2.2.2.2.2.2.2.2.2.1, r18.1.2.2.2.2.2.2.2.2.2.2.2.2.1, r18.1.2.2.2.2.2.2.2.2.2.2.2.2.2.1, r18.1.2.2.2.2.2.2.2.2.2.2.2.2.2.2.1, r1.2.2.2.2.2.2.2.2.2.2.2.2.2.2.2.2.2.2.1, r1.2.2.2.2.2.2.2.2.2.2.2.2.2.2.2.2.2.2.2.1, r1.2.2.2.2.2.2.2.2.2.2.2.2.2.2.2.2.2.2.2.2.1, r1.2.2.2.2.2.2.2.2.2.2.2.2.2.2.2.2.2.2.2.2.2.1, a1.1, r1.2.2.2.2.2.2.2.2.2.2.2.2.2.2.2.2.2.2.2.2.2.2.2.1, ()), (([] : List Bg), ()), (((([] : List A5) ++ [r7]) ++ [((10 : Int), (0 : Int), (1 : Int), ([] : List YB), (([] : List YB) ++ a0.2.2.1), r18.1.2.2.1, (0 : Int), ([] : List YB), (([] : List YB) ++ r18.1.2.2.2.1), (0 : Int), (0 : Int), (0 : Int), ())]), ()), (false, ()))) (
 .chk (decide (([] : List Bg).length + [(a2.1, a2.2.1, r25.2.1.1, r25.2.1.2.1, r25.2.1.2.2.1, r25.2.1.2.2.2.1, r25.2.1.2.2.2.2.1, r25.2.1.2.2.2.2.2.1, r25.2.1.2.2.2.2.2.2.1, r25.2.1.2.2.2.2.2.2.2.1, r25.2.1.2.2.2.2.2.2.2.2.1, r25.2.1.2.2.2.2.2.2.2.2.2.1, r25.2.1.2.2.2.2.2.2.2.2.2.2.1, ())].length ≤ 4294967296)) <|
 .ob (Ey r25.1 r25.2.1) fun r26 =>
 .chk (decide (((([] : List A5) ++ [r7]) ++ [((10 : Int), (0 : Int), (1 : Int), ([] : List YB), (([] : List YB) ++ a0.2.2.1), r18.1.2.2.1, (0 : Int), ([] : List YB), (([] : List YB) ++ r18.1.2.2.2.1), (0 : Int), (0 : Int), (0 : Int), ())]).length + [r26].length ≤ 4294967296)) <|
 .leaf ((r1.1, r1.2.1, r1.2.2.1, r25.1.1, r25.1.2.1, r25.1.2.2.1, r25.1.2.2.2.1, r25.1.2.2.2.2.1, r25.1.2.2.2.2.2.1, r25.1.2.2.2.2.2.2.1, r25.1.2.2.2.2.2.2.2.1, r25.1.2.2.2.2.2.2.2.2.1, r25.1.2.2.2.2.2.2.2.2.2.1, r25.1.2.2.2.2.2.2.2.2.2.2.1, r25.1.2.2.2.2.2.2.2.2.2.2.2.1, r25.1.2.2.2.2.2.2.2.2.2.2.2.2.1, r25.1.2.2.2.2.2.2.2.2.2.2.2.2.2.1, r25.1.2.2.2.2.2.2.2.2.2.2.2.2.2.2.1, r24.1.1, r24.1.2.1, r24.1.2.2.1, r1.2.2.2.2.2.2.2.2.2.2.2.2.2.2.2.2.2.2.2.2.2.1, a1.1, r1.2.2.2.2.2.2.2.2.2.2.2.2.2.2.2.2.2.2.2.2.2.2.2.1, ()), ((([] : List Bg) ++ [(a2.1, a2.2.1, r25.2.1.1, r25.2.1.2.1, r25.2.1.2.2.1, r25.2.1.2.2.2.1, r25.2.1.2.2.2.2.1, r25.2.1.2.2.2.2.2.1, r25.2.1.2.2.2.2.2.2.1, r25.2.1.2.2.2.2.2.2.2.1, r25.2.1.2.2.2.2.2.2.2.2.1, r25.2.1.2.2.2.2.2.2.2.2.2.1, r25.2.1.2.2.2.2.2.2.2.2.2.2.1, ())]), ()), ((((([] : List A5) ++ [r7]) ++ [((10 : Int), (0 : Int), (1 : Int), ([] : List YB), (([] : List YB) ++ a0.2.2.1), r18.1.2.2.1, (0 : Int), ([] : List YB), (([] : List YB) ++ r18.1.2.2.2.1), (0 : Int), (0 : Int), (0 : Int), ())]) ++ [r26]), ()), (true, ())))))) (
 .ob (Asn r18.1) fun r27 =>
 .br (r27.2.2.1 == (0 : Int)) (
 .chk (decide (([] : List Bg).length + [(r1.2.2.2.2.2.2.2.2.2.2.2.2.2.2.2.2.2.2.1, r1.2.2.2.2.2.2.2.2.2.2.2.2.2.2.2.2.2.2.2.1, r27.2.1.1, r27.2.1.2.1, r27.2.1.2.2.1, r27.2.1.2.2.2.1, r27.2.1.2.2.2.2.1, r27.2.1.2.2.2.2.2.1, r27.2.1.2.2.2.2.2.2.1, r27.2.1.2.2.2.2.2.2.2.1, r27.2.1.2.2.2.2.2.2.2.2.1, r27.2.1.2.2.2.2.2.2.2.2.2.1, r27.2.1.2.2.2.2.2.2.2.2.2.2.1, ())].length ≤ 4294967296)) <|
 .ob (Ey r27.1 r27.2.1) fun r28 =>
 .chk (decide ((([] : List A5) ++ [r7]).length + [r28].length ≤ 4294967296)) <|
 .ob (Dh (r1.2.2.2.2.2.2.2.2.2.2.2.2.2.2.2.2.2.2.1, r1.2.2.2.2.2.2.2.2.2.2.2.2.2.2.2.2.2.2.2.1, r1.2.2.2.2.2.2.2.2.2.2.2.2.2.2.2.2.2.2.2.2.1, ()) a1 a2 a4) fun r29 =>
 .ob (Cc r27.1 ((5 : Int), ()) a4) fun r30 =>
 .br (!r29.2.1) (
 .leaf ((r1.1, r1.2.1, r1.2.2.1, r27.1.1, r27.1.2.1, r27.1.2.2.1, r27.1.2.2.2.1, r27.1.2.2.2.2.1, r27.1.2.2.2.2.2.1, r27.1.2.2.2.2.2.2.1, r27.1.2.2.2.2.2.2.2.1, r27.1.2.2.2.2.2.2.2.2.1, r27.1.2.2.2.2.2.2.2.2.2.1, r27.1.2.2.2.2.2.2.2.2.2.2.1, r27.1.2.2.2.2.2.2.2.2.2.2.2.1, r27.1.2.2.2.2.2.2.2.2.2.2.2.2.1, r27.1.2.2.2.2.2.2.2.2.2.2.2.2.2.1, r27.1.2.2.2.2.2.2.2.2.2.2.2.2.2.2.1, r1.2.2.2.2.2.2.2.2.2.2.2.2.2.2.2.2.2.2.1, r1.2.2.2.2.2.2.2.2.2.2.2.2.2.2.2.2.2.2.2.1, r1.2.2.2.2.2.2.2.2.2.2.2.2.2.2.2.2.2.2.2.2.1, r1.2.2.2.2.2.2.2.2.2.2.2.2.2.2.2.2.2.2.2.2.2.1, a1.1, r1.2.2.2.2.2.2.2.2.2.2.2.2.2.2.2.2.2.2.2.2.2.2.2.1, ()), ((([] : List Bg) ++ [(r1.2.2.2.2.2.2.2.2.2.2.2.2.2.2.2.2.2.2.1, r1.2.2.2.2.2.2.2.2.2.2.2.2.2.2.2.2.2.2.2.1, r27.2.1.1, r27.2.1.2.1, r27.2.1.2.2.1, r27.2.1.2.2.2.1, r27.2.1.2.2.2.2.1, r27.2.1.2.2.2.2.2.1, r27.2.1.2.2.2.2.2.2.1, r27.2.1.2.2.2.2.2.2.2.1, r27.2.1.2.2.2.2.2.2.2.2.1, r27.2.1.2.2.2.2.2.2.2.2.2.1, r27.2.1.2.2.2.2.2.2.2.2.2.2.1, ())]), ()), (((([] : List A5) ++ [r7]) ++ [r28]), ()), (false, ()))) (
 .br (r30.2.2.1 != (0 : Int)) (
 .leaf ((r1.1, r1.2.1, r1.2.2.1, r27.1.1, r27.1.2.1, r27.1.2.2.1, r27.1.2.2.2.1, r27.1.2.2.2.2.1, r27.1.2.2.2.2.2.1, r27.1.2.2.2.2.2.2.1, r27.1.2.2.2.2.2.2.2.1, r27.1.2.2.2.2.2.2.2.2.1, r27.1.2.2.2.2.2.2.2.2.2.1, r27.1.2.2.2.2.2.2.2.2.2.2.1, r27.1.2.2.2.2.2.2.2.2.2.2.2.1, r27.1.2.2.2.2.2.2.2.2.2.2.2.2.1, r27.1.2.2.2.2.2.2.2.2.2.2.2.2.2.1, r27.1.2.2.2.2.2.2.2.2.2.2.2.2.2.2.1, r1.2.2.2.2.2.2.2.2.2.2.2.2.2.2.2.2.2.2.1, r1.2.2.2.2.2.2.2.2.2.2.2.2.2.2.2.2.2.2.2.1, r1.2.2.2.2.2.2.2.2.2.2.2.2.2.2.2.2.2.2.2.2.1, r1.2.2.2.2.2.2.2.2.2.2.2.2.2.2.2.2.2.2.2.2.2.1, a1.1, r1.2.2.2.2.2.2.2.2.2.2.2.2.2.2.2.2.2.2.2.2.2.2.2.1, ()), ((([] : List Bg) ++ [(r1.2.2.2.2.2.2.2.2.2.2.2.2.2.2.2.2.2.2.1, r1.2.2.2.2.2.2.2.2.2.2.2.2.2.2.2.2.2.2.2.1, r27.2.1.1, r27.2.1.2.1, r27.2.1.2.2.1, r27.2.1.2.2.2.1, r27.2.1.2.2.2.2.1, r27.2.1.2.2.2.2.2.1, r27.2.1.2.2.2.2.2.2.1, r27.2.1.2.2.2.2.2.2.2.1, r27.2.1.2.2.2.2.2.2.2.2.1, r27.2.1.2.2.2.2.2.2.2.2.2.1, r27.2.1.2.2.2.2.2.2.2.2.2.2.1, ())]), ()), (((([] : List A5) ++ [r7]) ++ [r28]), ()), (false, ()))) (
 .chk (decide ((([] : List Bg) ++ [(r1.2.2.2.2.2.2.2.2.2.2.2.2.2.2.2.2.2.2.1, r1.2.2.2.2.2.2.2.2.2.2.2.2.2.2.2.2.2.2.2.1, r27.2.1.1, r27.2.1.2.1, r27.2.1.2.2.1, r27.2.1.2.2.2.1, r27.2.1.2.2.2.2.1, r27.2.1.2.2.2.2.2.1, r27.2.1.2.2.2.2.2.2.1, r27.2.1.2.2.2.2.2.2.2.1, r27.2.1.2.2.2.2.2.2.2.2.1, r27.2.1.2.2.2.2.2.2.2.2.2.1, r27.2.1.2.2.2.2.2.2.2.2.2.2.1, ())]).length + [(a2.1, a2.2.1, r30.2.1.1, r30.2.1.2.1, r30.2.1.2.2.1, r30.2.1.2.2.2.1, r30.2.1.2.2.2.2.1, r30.2.1.2.2.2.2.2.1, r30.2.1.2.2.2.2.2.2.1, r30.2.1.2.2.2.2.2.2.2.1, r30.2.1.2.2.2.2.2.2.2.2.1, r30.2.1.2.2.2.2.2.2.2.2.2.1, r30.2.1.2.2.2.2.2.2.2.2.2.2.1, ())].length ≤ 4294967296)) <|
 .ob (Ey r30.1 r30.2.1) fun r31 =>
 .chk (decide (((([] : List A5) ++ [r7]) ++ [r28]).length + [r31].length ≤ 4294967296)) <|
 .leaf ((r1.1, r1.2.1, r1.2.2.1, r30.1.1, r30.1.2.1, r30.1.2.2.1, r30.1.2.2.2.1, r30.1.2.2.2.2.1, r30.1.2.2.2.2.2.1, r30.1.2.2.2.2.2.2.1, r30.1.2.2.2.2.2.2.2.1, r30.1.2.2.2.2.2.2.2.2.1, r30.1.2.2.2.2.2.2.2.2.2.1, r30.1.2.2.2.2.2.2.2.2.2.2.1, r30.1.2.2.2.2.2.2.2.2.2.2.2.1, r30.1.2.2.2.2.2.2.2.2.2.2.2.2.1, r30.1.2.2.2.2.2.2.2.2.2.2.2.2.2.1, r30.1.2.2.2.2.2.2.2.2.2.2.2.2.2.2.1, r29.1.1, r29.1.2.1, r29.1.2.2.1, r1.2.2.2.2.2.2.2.2.2.2.2.2.2.2.2.2.2.2.2.2.2.1, a1.1, r1.2.2.2.2.2.2.2.2.2.2.2.2.2.2.2.2.2.2.2.2.2.2.2.1, ()), (((([] : List Bg) ++ [(r1.2.2.2.2.2.2.2.2.2.2.2.2.2.2.2.2.2.2.1, r1.2.2.2.2.2.2.2.2.2.2.2.2.2.2.2.2.2.2.2.1, r27.2.1.1, r27.2.1.2.1, r27.2.1.2.2.1, r27.2.1.2.2.2.1, r27.2.1.2.2.2.2.1, r27.2.1.2.2.2.2.2.1, r27.2.1.2.2.2.2.2.2.1, r27.2.1.2.2.2.2.2.2.2.1, r27.2.1.2.2.2.2.2.2.2.2.1, r27.2.1.2.2.2.2.2.2.2.2.2.1, r27.2.1.2.2.2.2.2.2.2.2.2.2.1, ())]) ++ [(a2.1, a2.2.1, r30.2.1.1, r30.2.1.2.1, r30.2.1.2.2.1, r30.2.1.2.2.2.1, r30.2.1.2.2.2.2.1, r30.2.1.2.2.2.2.2.1, r30.2.1.2.2.2.2.2.2.1, r30.2.1.2.2.2.2.2.2.2.1, r30.2.1.2.2.2.2.2.2.2.2.1, r30.2.1.2.2.2.2.2.2.2.2.2.1, r30.2.1.2.2.2.2.2.2.2.2.2.2.1, ())]), ()), ((((([] : List A5) ++ [r7]) ++ [r28]) ++ [r31]), ()), (true, ()))))) (
 .ob (Dh (r1.2.2.2.2.2.2.2.2.2.2.2.2.2.2.2.2.2.2.1, r1.2.2.2.2.2.2.2.2.2.2.2.2.2.2.2.2.2.2.2.1, r1.2.2.2.2.2.2.2.2.2.2.2.2.2.2.2.2.2.2.2.2.1, ()) a1 a2 a4) fun r32 =>
 .ob (Cc r18.1 ((5 : Int), ()) a4) fun r33 =>
 .br (!r32.2.1) (
 .leaf ((r1.1, r1.2.1, r1.2.2.1, r18.1.1, r18.1.2.1, r18.1.2.2.1, r18.1.2.2.2.1, r18.1.2.2.2.2.1, r18.1.2.2.2.2.2.1, r18.1.2.2.2.2.2.2.1, r18.1.2.2.2.2.2.2.2.1, r18.1.2.2.2.2.2.2.2.2.1, r18.1.2.2.2.2.2.2.2.2.2.1, r18.1.2.2.2.2.2.2.2.2.2.2.1, r18.1.2.2.2.2.2.2.2.2.2.2.2.1, r18.1.2.2.2.2.2.2.2.2.2.2.2.2.1, r18.1.2.2.2.2.2.2.2.2.2.2.2.2.2.1, r18.1.2.2.2.2.2.2.2.2.2.2.2.2.2.2.1, r1.2.2.2.2.2.2.2.2.2.2.2.2.2.2.2.2.2.2.1, r1.2.2.2.2.2.2.2.2.2.2.2.2.2.2.2.2.2.2.2.1, r1.2.2.2.2.2.2.2.2.2.2.2.2.2.2.2.2.2.2.2.2.1, r1.2.2.2.2.2.2.2.2.2.2.2.2.2.2.2.2.2.2.2.2.2.1, a1.1, r1.2.2.2.2.2.2.2.2.2.2.2.2.2.2.2.2.2.2.2.2.2.2.2.1, ()), (([] : List Bg), ()), ((([] : List A5) ++ [r7]), ()), (false, ()))) (
 .br (r33.2.2.1 != (0 : Int)) (
 .leaf ((r1.1, r1.2.1, r1.2.2.1, r18.1.1, r18.1.2.1, r18.1.2.2.1, r18.1.2.2.2.1, r18.1.2.2.2.2.1, r18.1.2.2.2.2.2.1, r18.1.2.2.2.2.2.2.1, r18.1.2.2.2.2.2.2.2.1, r18.1.2.2.2.2.2.2.2.2.1, r18.1.2.2.2.2.2.2.2.2.2.1, r18.1.2.2.2.2.2.2.2.2.2.2.1, r18.1.2.2.2.2.2.2.2.2.2.2.2.1, r18.1.2.2.2.2.2.2.2.2.2.2.2.2.1, r18.1.2.2.2.2.2.2.2.2.2.2.2.2.2.1, r18.1.2.2.2.2.2.2.2.2.2.2.2.2.2.2.1, r1.2.2.2.2.2.2.2.2.2.2.2.2.2.2.2.2.2.2.1, r1.2.2.2.2.2.2.2.2.2.2.2.2.2.2.2.2.2.2.2.1, r1.2.2.2.2.2.2.2.2.2.2.2.2.2.2.2.2.2.2.2.2.1, r1.2.2.2.2.2.2.2.2.2.2.2.2.2.2.2.2.2.2.2.2.2.1, a1.1, r1.2.2.2.2.2.2.2.2.2.2.2.2.2.2.2.2.2.2.2.2.2.2.2.1, ()), (([] : List Bg), ()), ((([] : List A5) ++ [r7]), ()), (false, ()))) (
 T6 a2 r33 r7 r1 r32 a1))))) (
 Ou r1 a1 a2 a4 r4 r7)) (
 Ou r1 a1 a2 a4 r4 r7)))))))
def Z6 (a0 : Bi) (a1 : YI) (a2 : B5) (a3 : Av) (a4 : YBs) : Option (Bi × ((List Bg) × Unit) × ((List A5) × Unit) × (Bool × Unit)) := (Z5 a0 a1 a2 a3 a4).val
def Aoo (a0 : YBs) : Tree (YBs) :=
 .chk (decide (([] : List YB).length + a0.1.length ≤ 4294967296)) <|
 .leaf ((([] : List YB) ++ a0.1), ())
def Bz (a0 : YBs) : Option (YBs) := (Aoo a0).val
def Aee (a0 : Bo) : Tree (Bo) :=
 .chk (decide (([] : List YI).length + a0.2.1.length ≤ 4294967296)) <|
 .leaf (a0.1, (([] : List YI) ++ a0.2.1), ())
def Vf (a0 : Bo) : Option (Bo) := (Aee a0).val
def Ai6 (a0 : YEp) : Tree (YEp) :=
 .ob (Bz (a0.2.1, ())) fun r1 =>
 .ob (Vf (a0.2.2.2.1, a0.2.2.2.2.1, ())) fun r2 =>
 .leaf (a0.1, r1.1, a0.2.2.1, r2.1, r2.2.1, ())
def Ov (a0 : YEp) : Option (YEp) := (Ai6 a0).val
def Z7 (a0 : Ak) : Tree (Ak) :=
 .ob (Bz (a0.2.1, ())) fun r1 =>
 .ob (Bz (a0.2.2.2.2.2.2.2.2.2.2.2.2.2.2.1, ())) fun r2 =>
 .ob (Ov (a0.2.2.1, a0.2.2.2.1, a0.2.2.2.2.1, a0.2.2.2.2.2.1, a0.2.2.2.2.2.2.1, ())) fun r3 =>
 .ob (Ov (a0.2.2.2.2.2.2.2.1, a0.2.2.2.2.2.2.2.2.1, a0.2.2.2.2.2.2.2.2.2.1, a0.2.2.2.2.2.2.2.2.2.2.1, a0.2.2.2.2.2.2.2.2.2.2.2.1, ())) fun r4 =>
 .leaf (a0.1, r1.1, r3.1, r3.2.1, r3.2.2.1, r3.2.2.2.1, r3.2.2.2.2.1, r4.1, r4.2.1, r4.2.2.1, r4.2.2.2.1, r4.2.2.2.2.1, a0.2.2.2.2.2.2.2.2.2.2.2.2.1, a0.2.2.2.2.2.2.2.2.2.2.2.2.2.1, r2.1, ())
def E4 (a0 : Ak) : Option (Ak) := (Z7 a0).val
def E5 (x1 : (List Aj) × Int × Int × Int × Int × (List Aj) × Int × Int × (List Aj) × Unit) : Option (((List Aj) × Int × Int × Int × Int × (List Aj) × Int × Int × (List Aj) × Unit) ⊕ ((Int × Int × (List Aj) × Int × Int × (List Aj) × Unit))) :=
 Tree.val (α := ((List Aj) × Int × Int × Int × Int × (List Aj) × Int × Int × (List Aj) × Unit) ⊕ ((Int × Int × (List Aj) × Int × Int × (List Aj) × Unit))) <|
 .br (decide (x1.2.2.1 < x1.2.1)) (
 .ob (idx x1.1 x1.2.2.1) fun e2 =>
 .ob (Bz (e2.2.2.1, ())) fun r3 =>
 .chk (decide (x1.2.2.2.2.2.2.2.2.1.length + [(e2.1, e2.2.1, r3.1, e2.2.2.2.1, ())].length ≤ 4294967296)) <|
 .leaf (.inl (x1.1, x1.2.1, (i64.wrap (x1.2.2.1 + (1 : Int))), x1.2.2.2.1, x1.2.2.2.2.1, x1.2.2.2.2.2.1, x1.2.2.2.2.2.2.1, x1.2.2.2.2.2.2.2.1, (x1.2.2.2.2.2.2.2.2.1 ++ [(e2.1, e2.2.1, r3.1, e2.2.2.2.1, ())]), ()))) (
 .leaf (.inr (x1.2.2.2.1, x1.2.2.2.2.1, x1.2.2.2.2.2.1, x1.2.2.2.2.2.2.1, x1.2.2.2.2.2.2.2.1, x1.2.2.2.2.2.2.2.2.1, ())))
def Lu (a0 : A6) : Tree (A6) :=
 .ob (Ay E5 (a0.2.2.1, (a0.2.2.1.length : Int), (0 : Int), (0 : Int), (0 : Int), ([] : List Aj), a0.1, a0.2.1, ([] : List Aj), ())) fun o4 =>
 .leaf (o4.2.2.2.1, o4.2.2.2.2.1, o4.2.2.2.2.2.1, ())
def Dk (a0 : A6) : Option (A6) := (Lu a0).val
def Z8 (a0 : Bi) : Tree (Bi) :=
 .ob (Bz (a0.2.1, ())) fun r1 =>
 .ob (Bz (a0.2.2.1, ())) fun r2 =>
 .ob (E4 (a0.2.2.2.1, a0.2.2.2.2.1, a0.2.2.2.2.2.1, a0.2.2.2.2.2.2.1, a0.2.2.2.2.2.2.2.1, a0.2.2.2.2.2.2.2.2.1, a0.2.2.2.2.2.2.2.2.2.1, a0.2.2.2.2.2.2.2.2.2.2.1, a0.2.2.2.2.2.2.2.2.2.2.2.1, a0.2.2.2.2.2.2.2.2.2.2.2.2.1, a0.2.2.2.2.2.2.2.2.2.2.2.2.2.1, a0.2.2.2.2.2.2.2.2.2.2.2.2.2.2.1, a0.2.2.2.2.2.2.2.2.2.2.2.2.2.2.2.1, a0.2.2.2.2.2.2.2.2.2.2.2.2.2.2.2.2.1, a0.2.2.2.2.2.2.2.2.2.2.2.2.2.2.2.2.2.1, ())) fun r3 =>
 .ob (Dk (a0.2.2.2.2.2.2.2.2.2.2.2.2.2.2.2.2.2.2.1, a0.2.2.2.2.2.2.2.2.2.2.2.2.2.2.2.2.2.2.2.1, a0.2.2.2.2.2.2.2.2.2.2.2.2.2.2.2.2.2.2.2.2.1, ())) fun r4 =>
 .leaf (a0.1, r1.1, r2.1, r3.1, r3.2.1, r3.2.2.1, r3.2.2.2.1, r3.2.2.2.2.1, r3.2.2.2.2.2.1, r3.2.2.2.2.2.2.1, r3.2.2.2.2.2.2.2.1, r3.2.2.2.2.2.2.2.2.1, r3.2.2.2.2.2.2.2.2.2.1, r3.2.2.2.2.2.2.2.2.2.2.1, r3.2.2.2.2.2.2.2.2.2.2.2.1, r3.2.2.2.2.2.2.2.2.2.2.2.2.1, r3.2.2.2.2.2.2.2.2.2.2.2.2.2.1, r3.2.2.2.2.2.2.2.2.2.2.2.2.2.2.1, r4.1, r4.2.1, r4.2.2.1, a0.2.2.2.2.2.2.2.2.2.2.2.2.2.2.2.2.2.2.2.2.2.1, a0.2.2.2.2.2.2.2.2.2.2.2.2.2.2.2.2.2.2.2.2.2.2.1, a0.2.2.2.2.2.2.2.2.2.2.2.2.2.2.2.2.2.2.2.2.2.2.2.1, ())
def Z9 (a0 : Bi) : Option (Bi) := (Z8 a0).val
def Ai7 (a0 : YI) (a1 : YI) (a2 : YI) : Tree ((Bool × Unit)) :=
 .br (decide (a0.1 ≥ a1.1)) (
 .leaf ((decide (a0.1 ≤ a2.1)), ())) (
 .leaf (false, ()))
def Bp (a0 : YI) (a1 : YI) (a2 : YI) : Option ((Bool × Unit)) := (Ai7 a0 a1 a2).val
def Atk (a0 : YBs) : Tree ((Bool × Unit)) :=
 .leaf (((a0.1.length : Int) == (12 : Int)), ())
def Dx (a0 : YBs) : Option ((Bool × Unit)) := (Atk a0).val
def Amm (a0 : YBs) (a1 : YBs) : Tree ((Bool × Unit)) :=
 .leaf ((decide ((Py a0.1) = (Py a1.1))), ())
def Du (a0 : YBs) (a1 : YBs) : Option ((Bool × Unit)) := (Amm a0 a1).val
def T7 (x1 : (List YI) × (List YI) × Int × Int × Unit) : Option (((List YI) × (List YI) × Int × Int × Unit) ⊕ ((Bool × Unit) ⊕ (Unit))) :=
 Tree.val (α := ((List YI) × (List YI) × Int × Int × Unit) ⊕ ((Bool × Unit) ⊕ (Unit))) <|
 .br (decide (x1.2.2.2.1 < x1.2.2.1)) (
 .ob (idx x1.2.1 x1.2.2.2.1) fun e2 =>
 .ob (idx x1.1 x1.2.2.2.1) fun e3 =>
 .br (e2.1 != e3.1) (
 .leaf (.inr (.inl (false, ())))) (
 .leaf (.inl (x1.1, x1.2.1, x1.2.2.1, (i64.wrap (x1.2.2.2.1 + (1 : Int))), ())))) (
 .leaf (.inr (.inr ())))
def Na (a0 : (List YI) × Unit) (a1 : (List YI) × Unit) : Tree ((Bool × Unit)) :=
 .br ((a0.1.length : Int) != (a1.1.length : Int)) (
 .leaf (false, ())) (
 .ob (Ay T7 (a1.1, a0.1, (a0.1.length : Int), (0 : Int), ())) fun o4 =>
 .sm o4 (fun o5 =>
 .leaf o5) (fun o6 =>
 .leaf (true, ())))
def Aaa (a0 : (List YI) × Unit) (a1 : (List YI) × Unit) : Option ((Bool × Unit)) := (Na a0 a1).val
def Ai8 (a0 : YEp) (a1 : YEp) : Tree ((Bool × Unit)) :=
 .br (a0.1 == a1.1) (
 .ob (Du (a0.2.1, ()) (a1.2.1, ())) fun r1 =>
 .br r1.1 (
 .br (a0.2.2.1 == a1.2.2.1) (
 .br (a0.2.2.2.1 == a1.2.2.2.1) (
 .ob (Aaa (a0.2.2.2.2.1, ()) (a1.2.2.2.2.1, ())) fun r2 =>
 .leaf r2) (
 .leaf (false, ()))) (
 .leaf (false, ()))) (
 .leaf (false, ()))) (
 .leaf (false, ()))
def Sb (a0 : YEp) (a1 : YEp) : Option ((Bool × Unit)) := (Ai8 a0 a1).val
def T8 (a0 : Ak) : Tree ((Bool × Unit)) :=
 .br (a0.1 == (0 : Int)) (
 .br ((a0.2.1.length : Int) == (0 : Int)) (
 .ob (Sb (a0.2.2.1, a0.2.2.2.1, a0.2.2.2.2.1, a0.2.2.2.2.2.1, a0.2.2.2.2.2.2.1, ()) ((0 : Int), ([] : List YB), (0 : Int), (0 : Int), ([] : List YI), ())) fun r1 =>
 .br r1.1 (
 .ob (Sb (a0.2.2.2.2.2.2.2.1, a0.2.2.2.2.2.2.2.2.1, a0.2.2.2.2.2.2.2.2.2.1, a0.2.2.2.2.2.2.2.2.2.2.1, a0.2.2.2.2.2.2.2.2.2.2.2.1, ()) ((0 : Int), ([] : List YB), (0 : Int), (0 : Int), ([] : List YI), ())) fun r2 =>
 .br r2.1 (
 .br (!a0.2.2.2.2.2.2.2.2.2.2.2.2.1) (
 .br (a0.2.2.2.2.2.2.2.2.2.2.2.2.2.1 == (0 : Int)) (
 .leaf (((a0.2.2.2.2.2.2.2.2.2.2.2.2.2.2.1.length : Int) == (0 : Int)), ())) (
 .leaf (false, ()))) (
 .leaf (false, ()))) (
 .leaf (false, ()))) (
 .leaf (false, ()))) (
 .leaf (false, ()))) (
 .leaf (false, ()))
def T9 (a0 : Ak) : Option ((Bool × Unit)) := (T8 a0).val
def Ai9 (a0 : YI) : Tree ((Bool × Unit)) :=
 .br (a0.1 == (0 : Int)) (
 .leaf (true, ())) (
 .leaf ((a0.1 == (1 : Int)), ()))
def Ow (a0 : YI) : Option ((Bool × Unit)) := (Ai9 a0).val
def Hj (x1 : (List YI) × Int × (List YI) × Int × Int × Unit) : Option (((List YI) × Int × (List YI) × Int × Int × Unit) ⊕ ((Bool × Unit) ⊕ ((List YI) × Int × Unit))) :=
 Tree.val (α := ((List YI) × Int × (List YI) × Int × Int × Unit) ⊕ ((Bool × Unit) ⊕ ((List YI) × Int × Unit))) <|
 .br (decide (x1.2.2.2.2.1 < x1.2.2.2.1)) (
 .ob (idx x1.2.2.1 x1.2.2.2.2.1) fun e2 =>
 .ob (Bp e2 ((0 : Int), ()) ((4294967295 : Int), ())) fun r3 =>
 .br (!r3.1) (
 .leaf (.inr (.inl (false, ())))) (
 .leaf (.inl (x1.1, x1.2.1, x1.2.2.1, x1.2.2.2.1, (i64.wrap (x1.2.2.2.2.1 + (1 : Int))), ())))) (
 .leaf (.inr (.inr (x1.1, x1.2.1, ()))))
def Nb (a0 : (List YI) × Unit) (a1 : YI) : Tree ((Bool × Unit)) :=
 .ob (Ay Hj (a0.1, a1.1, a0.1, (a0.1.length : Int), (0 : Int), ())) fun o4 =>
 .sm o4 (fun o5 =>
 .leaf o5) (fun o6 =>
 .leaf (((o6.1.length : Int) == o6.2.1), ()))
def Nc (a0 : (List YI) × Unit) (a1 : YI) : Option ((Bool × Unit)) := (Nb a0 a1).val
def Aja (a0 : Bo) (a1 : YI) : Tree ((Bool × Unit)) :=
 .chk (decide ((0 : Int) ≤ a1.1)) <|
 .chk (decide ((0 : Int) ≤ (a1.1 % (1024 : Int)))) <|
 .ob (idx a0.2.1 ((a1.1 % (1024 : Int)) / (32 : Int))) fun e1 =>
 .chk (decide ((0 : Int) ≤ a1.1)) <|
 .chk (decide ((0 : Int) ≤ (a1.1 % (32 : Int)))) <|
 .leaf (((i64.wrap ((BitVec.ofInt (i64.bits) ((Int.fdiv e1.1 (2 ^ (min ((a1.1 % (32 : Int))).toNat i64.bits)))) &&& BitVec.ofInt (i64.bits) ((1 : Int))).toNat : Nat)) == (1 : Int)), ())
def Sc (a0 : Bo) (a1 : YI) : Option ((Bool × Unit)) := (Aja a0 a1).val
def Ju (x3 : Int × Int × (List YI) × Unit) : Option ((Int × Int × (List YI) × Unit) ⊕ ((Bool × Unit) ⊕ Bo)) :=
 Tree.val (α := (Int × Int × (List YI) × Unit) ⊕ ((Bool × Unit) ⊕ Bo)) <|
 .br (decide (x3.1 < (1024 : Int))) (
 .ob (Sc (x3.2.1, x3.2.2.1, ()) (x3.1, ())) fun r4 =>
 .br r4.1 (
 .leaf (.inr (.inl (false, ())))) (
 .leaf (.inl ((i64.wrap (x3.1 + (1 : Int))), x3.2.1, x3.2.2.1, ())))) (
 .leaf (.inr (.inr (x3.2.1, x3.2.2.1, ()))))
def Vy (a0 : Bo) : Tree ((Bool × Unit)) :=
 .ob (Bp (a0.1, ()) ((-1 : Int), ()) ((281474976710655 : Int), ())) fun r1 =>
 .br (!r1.1) (
 .leaf (false, ())) (
 .ob (Nc (a0.2.1, ()) ((32 : Int), ())) fun r2 =>
 .br (!r2.1) (
 .leaf (false, ())) (
 .ob (Ay Ju ((i64.wrap (a0.1 + (1 : Int))), a0.1, a0.2.1, ())) fun o5 =>
 .sm o5 (fun o6 =>
 .leaf o6) (fun o7 =>
 .br (o7.1 == (-1 : Int)) (
 .leaf (true, ())) (
 .ob (Sc o7 (o7.1, ())) fun r8 =>
 .leaf r8))))
def Ab6 (a0 : Bo) : Option ((Bool × Unit)) := (Vy a0).val
def Avs (a0 : YEp) : Tree ((Bool × Unit)) :=
 .ob (Bp (a0.1, ()) ((0 : Int), ()) ((4294967295 : Int), ())) fun r1 =>
 .br r1.1 (
 .br ((a0.2.1.length : Int) == (32 : Int)) (
 .ob (Bp (a0.2.2.1, ()) ((0 : Int), ()) ((281474976710656 : Int), ())) fun r2 =>
 .br r2.1 (
 .ob (Ab6 (a0.2.2.2.1, a0.2.2.2.2.1, ())) fun r3 =>
 .leaf r3) (
 .leaf (false, ()))) (
 .leaf (false, ()))) (
 .leaf (false, ()))
def Ua (a0 : YEp) : Option ((Bool × Unit)) := (Avs a0).val
def Aop (a0 : Ak) : Tree ((Bool × Unit)) :=
 .br (!a0.2.2.2.2.2.2.2.2.2.2.2.2.1) (
 .ob (Sb (a0.2.2.2.2.2.2.2.1, a0.2.2.2.2.2.2.2.2.1, a0.2.2.2.2.2.2.2.2.2.1, a0.2.2.2.2.2.2.2.2.2.2.1, a0.2.2.2.2.2.2.2.2.2.2.2.1, ()) ((0 : Int), ([] : List YB), (0 : Int), (0 : Int), ([] : List YI), ())) fun r1 =>
 .br r1.1 (
 .leaf ((a0.2.2.2.2.2.2.2.2.2.2.2.2.2.1 == (0 : Int)), ())) (
 .leaf (false, ()))) (
 .ob (Ua (a0.2.2.2.2.2.2.2.1, a0.2.2.2.2.2.2.2.2.1, a0.2.2.2.2.2.2.2.2.2.1, a0.2.2.2.2.2.2.2.2.2.2.1, a0.2.2.2.2.2.2.2.2.2.2.2.1, ())) fun r2 =>
 .br (!r2.1) (
 .leaf (false, ())) (
 .br (a0.2.2.2.2.2.2.2.1 != (i64.wrap (a0.2.2.1 - (1 : Int)))) (
 .leaf (false, ())) (
 .ob (Bp (a0.2.2.2.2.2.2.2.2.2.2.2.2.2.1, ()) ((0 : Int), ()) ((1000005 : Int), ())) fun r3 =>
 .br r3.1 (
 .leaf (true, ())) (
 .br (a0.2.2.2.2.2.2.2.2.2.2.2.2.2.1 == (-1 : Int)) (
 .leaf ((a0.1 == (1 : Int)), ())) (
 .leaf (false, ()))))))
def Aoq (a0 : Ak) : Option ((Bool × Unit)) := (Aop a0).val
def Ajb (a0 : Ak) : Tree ((Bool × Unit)) :=
 .ob (Ow (a0.1, ())) fun r1 =>
 .br (!r1.1) (
 .leaf (false, ())) (
 .ob (Dx (a0.2.1, ())) fun r2 =>
 .br (!r2.1) (
 .leaf (false, ())) (
 .ob (Ua (a0.2.2.1, a0.2.2.2.1, a0.2.2.2.2.1, a0.2.2.2.2.2.1, a0.2.2.2.2.2.2.1, ())) fun r3 =>
 .br (!r3.1) (
 .leaf (false, ())) (
 .ob (Aoq a0) fun r4 =>
 .br (!r4.1) (
 .leaf (false, ())) (
 .br ((a0.2.2.2.2.2.2.2.2.2.2.2.2.2.2.1.length : Int) == (0 : Int)) (
 .leaf (true, ())) (
 .br (a0.1 == (0 : Int)) (
 .br ((a0.2.2.2.2.2.2.2.2.2.2.2.2.2.2.1.length : Int) == (32 : Int)) (
 .leaf ((decide (a0.2.2.1 < (4294967295 : Int))), ())) (
 .leaf (false, ()))) (
 .leaf (false, ())))))))
def G5 (a0 : Ak) : Option ((Bool × Unit)) := (Ajb a0).val
def Ajc (a0 : B5) : Tree ((Bool × Unit)) :=
 .ob (Bp (a0.1, ()) ((0 : Int), ()) ((4294967295 : Int), ())) fun r1 =>
 .br r1.1 (
 .ob (Bp (a0.2.1, ()) ((0 : Int), ()) ((65535 : Int), ())) fun r2 =>
 .leaf r2) (
 .leaf (false, ()))
def Ox (a0 : B5) : Option ((Bool × Unit)) := (Ajc a0).val
def Gt (x7 : (List Aj) × Int × Int × (List Aj) × Int × Int × Int × Int × (List Aj) × Int × Int × (List YB) × Int × Unit) : Option (((List Aj) × Int × Int × (List Aj) × Int × Int × Int × Int × (List Aj) × Int × Int × (List YB) × Int × Unit) ⊕ ((Bool × Unit) ⊕ ((List Aj) × Int × Int × Int × Int × (List Aj) × Unit))) :=
 Tree.val (α := ((List Aj) × Int × Int × (List Aj) × Int × Int × Int × Int × (List Aj) × Int × Int × (List YB) × Int × Unit) ⊕ ((Bool × Unit) ⊕ ((List Aj) × Int × Int × Int × Int × (List Aj) × Unit))) <|
 .br (decide (x7.2.2.2.2.2.1 < x7.2.2.2.2.1)) (
 .ob (idx x7.2.2.2.1 x7.2.2.2.2.2.1) fun e8 =>
 .br (and (e8.1 == x7.2.2.2.2.2.2.2.2.2.1) (and (e8.2.1 == x7.2.2.2.2.2.2.2.2.2.2.1) true)) (
 .leaf (.inr (.inl (false, ())))) (
 .leaf (.inl (x7.1, x7.2.1, x7.2.2.1, x7.2.2.2.1, x7.2.2.2.2.1, (i64.wrap (x7.2.2.2.2.2.1 + (1 : Int))), x7.2.2.2.2.2.2.1, x7.2.2.2.2.2.2.2.1, x7.2.2.2.2.2.2.2.2.1, x7.2.2.2.2.2.2.2.2.2.1, x7.2.2.2.2.2.2.2.2.2.2.1, x7.2.2.2.2.2.2.2.2.2.2.2.1, x7.2.2.2.2.2.2.2.2.2.2.2.2.1, ())))) (
 .leaf (.inr (.inr (x7.1, x7.2.1, x7.2.2.1, x7.2.2.2.2.2.2.1, x7.2.2.2.2.2.2.2.1, x7.2.2.2.2.2.2.2.2.1, ()))))
def Iq (x2 : (List Aj) × Int × Int × Int × Int × (List Aj) × Unit) : Option (((List Aj) × Int × Int × Int × Int × (List Aj) × Unit) ⊕ ((Bool × Unit) ⊕ (Unit))) :=
 Tree.val (α := ((List Aj) × Int × Int × Int × Int × (List Aj) × Unit) ⊕ ((Bool × Unit) ⊕ (Unit))) <|
 .br (decide (x2.2.2.1 < x2.2.1)) (
 .ob (idx x2.1 x2.2.2.1) fun e3 =>
 .ob (Ox (e3.1, e3.2.1, ())) fun r4 =>
 .br (!r4.1) (
 .leaf (.inr (.inl (false, ())))) (
 .br (and (e3.1 == x2.2.2.2.1) (and (e3.2.1 == x2.2.2.2.2.1) true)) (
 .leaf (.inr (.inl (false, ())))) (
 .ob (Dx (e3.2.2.1, ())) fun r5 =>
 .br (!r5.1) (
 .leaf (.inr (.inl (false, ())))) (
 .ob (Bp (e3.2.2.2.1, ()) ((0 : Int), ()) ((1000006 : Int), ())) fun r6 =>
 .br (!r6.1) (
 .leaf (.inr (.inl (false, ())))) (
 .chk (decide ((0 : Int) ≤ x2.2.2.1)) <|
 .chk (decide (x2.2.2.1 ≤ (x2.2.2.2.2.2.1.length : Int))) <|
 .ob (Ay Gt (x2.1, x2.2.1, x2.2.2.1, ((x2.2.2.2.2.2.1.take (x2.2.2.1).toNat).drop ((0 : Int)).toNat), (((x2.2.2.2.2.2.1.take (x2.2.2.1).toNat).drop ((0 : Int)).toNat).length : Int), (0 : Int), x2.2.2.2.1, x2.2.2.2.2.1, x2.2.2.2.2.2.1, e3.1, e3.2.1, e3.2.2.1, e3.2.2.2.1, ())) fun o9 =>
 .sm o9 (fun o10 =>
 .leaf (.inr (.inl o10))) (fun o11 =>
 .leaf (.inl (o11.1, o11.2.1, (i64.wrap (o11.2.2.1 + (1 : Int))), o11.2.2.2.1, o11.2.2.2.2.1, o11.2.2.2.2.2.1, ())))))))) (
 .leaf (.inr (.inr ())))
def P7 (a0 : A6) : Tree ((Bool × Unit)) :=
 .ob (Ox (a0.1, a0.2.1, ())) fun r1 =>
 .br (!r1.1) (
 .leaf (false, ())) (
 .br (decide ((a0.2.2.1.length : Int) > (3 : Int))) (
 .leaf (false, ())) (
 .ob (Ay Iq (a0.2.2.1, (a0.2.2.1.length : Int), (0 : Int), a0.1, a0.2.1, a0.2.2.1, ())) fun o12 =>
 .sm o12 (fun o13 =>
 .leaf o13) (fun o14 =>
 .leaf (true, ()))))
def P8 (a0 : A6) : Option ((Bool × Unit)) := (P7 a0).val
def Ajd (a0 : Bi) : Tree ((Bool × Unit)) :=
 .ob (Bp (a0.1, ()) ((1 : Int), ()) ((9 : Int), ())) fun r1 =>
 .br (!r1.1) (
 .leaf (false, ())) (
 .ob (Dx (a0.2.1, ())) fun r2 =>
 .br (!r2.1) (
 .leaf (false, ())) (
 .ob (Dx (a0.2.2.1, ())) fun r3 =>
 .br (!r3.1) (
 .leaf (false, ())) (
 .ob (Bp (a0.2.2.2.2.2.2.2.2.2.2.2.2.2.2.2.2.2.2.2.2.2.1, ()) ((0 : Int), ()) ((1000000 : Int), ())) fun r4 =>
 .br (!r4.1) (
 .leaf (false, ())) (
 .br a0.2.2.2.2.2.2.2.2.2.2.2.2.2.2.2.2.2.2.2.2.2.2.2.1 (
 .ob (T9 (a0.2.2.2.1, a0.2.2.2.2.1, a0.2.2.2.2.2.1, a0.2.2.2.2.2.2.1, a0.2.2.2.2.2.2.2.1, a0.2.2.2.2.2.2.2.2.1, a0.2.2.2.2.2.2.2.2.2.1, a0.2.2.2.2.2.2.2.2.2.2.1, a0.2.2.2.2.2.2.2.2.2.2.2.1, a0.2.2.2.2.2.2.2.2.2.2.2.2.1, a0.2.2.2.2.2.2.2.2.2.2.2.2.2.1, a0.2.2.2.2.2.2.2.2.2.2.2.2.2.2.1, a0.2.2.2.2.2.2.2.2.2.2.2.2.2.2.2.1, a0.2.2.2.2.2.2.2.2.2.2.2.2.2.2.2.2.1, a0.2.2.2.2.2.2.2.2.2.2.2.2.2.2.2.2.2.1, ())) fun r5 =>
 .br r5.1 (
 .br (and (a0.2.2.2.2.2.2.2.2.2.2.2.2.2.2.2.2.2.2.1 == (0 : Int)) (and (a0.2.2.2.2.2.2.2.2.2.2.2.2.2.2.2.2.2.2.2.1 == (0 : Int)) true)) (
 .br ((a0.2.2.2.2.2.2.2.2.2.2.2.2.2.2.2.2.2.2.2.2.1.length : Int) == (0 : Int)) (
 .leaf ((a0.2.2.2.2.2.2.2.2.2.2.2.2.2.2.2.2.2.2.2.2.2.2.1 == (0 : Int)), ())) (
 .leaf (false, ()))) (
 .leaf (false, ()))) (
 .leaf (false, ()))) (
 .ob (G5 (a0.2.2.2.1, a0.2.2.2.2.1, a0.2.2.2.2.2.1, a0.2.2.2.2.2.2.1, a0.2.2.2.2.2.2.2.1, a0.2.2.2.2.2.2.2.2.1, a0.2.2.2.2.2.2.2.2.2.1, a0.2.2.2.2.2.2.2.2.2.2.1, a0.2.2.2.2.2.2.2.2.2.2.2.1, a0.2.2.2.2.2.2.2.2.2.2.2.2.1, a0.2.2.2.2.2.2.2.2.2.2.2.2.2.1, a0.2.2.2.2.2.2.2.2.2.2.2.2.2.2.1, a0.2.2.2.2.2.2.2.2.2.2.2.2.2.2.2.1, a0.2.2.2.2.2.2.2.2.2.2.2.2.2.2.2.2.1, a0.2.2.2.2.2.2.2.2.2.2.2.2.2.2.2.2.2.1, ())) fun r6 =>
 .br r6.1 (
 .br (a0.2.2.2.1 == (1 : Int)) (
 .ob (Du (a0.2.2.2.2.1, ()) (a0.2.2.1, ())) fun r7 =>
 .br r7.1 (
 .ob (P8 (a0.2.2.2.2.2.2.2.2.2.2.2.2.2.2.2.2.2.2.1, a0.2.2.2.2.2.2.2.2.2.2.2.2.2.2.2.2.2.2.2.1, a0.2.2.2.2.2.2.2.2.2.2.2.2.2.2.2.2.2.2.2.2.1, ())) fun r8 =>
 .br r8.1 (
 .ob (Bp (a0.2.2.2.2.2.2.2.2.2.2.2.2.2.2.2.2.2.2.2.2.2.2.1, ()) ((0 : Int), ()) ((1000000 : Int), ())) fun r9 =>
 .leaf r9) (
 .leaf (false, ()))) (
 .leaf (false, ()))) (
 .leaf (false, ()))) (
 .leaf (false, ())))))))
def Aje (a0 : Bi) : Option ((Bool × Unit)) := (Ajd a0).val
def Ajf (a0 : YI) : Tree ((Bool × Unit)) :=
 .ob (Bp a0 ((4 : Int), ()) ((8 : Int), ())) fun r1 =>
 .leaf r1
def Oy (a0 : YI) : Option ((Bool × Unit)) := (Ajf a0).val
def Ajg (a0 : YI) (a1 : YI) : Tree ((Bool × Unit)) :=
 .br (a0.1 == (4 : Int)) (
 .leaf ((decide (a1.1 ≤ (40 : Int))), ())) (
 .br (a0.1 == (5 : Int)) (
 .leaf ((a1.1 == (12 : Int)), ())) (
 .br (a0.1 == (6 : Int)) (
 .leaf ((a1.1 == (12 : Int)), ())) (
 .leaf ((a1.1 == (4 : Int)), ()))))
def Ajh (a0 : YI) (a1 : YI) : Option ((Bool × Unit)) := (Ajg a0 a1).val
def Wl (a0 : Av) (a1 : Av) : Tree ((Bool × Unit)) :=
 .br (a0.1 == a1.1) (
 .br (a0.2.1 == a1.2.1) (
 .br (a0.2.2.2.2.1 == a1.2.2.2.2.1) (
 .br (a0.2.2.2.2.2.2.2.1 == a1.2.2.2.2.2.2.2.1) (
 .br (a0.2.2.2.2.2.2.2.2.1 == a1.2.2.2.2.2.2.2.2.1) (
 .ob (Du (a0.2.2.1, ()) (a1.2.2.1, ())) fun r1 =>
 .br r1.1 (
 .ob (Du (a0.2.2.2.1, ()) (a1.2.2.2.1, ())) fun r2 =>
 .br r2.1 (
 .ob (Du (a0.2.2.2.2.2.1, ()) (a1.2.2.2.2.2.1, ())) fun r3 =>
 .br r3.1 (
 .ob (Du (a0.2.2.2.2.2.2.1, ()) (a1.2.2.2.2.2.2.1, ())) fun r4 =>
 .br r4.1 (
 .ob (Du (a0.2.2.2.2.2.2.2.2.2.1, ()) (a1.2.2.2.2.2.2.2.2.2.1, ())) fun r5 =>
 .br r5.1 (
 .ob (Du (a0.2.2.2.2.2.2.2.2.2.2.1, ()) (a1.2.2.2.2.2.2.2.2.2.2.1, ())) fun r6 =>
 .leaf r6) (
 .leaf (false, ()))) (
 .leaf (false, ()))) (
 .leaf (false, ()))) (
 .leaf (false, ()))) (
 .leaf (false, ()))) (
 .leaf (false, ()))) (
 .leaf (false, ()))) (
 .leaf (false, ()))) (
 .leaf (false, ()))) (
 .leaf (false, ()))
def Ir (a0 : Av) (a1 : Av) : Option ((Bool × Unit)) := (Wl a0 a1).val
def Aef (a0 : Av) : Tree ((Bool × Unit)) :=
 .br (a0.1 == (1 : Int)) (
 .ob (Bp (a0.2.1, ()) ((1 : Int), ()) ((9 : Int), ())) fun r1 =>
 .br r1.1 (
 .ob (Dx (a0.2.2.1, ())) fun r2 =>
 .br r2.1 (
 .ob (Ir a0 (a0.1, a0.2.1, a0.2.2.1, ([] : List YB), (0 : Int), ([] : List YB), ([] : List YB), (0 : Int), (0 : Int), ([] : List YB), ([] : List YB), ())) fun r3 =>
 .leaf r3) (
 .leaf (false, ()))) (
 .leaf (false, ()))) (
 .br (a0.1 == (2 : Int)) (
 .ob (Dx (a0.2.2.1, ())) fun r4 =>
 .br r4.1 (
 .ob (Dx (a0.2.2.2.1, ())) fun r5 =>
 .br r5.1 (
 .ob (Bp (a0.2.2.2.2.1, ()) ((0 : Int), ()) ((1000000 : Int), ())) fun r6 =>
 .br r6.1 (
 .br ((a0.2.2.2.2.2.1.length : Int) == (16 : Int)) (
 .ob (Ir a0 (a0.1, (0 : Int), a0.2.2.1, a0.2.2.2.1, a0.2.2.2.2.1, a0.2.2.2.2.2.1, ([] : List YB), (0 : Int), (0 : Int), ([] : List YB), ([] : List YB), ())) fun r7 =>
 .leaf r7) (
 .leaf (false, ()))) (
 .leaf (false, ()))) (
 .leaf (false, ()))) (
 .leaf (false, ()))) (
 .br (a0.1 == (3 : Int)) (
 .ob (Bp (a0.2.1, ()) ((1 : Int), ()) ((9 : Int), ())) fun r8 =>
 .br r8.1 (
 .ob (Dx (a0.2.2.1, ())) fun r9 =>
 .br r9.1 (
 .ob (Dx (a0.2.2.2.1, ())) fun r10 =>
 .br r10.1 (
 .ob (Bp (a0.2.2.2.2.1, ()) ((0 : Int), ()) ((1000000 : Int), ())) fun r11 =>
 .br r11.1 (
 .br ((a0.2.2.2.2.2.1.length : Int) == (16 : Int)) (
 .br ((a0.2.2.2.2.2.2.1.length : Int) == (16 : Int)) (
 .ob (Ir a0 (a0.1, a0.2.1, a0.2.2.1, a0.2.2.2.1, a0.2.2.2.2.1, a0.2.2.2.2.2.1, a0.2.2.2.2.2.2.1, (0 : Int), (0 : Int), ([] : List YB), ([] : List YB), ())) fun r12 =>
 .leaf r12) (
 .leaf (false, ()))) (
 .leaf (false, ()))) (
 .leaf (false, ()))) (
 .leaf (false, ()))) (
 .leaf (false, ()))) (
 .leaf (false, ()))) (
 .ob (Oy (a0.1, ())) fun r13 =>
 .br r13.1 (
 .ob (Dx (a0.2.2.2.1, ())) fun r14 =>
 .br r14.1 (
 .ob (Bp (a0.2.2.2.2.2.2.2.1, ()) ((0 : Int), ()) ((4294967295 : Int), ())) fun r15 =>
 .br r15.1 (
 .ob (Bp (a0.2.2.2.2.2.2.2.2.1, ()) ((0 : Int), ()) ((281474976710655 : Int), ())) fun r16 =>
 .br r16.1 (
 .br ((a0.2.2.2.2.2.2.2.2.2.2.1.length : Int) == (16 : Int)) (
 .ob (Ajh (a0.1, ()) ((a0.2.2.2.2.2.2.2.2.2.1.length : Int), ())) fun r17 =>
 .br r17.1 (
 .ob (Ir a0 (a0.1, (0 : Int), ([] : List YB), a0.2.2.2.1, (0 : Int), ([] : List YB), ([] : List YB), a0.2.2.2.2.2.2.2.1, a0.2.2.2.2.2.2.2.2.1, a0.2.2.2.2.2.2.2.2.2.1, a0.2.2.2.2.2.2.2.2.2.2.1, ())) fun r18 =>
 .leaf r18) (
 .leaf (false, ()))) (
 .leaf (false, ()))) (
 .leaf (false, ()))) (
 .leaf (false, ()))) (
 .leaf (false, ()))) (
 .leaf (false, ())))))
def P9 (a0 : Av) : Option ((Bool × Unit)) := (Aef a0).val
def Oz (x1 : (List YB) × (List YB) × Int × Int × Int × Unit) : Option (((List YB) × (List YB) × Int × Int × Int × Unit) ⊕ (YI)) :=
 Tree.val (α := ((List YB) × (List YB) × Int × Int × Int × Unit) ⊕ (YI)) <|
 .br (decide (x1.2.2.2.2.1 < x1.2.2.2.1)) (
 .ob (idx x1.1 x1.2.2.2.2.1) fun e2 =>
 .ob (idx x1.2.1 x1.2.2.2.2.1) fun e3 =>
 .leaf (.inl (x1.1, x1.2.1, (i64.wrap ((BitVec.ofInt (i64.bits) (x1.2.2.1) ||| BitVec.ofInt (i64.bits) ((i64.wrap ((u8.wrap ((BitVec.ofInt (u8.bits) (e2.1) ^^^ BitVec.ofInt (u8.bits) (e3.1)).toNat : Nat)))))).toNat : Nat)), x1.2.2.2.1, (i64.wrap (x1.2.2.2.2.1 + (1 : Int))), ()))) (
 .leaf (.inr (x1.2.2.1, ())))
def Aab (a0 : YBs) (a1 : YBs) : Tree (YI) :=
 .br ((a0.1.length : Int) != (a1.1.length : Int)) (
 .leaf ((-1 : Int), ())) (
 .ob (Ay Oz (a0.1, a1.1, (0 : Int), (a0.1.length : Int), (0 : Int), ())) fun o4 =>
 .leaf o4)
def Q6 (a0 : YBs) (a1 : YBs) : Option (YI) := (Aab a0 a1).val
def Aji  : Tree (Bo) :=
 .leaf ((-1 : Int), (List.replicate ((32 : Int)).toNat ((0 : Int), ())), ())
def Xs  : Option (Bo) := (Aji ).val
def Ab7 (a0 : YI) (a1 : YBs) : Tree (YEp) :=
 .ob (Bp a0 ((0 : Int), ()) ((4294967295 : Int), ())) fun r1 =>
 .br (!r1.1) (
 .leaf ((0 : Int), ([] : List YB), (0 : Int), (0 : Int), ([] : List YI), ())) (
 .br ((a1.1.length : Int) != (32 : Int)) (
 .leaf ((0 : Int), ([] : List YB), (0 : Int), (0 : Int), ([] : List YI), ())) (
 .ob (Bz a1) fun r2 =>
 .ob Xs fun r3 =>
 .leaf (a0.1, r2.1, (0 : Int), r3.1, r3.2.1, ())))
def Nd (a0 : YI) (a1 : YBs) : Option (YEp) := (Ab7 a0 a1).val
def Ajj (x1 : Int × (List YB) × Int × Unit) : Option ((Int × (List YB) × Int × Unit) ⊕ (YBs)) :=
 Tree.val (α := (Int × (List YB) × Int × Unit) ⊕ (YBs)) <|
 .br (decide (x1.2.2.1 ≥ (0 : Int))) (
 .chk (decide ((0 : Int) ≤ (i64.wrap ((8 : Int) * x1.2.2.1)))) <|
 .chk (decide (x1.2.1.length + [((u8.wrap ((i64.wrap ((BitVec.ofInt (i64.bits) ((Int.fdiv x1.1 (2 ^ (min ((i64.wrap ((8 : Int) * x1.2.2.1))).toNat i64.bits)))) &&& BitVec.ofInt (i64.bits) ((255 : Int))).toNat : Nat)))), ())].length ≤ 4294967296)) <|
 .leaf (.inl (x1.1, (x1.2.1 ++ [((u8.wrap ((i64.wrap ((BitVec.ofInt (i64.bits) ((Int.fdiv x1.1 (2 ^ (min ((i64.wrap ((8 : Int) * x1.2.2.1))).toNat i64.bits)))) &&& BitVec.ofInt (i64.bits) ((255 : Int))).toNat : Nat)))), ())]), (i64.wrap (x1.2.2.1 - (1 : Int))), ()))) (
 .leaf (.inr (x1.2.1, ())))
def Ajk (a0 : YBs) (a1 : YI) (a2 : YI) : Tree (YBs) :=
 .chk (decide (([] : List YB).length + a0.1.length ≤ 4294967296)) <|
 .br (decide (a2.1 < (1 : Int))) (
 .leaf ((([] : List YB) ++ a0.1), ())) (
 .br (decide (a2.1 > (6 : Int))) (
 .leaf ((([] : List YB) ++ a0.1), ())) (
 .ob (Ay Ajj (a1.1, (([] : List YB) ++ a0.1), (i64.wrap (a2.1 - (1 : Int))), ())) fun o2 =>
 .leaf o2))
def Jv (a0 : YBs) (a1 : YI) (a2 : YI) : Option (YBs) := (Ajk a0 a1 a2).val
def H1 (x1 : (List YB) × (List YBs) × Int × Int × Unit) : Option (((List YB) × (List YBs) × Int × Int × Unit) ⊕ (YBs)) :=
 Tree.val (α := ((List YB) × (List YBs) × Int × Int × Unit) ⊕ (YBs)) <|
 .br (decide (x1.2.2.2.1 < x1.2.2.1)) (
 .ob (idx x1.2.1 x1.2.2.2.1) fun e2 =>
 .chk (decide (x1.1.length + e2.1.length ≤ 4294967296)) <|
 .leaf (.inl ((x1.1 ++ e2.1), x1.2.1, x1.2.2.1, (i64.wrap (x1.2.2.2.1 + (1 : Int))), ()))) (
 .leaf (.inr (x1.1, ())))
def Sd (a0 : (List YBs) × Unit) : Tree (YBs) :=
 .ob (Ay H1 (([] : List YB), a0.1, (a0.1.length : Int), (0 : Int), ())) fun o3 =>
 .leaf o3
def Fw (a0 : (List YBs) × Unit) : Option (YBs) := (Sd a0).val
def Ajl (a0 : YI) (a1 : YBs) (a2 : YI) (a3 : YI) : Tree (YBs) :=
 .ob (Ow a0) fun r1 =>
 .br (!r1.1) (
 .leaf (([] : List YB), ())) (
 .ob (Dx a1) fun r2 =>
 .br (!r2.1) (
 .leaf (([] : List YB), ())) (
 .ob (Bp a2 ((0 : Int), ()) ((4294967295 : Int), ())) fun r3 =>
 .br (!r3.1) (
 .leaf (([] : List YB), ())) (
 .ob (Bp a3 ((0 : Int), ()) ((281474976710655 : Int), ())) fun r4 =>
 .br (!r4.1) (
 .leaf (([] : List YB), ())) (
 .ob (Jv (([] : List YB), ()) a2 ((4 : Int), ())) fun r5 =>
 .ob (Jv (([] : List YB), ()) a3 ((6 : Int), ())) fun r6 =>
 .ob (Fw ([([((u8.wrap (a0.1)), ())], ()), a1, r5, r6], ())) fun r7 =>
 .leaf r7))))
def Se (a0 : YI) (a1 : YBs) (a2 : YI) (a3 : YI) : Option (YBs) := (Ajl a0 a1 a2 a3).val
def Aac (a0 : YI) (a1 : Av) : Tree (YBs) :=
 .ob (Ow a0) fun r1 =>
 .br (!r1.1) (
 .leaf (([] : List YB), ())) (
 .ob (Oy (a1.1, ())) fun r2 =>
 .br (!r2.1) (
 .leaf (([] : List YB), ())) (
 .ob (P9 a1) fun r3 =>
 .br (!r3.1) (
 .leaf (([] : List YB), ())) (
 .ob (Se a0 (a1.2.2.2.1, ()) (a1.2.2.2.2.2.2.2.1, ()) (a1.2.2.2.2.2.2.2.2.1, ())) fun r4 =>
 .ob (Fw ([([((116 : Int), ())], ()), r4, ([((u8.wrap (a1.1)), ())], ()), (a1.2.2.2.2.2.2.2.2.2.1, ())], ())) fun r5 =>
 .leaf r5)))
def H2 (a0 : YI) (a1 : Av) : Option (YBs) := (Aac a0 a1).val
def Ajm (a0 : Bo) (a1 : YI) : Tree ((Bool × Unit)) :=
 .ob (Ab6 a0) fun r1 =>
 .br (!r1.1) (
 .leaf (false, ())) (
 .ob (Bp a1 ((0 : Int), ()) ((281474976710655 : Int), ())) fun r2 =>
 .br (!r2.1) (
 .leaf (false, ())) (
 .br (decide (a1.1 > a0.1)) (
 .leaf (true, ())) (
 .br (decide (a1.1 ≥ (i64.wrap ((i64.wrap (a0.1 - (1024 : Int))) + (1 : Int))))) (
 .ob (Sc a0 a1) fun r3 =>
 .leaf ((!r3.1), ())) (
 .leaf (false, ())))))
def Ajn (a0 : Bo) (a1 : YI) : Option ((Bool × Unit)) := (Ajm a0 a1).val
def H3 (x3 : Int × Int × Int × (List YI) × Int × (List YI) × Int × (List YI) × Unit) : Option ((Int × Int × Int × (List YI) × Int × (List YI) × Int × (List YI) × Unit) ⊕ ((Int × Int × (List YI) × Int × (List YI) × Int × (List YI) × Unit))) :=
 Tree.val (α := (Int × Int × Int × (List YI) × Int × (List YI) × Int × (List YI) × Unit) ⊕ ((Int × Int × (List YI) × Int × (List YI) × Int × (List YI) × Unit))) <|
 .br (decide (x3.2.1 < x3.1)) (
 .chk (decide ((0 : Int) ≤ x3.2.1)) <|
 .chk (decide ((0 : Int) ≤ (x3.2.1 % (1024 : Int)))) <|
 .ob (idx x3.2.2.2.2.2.2.2.1 ((x3.2.1 % (1024 : Int)) / (32 : Int))) fun e4 =>
 .chk (decide ((0 : Int) ≤ x3.2.1)) <|
 .chk (decide ((0 : Int) ≤ (x3.2.1 % (32 : Int)))) <|
 .ob (idx x3.2.2.2.2.2.2.2.1 ((x3.2.1 % (1024 : Int)) / (32 : Int))) fun e5 =>
 let q6 := (x3.2.2.2.2.2.2.2.1.set (((x3.2.1 % (1024 : Int)) / (32 : Int))).toNat ((i64.wrap ((BitVec.ofInt (i64.bits) (e4.1) &&& ~~~ BitVec.ofInt (i64.bits) ((i64.wrap ((1 : Int) * 2 ^ (min ((x3.2.1 % (32 : Int))).toNat i64.bits))))).toNat : Nat)), ()))
 .leaf (.inl (x3.1, (i64.wrap (x3.2.1 + (1 : Int))), x3.2.2.1, x3.2.2.2.1, x3.2.2.2.2.1, x3.2.2.2.2.2.1, x3.2.2.2.2.2.2.1, q6, ()))) (
 .leaf (.inr (x3.1, x3.2.2.1, x3.2.2.2.1, x3.2.2.2.2.1, x3.2.2.2.2.2.1, x3.2.2.2.2.2.2.1, x3.2.2.2.2.2.2.2.1, ())))
def Sf (a0 : Bo) (a1 : YI) : Tree (Bo × (Bool × Unit)) :=
 .ob (Vf a0) fun r1 =>
 .ob (Ajn a0 a1) fun r2 =>
 .br (!r2.1) (
 .leaf (r1, (false, ()))) (
 .ob (Ay H3 (a1.1, (if (i64.wrap (a0.1 + (1 : Int))) < (i64.wrap ((i64.wrap (a1.1 - (1024 : Int))) + (1 : Int))) then (i64.wrap ((i64.wrap (a1.1 - (1024 : Int))) + (1 : Int))) else (i64.wrap (a0.1 + (1 : Int)))), a0.1, a0.2.1, (0 : Int), ([] : List YI), r1.1, r1.2.1, ())) fun o7 =>
 .chk (decide ((0 : Int) ≤ o7.1)) <|
 .chk (decide ((0 : Int) ≤ (o7.1 % (1024 : Int)))) <|
 .ob (idx o7.2.2.2.2.2.2.1 ((o7.1 % (1024 : Int)) / (32 : Int))) fun e8 =>
 .chk (decide ((0 : Int) ≤ o7.1)) <|
 .chk (decide ((0 : Int) ≤ (o7.1 % (32 : Int)))) <|
 .ob (idx o7.2.2.2.2.2.2.1 ((o7.1 % (1024 : Int)) / (32 : Int))) fun e9 =>
 let q10 := (o7.2.2.2.2.2.2.1.set (((o7.1 % (1024 : Int)) / (32 : Int))).toNat ((i64.wrap ((BitVec.ofInt (i64.bits) (e8.1) ||| BitVec.ofInt (i64.bits) ((i64.wrap ((1 : Int) * 2 ^ (min ((o7.1 % (32 : Int))).toNat i64.bits))))).toNat : Nat)), ()))
 .leaf (((if o7.2.1 < o7.1 then o7.1 else o7.2.1), q10, ()), (true, ())))
def Ajo (a0 : Bo) (a1 : YI) : Option (Bo × (Bool × Unit)) := (Sf a0 a1).val
def A5d  : Tree (((List YI) × Unit)) :=
 .leaf ([((1779033703 : Int), ()), ((3144134277 : Int), ()), ((1013904242 : Int), ()), ((2773480762 : Int), ()), ((1359893119 : Int), ()), ((2600822924 : Int), ()), ((528734635 : Int), ()), ((1541459225 : Int), ())], ())
def Bi0  : Option (((List YI) × Unit)) := (A5d ).val
def Atl  : Tree (Lc) :=
 .ob Bi0 fun r1 =>
 .leaf (r1.1, ([] : List YB), (0 : Int), ())
def Atm  : Option (Lc) := (Atl ).val
def Ajp (a0 : Lc) : Tree ((Bool × Unit)) :=
 .ob (Nc (a0.1, ()) ((8 : Int), ())) fun r1 =>
 .br r1.1 (
 .ob (Bp (a0.2.2.1, ()) ((0 : Int), ()) ((1048576 : Int), ())) fun r2 =>
 .br r2.1 (
 .chk (decide ((0 : Int) ≤ a0.2.2.1)) <|
 .leaf (((a0.2.2.1 % (64 : Int)) == (a0.2.1.length : Int)), ())) (
 .leaf (false, ()))) (
 .leaf (false, ()))
def Xt (a0 : Lc) : Option ((Bool × Unit)) := (Ajp a0).val
def A2s (a0 : YBs) (a1 : YI) (a2 : YI) : Tree (YBs × (Bool × Unit)) :=
 .br (decide (a1.1 < (0 : Int))) (
 .leaf ((([] : List YB), ()), (false, ()))) (
 .br (decide (a2.1 < (0 : Int))) (
 .leaf ((([] : List YB), ()), (false, ()))) (
 .br (decide (a1.1 > (a0.1.length : Int))) (
 .leaf ((([] : List YB), ()), (false, ()))) (
 .br (decide (a2.1 > (i64.wrap ((a0.1.length : Int) - a1.1)))) (
 .leaf ((([] : List YB), ()), (false, ()))) (
 .chk (decide ((0 : Int) ≤ a1.1)) <|
 .chk (decide (a1.1 ≤ (i64.wrap (a1.1 + a2.1)))) <|
 .chk (decide ((i64.wrap (a1.1 + a2.1)) ≤ (a0.1.length : Int))) <|
 .chk (decide (([] : List YB).length + ((a0.1.take ((i64.wrap (a1.1 + a2.1))).toNat).drop (a1.1).toNat).length ≤ 4294967296)) <|
 .leaf (((([] : List YB) ++ ((a0.1.take ((i64.wrap (a1.1 + a2.1))).toNat).drop (a1.1).toNat)), ()), (true, ()))))))
def A2t (a0 : YBs) (a1 : YI) (a2 : YI) : Option (YBs × (Bool × Unit)) := (A2s a0 a1 a2).val
def Li (x2 : Int × Int × Int × (List YB) × Int × Int × Unit) : Option ((Int × Int × Int × (List YB) × Int × Int × Unit) ⊕ ((Int × Int × Int × Unit))) :=
 Tree.val (α := (Int × Int × Int × (List YB) × Int × Int × Unit) ⊕ ((Int × Int × Int × Unit))) <|
 .br (decide (x2.2.2.2.2.2.1 < x2.2.2.2.2.1)) (
 .ob (idx x2.2.2.2.1 x2.2.2.2.2.2.1) fun e3 =>
 .leaf (.inl (x2.1, x2.2.1, (i64.wrap ((i64.wrap ((256 : Int) * x2.2.2.1)) + (i64.wrap (e3.1)))), x2.2.2.2.1, x2.2.2.2.2.1, (i64.wrap (x2.2.2.2.2.2.1 + (1 : Int))), ()))) (
 .leaf (.inr (x2.1, x2.2.1, x2.2.2.1, ())))
def Aad (a0 : YBs) (a1 : YI) (a2 : YI) : Tree (YI × YI × (Bool × Unit)) :=
 .br (decide (a2.1 < (1 : Int))) (
 .leaf (((0 : Int), ()), ((0 : Int), ()), (false, ()))) (
 .br (decide (a2.1 > (6 : Int))) (
 .leaf (((0 : Int), ()), ((0 : Int), ()), (false, ()))) (
 .ob (A2t a0 a1 a2) fun r1 =>
 .br (!r1.2.1) (
 .leaf (((0 : Int), ()), ((0 : Int), ()), (false, ()))) (
 .ob (Ay Li (a1.1, a2.1, (0 : Int), r1.1.1, (r1.1.1.length : Int), (0 : Int), ())) fun o4 =>
 .leaf ((o4.2.2.1, ()), ((i64.wrap (o4.1 + o4.2.1)), ()), (true, ())))))
def Avt (a0 : YBs) (a1 : YI) (a2 : YI) : Option (YI × YI × (Bool × Unit)) := (Aad a0 a1 a2).val
def A2u (a0 : YI) (a1 : YI) : Tree (YI) :=
 .br (decide (a1.1 < (0 : Int))) (
 .leaf ((i64.wrap ((BitVec.ofInt (i64.bits) (a0.1) &&& BitVec.ofInt (i64.bits) ((4294967295 : Int))).toNat : Nat)), ())) (
 .br (decide (a1.1 > (31 : Int))) (
 .leaf ((i64.wrap ((BitVec.ofInt (i64.bits) (a0.1) &&& BitVec.ofInt (i64.bits) ((4294967295 : Int))).toNat : Nat)), ())) (
 .chk (decide ((0 : Int) ≤ a1.1)) <|
 .chk (decide ((0 : Int) ≤ (i64.wrap ((32 : Int) - a1.1)))) <|
 .leaf ((i64.wrap ((BitVec.ofInt (i64.bits) ((i64.wrap ((BitVec.ofInt (i64.bits) ((Int.fdiv (i64.wrap ((BitVec.ofInt (i64.bits) (a0.1) &&& BitVec.ofInt (i64.bits) ((4294967295 : Int))).toNat : Nat)) (2 ^ (min (a1.1).toNat i64.bits)))) ||| BitVec.ofInt (i64.bits) ((i64.wrap ((i64.wrap ((BitVec.ofInt (i64.bits) (a0.1) &&& BitVec.ofInt (i64.bits) ((4294967295 : Int))).toNat : Nat)) * 2 ^ (min ((i64.wrap ((32 : Int) - a1.1))).toNat i64.bits))))).toNat : Nat))) &&& BitVec.ofInt (i64.bits) ((4294967295 : Int))).toNat : Nat)), ())))
def Is (a0 : YI) (a1 : YI) : Option (YI) := (A2u a0 a1).val
def Hk (x1 : (List YB) × (List YI) × Int × Unit) : Option (((List YB) × (List YI) × Int × Unit) ⊕ (((List YI) × Unit))) :=
 Tree.val (α := ((List YB) × (List YI) × Int × Unit) ⊕ (((List YI) × Unit))) <|
 .br (decide (x1.2.2.1 < (16 : Int))) (
 .ob (Avt (x1.1, ()) ((i64.wrap ((4 : Int) * x1.2.2.1)), ()) ((4 : Int), ())) fun r2 =>
 .ob (idx x1.2.1 x1.2.2.1) fun e3 =>
 let q4 := (x1.2.1.set (x1.2.2.1).toNat r2.1)
 .leaf (.inl (x1.1, q4, (i64.wrap (x1.2.2.1 + (1 : Int))), ()))) (
 .leaf (.inr (x1.2.1, ())))
def Hl (x6 : (List YI) × Int × Unit) : Option (((List YI) × Int × Unit) ⊕ (((List YI) × Unit))) :=
 Tree.val (α := ((List YI) × Int × Unit) ⊕ (((List YI) × Unit))) <|
 .br (decide (x6.2.1 < (64 : Int))) (
 .ob (idx x6.1 (i64.wrap (x6.2.1 - (15 : Int)))) fun e7 =>
 .ob (idx x6.1 (i64.wrap (x6.2.1 - (2 : Int)))) fun e8 =>
 .ob (Is e7 ((7 : Int), ())) fun r9 =>
 .ob (Is e7 ((18 : Int), ())) fun r10 =>
 .ob (Is e8 ((17 : Int), ())) fun r11 =>
 .ob (Is e8 ((19 : Int), ())) fun r12 =>
 .ob (idx x6.1 (i64.wrap (x6.2.1 - (7 : Int)))) fun e13 =>
 .ob (idx x6.1 (i64.wrap (x6.2.1 - (16 : Int)))) fun e14 =>
 .ob (idx x6.1 x6.2.1) fun e15 =>
 let q16 := (x6.1.set (x6.2.1).toNat ((i64.wrap ((BitVec.ofInt (i64.bits) ((i64.wrap ((i64.wrap ((i64.wrap (e13.1 + e14.1)) + (i64.wrap ((BitVec.ofInt (i64.bits) ((i64.wrap ((BitVec.ofInt (i64.bits) (r9.1) ^^^ BitVec.ofInt (i64.bits) (r10.1)).toNat : Nat))) ^^^ BitVec.ofInt (i64.bits) ((Int.fdiv e7.1 (2 ^ (min ((3 : Int)).toNat i64.bits))))).toNat : Nat)))) + (i64.wrap ((BitVec.ofInt (i64.bits) ((i64.wrap ((BitVec.ofInt (i64.bits) (r11.1) ^^^ BitVec.ofInt (i64.bits) (r12.1)).toNat : Nat))) ^^^ BitVec.ofInt (i64.bits) ((Int.fdiv e8.1 (2 ^ (min ((10 : Int)).toNat i64.bits))))).toNat : Nat))))) &&& BitVec.ofInt (i64.bits) ((4294967295 : Int))).toNat : Nat)), ()))
 .leaf (.inl (q16, (i64.wrap (x6.2.1 + (1 : Int))), ()))) (
 .leaf (.inr (x6.1, ())))
def Nf (a0 : YBs) : Tree (((List YI) × Unit)) :=
 .br ((a0.1.length : Int) != (64 : Int)) (
 .leaf (([] : List YI), ())) (
 .ob (Ay Hk (a0.1, (List.replicate ((64 : Int)).toNat ((0 : Int), ())), (0 : Int), ())) fun o5 =>
 .ob (Ay Hl (o5.1, (16 : Int), ())) fun o17 =>
 .leaf o17)
def Aae (a0 : YBs) : Option (((List YI) × Unit)) := (Nf a0).val
def Amn (a0 : YI) : Tree YI := .leaf (Vz a0.1, ())
def Amo (a0 : YI) : Option YI := (Amn a0).val
def A5e (a0 : YI) (a1 : YI) : Tree (YI) :=
 .leaf ((i64.wrap ((BitVec.ofInt (i64.bits) ((i64.wrap (a0.1 + a1.1))) &&& BitVec.ofInt (i64.bits) ((4294967295 : Int))).toNat : Nat)), ())
def Ab8 (a0 : YI) (a1 : YI) : Option (YI) := (A5e a0 a1).val
def Fq (x11 : (List YI) × (List YI) × (List YI) × Int × Int × Int × Int × Int × Int × Int × Int × Int × Unit) : Option (((List YI) × (List YI) × (List YI) × Int × Int × Int × Int × Int × Int × Int × Int × Int × Unit) ⊕ (((List YI) × (List YI) × Int × Int × Int × Int × Int × Int × Int × Int × Unit))) :=
 Tree.val (α := ((List YI) × (List YI) × (List YI) × Int × Int × Int × Int × Int × Int × Int × Int × Int × Unit) ⊕ (((List YI) × (List YI) × Int × Int × Int × Int × Int × Int × Int × Int × Unit))) <|
 .br (decide (x11.2.2.2.2.2.2.2.2.2.2.2.1 < (64 : Int))) (
 .ob (Is (x11.2.2.2.2.2.2.2.1, ()) ((6 : Int), ())) fun r12 =>
 .ob (Is (x11.2.2.2.2.2.2.2.1, ()) ((11 : Int), ())) fun r13 =>
 .ob (Is (x11.2.2.2.2.2.2.2.1, ()) ((25 : Int), ())) fun r14 =>
 .ob (Amo (x11.2.2.2.2.2.2.2.2.2.2.2.1, ())) fun r15 =>
 .ob (idx x11.2.2.1 x11.2.2.2.2.2.2.2.2.2.2.2.1) fun e16 =>
 .ob (Is (x11.2.2.2.1, ()) ((2 : Int), ())) fun r17 =>
 .ob (Is (x11.2.2.2.1, ()) ((13 : Int), ())) fun r18 =>
 .ob (Is (x11.2.2.2.1, ()) ((22 : Int), ())) fun r19 =>
 .ob (Ab8 (x11.2.2.2.2.2.2.1, ()) ((i64.wrap ((i64.wrap ((i64.wrap ((i64.wrap (x11.2.2.2.2.2.2.2.2.2.2.1 + (i64.wrap ((BitVec.ofInt (i64.bits) ((i64.wrap ((BitVec.ofInt (i64.bits) (r12.1) ^^^ BitVec.ofInt (i64.bits) (r13.1)).toNat : Nat))) ^^^ BitVec.ofInt (i64.bits) (r14.1)).toNat : Nat)))) + (i64.wrap ((BitVec.ofInt (i64.bits) ((i64.wrap ((BitVec.ofInt (i64.bits) (x11.2.2.2.2.2.2.2.1) &&& BitVec.ofInt (i64.bits) (x11.2.2.2.2.2.2.2.2.1)).toNat : Nat))) ^^^ BitVec.ofInt (i64.bits) ((i64.wrap ((BitVec.ofInt (i64.bits) ((i64.wrap ((BitVec.ofInt (i64.bits) ((4294967295 : Int)) ^^^ BitVec.ofInt (i64.bits) (x11.2.2.2.2.2.2.2.1)).toNat : Nat))) &&& BitVec.ofInt (i64.bits) (x11.2.2.2.2.2.2.2.2.2.1)).toNat : Nat)))).toNat : Nat)))) + r15.1)) + e16.1)), ())) fun r20 =>
 .ob (Ab8 ((i64.wrap ((i64.wrap ((i64.wrap ((i64.wrap (x11.2.2.2.2.2.2.2.2.2.2.1 + (i64.wrap ((BitVec.ofInt (i64.bits) ((i64.wrap ((BitVec.ofInt (i64.bits) (r12.1) ^^^ BitVec.ofInt (i64.bits) (r13.1)).toNat : Nat))) ^^^ BitVec.ofInt (i64.bits) (r14.1)).toNat : Nat)))) + (i64.wrap ((BitVec.ofInt (i64.bits) ((i64.wrap ((BitVec.ofInt (i64.bits) (x11.2.2.2.2.2.2.2.1) &&& BitVec.ofInt (i64.bits) (x11.2.2.2.2.2.2.2.2.1)).toNat : Nat))) ^^^ BitVec.ofInt (i64.bits) ((i64.wrap ((BitVec.ofInt (i64.bits) ((i64.wrap ((BitVec.ofInt (i64.bits) ((4294967295 : Int)) ^^^ BitVec.ofInt (i64.bits) (x11.2.2.2.2.2.2.2.1)).toNat : Nat))) &&& BitVec.ofInt (i64.bits) (x11.2.2.2.2.2.2.2.2.2.1)).toNat : Nat)))).toNat : Nat)))) + r15.1)) + e16.1)), ()) ((i64.wrap ((i64.wrap ((BitVec.ofInt (i64.bits) ((i64.wrap ((BitVec.ofInt (i64.bits) (r17.1) ^^^ BitVec.ofInt (i64.bits) (r18.1)).toNat : Nat))) ^^^ BitVec.ofInt (i64.bits) (r19.1)).toNat : Nat)) + (i64.wrap ((BitVec.ofInt (i64.bits) ((i64.wrap ((BitVec.ofInt (i64.bits) ((i64.wrap ((BitVec.ofInt (i64.bits) (x11.2.2.2.1) &&& BitVec.ofInt (i64.bits) (x11.2.2.2.2.1)).toNat : Nat))) ^^^ BitVec.ofInt (i64.bits) ((i64.wrap ((BitVec.ofInt (i64.bits) (x11.2.2.2.1) &&& BitVec.ofInt (i64.bits) (x11.2.2.2.2.2.1)).toNat : Nat)))).toNat : Nat))) ^^^ BitVec.ofInt (i64.bits) ((i64.wrap ((BitVec.ofInt (i64.bits) (x11.2.2.2.2.1) &&& BitVec.ofInt (i64.bits) (x11.2.2.2.2.2.1)).toNat : Nat)))).toNat : Nat)))), ())) fun r21 =>
 .leaf (.inl (x11.1, x11.2.1, x11.2.2.1, r21.1, x11.2.2.2.1, x11.2.2.2.2.1, x11.2.2.2.2.2.1, r20.1, x11.2.2.2.2.2.2.2.1, x11.2.2.2.2.2.2.2.2.1, x11.2.2.2.2.2.2.2.2.2.1, (i64.wrap (x11.2.2.2.2.2.2.2.2.2.2.2.1 + (1 : Int))), ()))) (
 .leaf (.inr (x11.1, x11.2.1, x11.2.2.2.1, x11.2.2.2.2.1, x11.2.2.2.2.2.1, x11.2.2.2.2.2.2.1, x11.2.2.2.2.2.2.2.1, x11.2.2.2.2.2.2.2.2.1, x11.2.2.2.2.2.2.2.2.2.1, x11.2.2.2.2.2.2.2.2.2.2.1, ())))
def E6 (x23 : (List YI) × (List YI) × (List YI) × Int × Int × Unit) : Option (((List YI) × (List YI) × (List YI) × Int × Int × Unit) ⊕ (((List YI) × Unit))) :=
 Tree.val (α := ((List YI) × (List YI) × (List YI) × Int × Int × Unit) ⊕ (((List YI) × Unit))) <|
 .br (decide (x23.2.2.2.2.1 < x23.2.2.2.1)) (
 .ob (idx x23.2.2.1 x23.2.2.2.2.1) fun e24 =>
 .ob (idx x23.1 x23.2.2.2.2.1) fun e25 =>
 .ob (Ab8 e25 e24) fun r26 =>
 .ob (idx x23.2.1 x23.2.2.2.2.1) fun e27 =>
 let q28 := (x23.2.1.set (x23.2.2.2.2.1).toNat r26)
 .leaf (.inl (x23.1, q28, x23.2.2.1, x23.2.2.2.1, (i64.wrap (x23.2.2.2.2.1 + (1 : Int))), ()))) (
 .leaf (.inr (x23.2.1, ())))
def Ng (a0 : (List YI) × Unit) (a1 : YBs) : Tree (((List YI) × Unit)) :=
 .chk (decide (([] : List YI).length + a0.1.length ≤ 4294967296)) <|
 .ob (Nc a0 ((8 : Int), ())) fun r1 =>
 .br (!r1.1) (
 .leaf ((([] : List YI) ++ a0.1), ())) (
 .br ((a1.1.length : Int) != (64 : Int)) (
 .leaf ((([] : List YI) ++ a0.1), ())) (
 .ob (Aae a1) fun r2 =>
 .ob (idx a0.1 (0 : Int)) fun e3 =>
 .ob (idx a0.1 (1 : Int)) fun e4 =>
 .ob (idx a0.1 (2 : Int)) fun e5 =>
 .ob (idx a0.1 (3 : Int)) fun e6 =>
 .ob (idx a0.1 (4 : Int)) fun e7 =>
 .ob (idx a0.1 (5 : Int)) fun e8 =>
 .ob (idx a0.1 (6 : Int)) fun e9 =>
 .ob (idx a0.1 (7 : Int)) fun e10 =>
 .ob (Ay Fq (a0.1, (([] : List YI) ++ a0.1), r2.1, e3.1, e4.1, e5.1, e6.1, e7.1, e8.1, e9.1, e10.1, (0 : Int), ())) fun o22 =>
 .ob (Ay E6 (o22.1, o22.2.1, [(o22.2.2.1, ()), (o22.2.2.2.1, ()), (o22.2.2.2.2.1, ()), (o22.2.2.2.2.2.1, ()), (o22.2.2.2.2.2.2.1, ()), (o22.2.2.2.2.2.2.2.1, ()), (o22.2.2.2.2.2.2.2.2.1, ()), (o22.2.2.2.2.2.2.2.2.2.1, ())], ([(o22.2.2.1, ()), (o22.2.2.2.1, ()), (o22.2.2.2.2.1, ()), (o22.2.2.2.2.2.1, ()), (o22.2.2.2.2.2.2.1, ()), (o22.2.2.2.2.2.2.2.1, ()), (o22.2.2.2.2.2.2.2.2.1, ()), (o22.2.2.2.2.2.2.2.2.2.1, ())].length : Int), (0 : Int), ())) fun o29 =>
 .leaf o29))
def Nh (a0 : (List YI) × Unit) (a1 : YBs) : Option (((List YI) × Unit)) := (Ng a0 a1).val
def Dy (x3 : (List YI) × (List YB) × Unit) : Option (((List YI) × (List YB) × Unit) ⊕ (((List YI) × (List YB) × Unit))) :=
 Tree.val (α := ((List YI) × (List YB) × Unit) ⊕ (((List YI) × (List YB) × Unit))) <|
 .br (decide ((x3.2.1.length : Int) ≥ (64 : Int))) (
 .chk (decide ((64 : Int) ≤ (x3.2.1.length : Int))) <|
 .ob (Nh (x3.1, ()) (((x3.2.1.take ((64 : Int)).toNat).drop ((0 : Int)).toNat), ())) fun r4 =>
 .chk (decide ((64 : Int) ≤ (x3.2.1.length : Int))) <|
 .chk (decide ((x3.2.1.length : Int) ≤ (x3.2.1.length : Int))) <|
 .leaf (.inl (r4.1, ((x3.2.1.take ((x3.2.1.length : Int)).toNat).drop ((64 : Int)).toNat), ()))) (
 .leaf (.inr x3))
def Ja (a0 : (List YI) × Unit) (a1 : YBs) : Tree (((List YI) × Unit) × YBs) :=
 .ob (Ay Dy (a0.1, a1.1, ())) fun o5 =>
 .leaf ((o5.1, ()), (o5.2.1, ()))
def Ms (a0 : (List YI) × Unit) (a1 : YBs) : Option (((List YI) × Unit) × YBs) := (Ja a0 a1).val
def Aeg (a0 : Lc) (a1 : YBs) : Tree (Lc) :=
 .ob (Xt a0) fun r1 =>
 .br (!r1.1) (
 .chk (decide (([] : List YI).length + a0.1.length ≤ 4294967296)) <|
 .ob (Bz (a0.2.1, ())) fun r2 =>
 .leaf ((([] : List YI) ++ a0.1), r2.1, a0.2.2.1, ())) (
 .br (decide ((a1.1.length : Int) > (i64.wrap ((1048576 : Int) - a0.2.2.1)))) (
 .chk (decide (([] : List YI).length + a0.1.length ≤ 4294967296)) <|
 .ob (Bz (a0.2.1, ())) fun r3 =>
 .leaf ((([] : List YI) ++ a0.1), r3.1, a0.2.2.1, ())) (
 .ob (Fw ([(a0.2.1, ()), a1], ())) fun r4 =>
 .ob (Ms (a0.1, ()) r4) fun r5 =>
 .chk (decide (([] : List YI).length + r5.1.1.length ≤ 4294967296)) <|
 .ob (Bz r5.2) fun r6 =>
 .leaf ((([] : List YI) ++ r5.1.1), r6.1, (i64.wrap (a0.2.2.1 + (a1.1.length : Int))), ())))
def Aeh (a0 : Lc) (a1 : YBs) : Option (Lc) := (Aeg a0 a1).val
def K5 (x2 : Int × (List YB) × Unit) : Option ((Int × (List YB) × Unit) ⊕ ((Int × (List YB) × Unit))) :=
 Tree.val (α := (Int × (List YB) × Unit) ⊕ ((Int × (List YB) × Unit))) <|
 .chk (decide ((0 : Int) ≤ (i64.wrap ((i64.wrap (x2.1 + (x2.2.1.length : Int))) + (8 : Int))))) <|
 .br (((i64.wrap ((i64.wrap (x2.1 + (x2.2.1.length : Int))) + (8 : Int))) % (64 : Int)) != (0 : Int)) (
 .chk (decide (x2.2.1.length + [((0 : Int), ())].length ≤ 4294967296)) <|
 .leaf (.inl (x2.1, (x2.2.1 ++ [((0 : Int), ())]), ()))) (
 .leaf (.inr x2))
def Agf (a0 : YI) : Tree (YBs) :=
 .ob (Bp a0 ((0 : Int), ()) ((1048576 : Int), ())) fun r1 =>
 .br (!r1.1) (
 .leaf (([] : List YB), ())) (
 .ob (Ay K5 (a0.1, [((128 : Int), ())], ())) fun o3 =>
 .chk (decide (o3.2.1.length + [((0 : Int), ()), ((0 : Int), ())].length ≤ 4294967296)) <|
 .ob (Jv ((o3.2.1 ++ [((0 : Int), ()), ((0 : Int), ())]), ()) ((i64.wrap ((8 : Int) * o3.1)), ()) ((6 : Int), ())) fun r4 =>
 .leaf r4)
def A2v (a0 : YI) : Option (YBs) := (Agf a0).val
def E7 (x1 : (List YB) × (List YI) × Int × Int × Unit) : Option (((List YB) × (List YI) × Int × Int × Unit) ⊕ (YBs)) :=
 Tree.val (α := ((List YB) × (List YI) × Int × Int × Unit) ⊕ (YBs)) <|
 .br (decide (x1.2.2.2.1 < x1.2.2.1)) (
 .ob (idx x1.2.1 x1.2.2.2.1) fun e2 =>
 .ob (Jv (x1.1, ()) e2 ((4 : Int), ())) fun r3 =>
 .leaf (.inl (r3.1, x1.2.1, x1.2.2.1, (i64.wrap (x1.2.2.2.1 + (1 : Int))), ()))) (
 .leaf (.inr (x1.1, ())))
def Lv (a0 : (List YI) × Unit) : Tree (YBs) :=
 .ob (Ay E7 (([] : List YB), a0.1, (a0.1.length : Int), (0 : Int), ())) fun o4 =>
 .leaf o4
def Wm (a0 : (List YI) × Unit) : Option (YBs) := (Lv a0).val
def Aei (a0 : Lc) : Tree (YBs) :=
 .ob (Xt a0) fun r1 =>
 .br (!r1.1) (
 .leaf (([] : List YB), ())) (
 .ob (A2v (a0.2.2.1, ())) fun r2 =>
 .ob (Fw ([(a0.2.1, ()), r2], ())) fun r3 =>
 .ob (Ms (a0.1, ()) r3) fun r4 =>
 .ob (Wm r4.1) fun r5 =>
 .leaf r5)
def Aej (a0 : Lc) : Option (YBs) := (Aei a0).val
def A2w (a0 : YBs) : Tree (YBs) :=
 .br (decide ((a0.1.length : Int) > (1048576 : Int))) (
 .leaf (([] : List YB), ())) (
 .ob Atm fun r1 =>
 .ob (Aeh r1 a0) fun r2 =>
 .ob (Aej r2) fun r3 =>
 .leaf r3)
def Agg (a0 : YBs) : Option (YBs) := (A2w a0).val
def Ea (x3 : YBs) : Option (YBs ⊕ (YBs)) :=
 Tree.val (α := YBs ⊕ (YBs)) <|
 .br (decide ((x3.1.length : Int) < (64 : Int))) (
 .chk (decide (x3.1.length + [((0 : Int), ())].length ≤ 4294967296)) <|
 .leaf (.inl ((x3.1 ++ [((0 : Int), ())]), ()))) (
 .leaf (.inr x3))
def Ni (a0 : YBs) : Tree (YBs) :=
 .br (decide ((a0.1.length : Int) > (1048576 : Int))) (
 .leaf (([] : List YB), ())) (
 .ob (Bz a0) fun r1 =>
 .br (decide ((a0.1.length : Int) > (64 : Int))) (
 .ob (Agg a0) fun r2 =>
 .ob (Ay Ea r2) fun o4 =>
 .leaf o4) (
 .ob (Ay Ea r1) fun o5 =>
 .leaf o5))
def Aaf (a0 : YBs) : Option (YBs) := (Ni a0).val
def H4 (x1 : Int × (List YB) × (List YB) × Int × Int × Unit) : Option ((Int × (List YB) × (List YB) × Int × Int × Unit) ⊕ (YBs)) :=
 Tree.val (α := (Int × (List YB) × (List YB) × Int × Int × Unit) ⊕ (YBs)) <|
 .br (decide (x1.2.2.2.2.1 < x1.2.2.2.1)) (
 .ob (idx x1.2.2.1 x1.2.2.2.2.1) fun e2 =>
 .chk (decide (x1.2.1.length + [((u8.wrap ((BitVec.ofInt (u8.bits) (e2.1) ^^^ BitVec.ofInt (u8.bits) (x1.1)).toNat : Nat)), ())].length ≤ 4294967296)) <|
 .leaf (.inl (x1.1, (x1.2.1 ++ [((u8.wrap ((BitVec.ofInt (u8.bits) (e2.1) ^^^ BitVec.ofInt (u8.bits) (x1.1)).toNat : Nat)), ())]), x1.2.2.1, x1.2.2.2.1, (i64.wrap (x1.2.2.2.2.1 + (1 : Int))), ()))) (
 .leaf (.inr (x1.2.1, ())))
def Si (a0 : YBs) (a1 : YB) : Tree (YBs) :=
 .ob (Ay H4 (a1.1, ([] : List YB), a0.1, (a0.1.length : Int), (0 : Int), ())) fun o3 =>
 .leaf o3
def Xu (a0 : YBs) (a1 : YB) : Option (YBs) := (Si a0 a1).val
def Avu (a0 : YBs) (a1 : YBs) : Tree (YBs) :=
 .br (decide ((a0.1.length : Int) > (1048576 : Int))) (
 .leaf (([] : List YB), ())) (
 .br (decide ((a1.1.length : Int) > (1048512 : Int))) (
 .leaf (([] : List YB), ())) (
 .ob (Aaf a0) fun r1 =>
 .ob (Xu r1 ((92 : Int), ())) fun r2 =>
 .ob (Xu r1 ((54 : Int), ())) fun r3 =>
 .ob (Fw ([r3, a1], ())) fun r4 =>
 .ob (Agg r4) fun r5 =>
 .ob (Fw ([r2, r5], ())) fun r6 =>
 .ob (Agg r6) fun r7 =>
 .leaf r7))
def Aag (a0 : YBs) (a1 : YBs) : Option (YBs) := (Avu a0 a1).val
def A2x (a0 : YBs) (a1 : YBs) : Tree (YBs) :=
 .ob (Aag a0 a1) fun r1 =>
 .br ((r1.1.length : Int) == (0 : Int)) (
 .leaf (([] : List YB), ())) (
 .chk (decide ((16 : Int) ≤ (r1.1.length : Int))) <|
 .ob (Bz (((r1.1.take ((16 : Int)).toNat).drop ((0 : Int)).toNat), ())) fun r2 =>
 .leaf r2)
def Aso (a0 : YBs) (a1 : YBs) : Option (YBs) := (A2x a0 a1).val
def Aek (a0 : YBs) (a1 : YBs) : Tree ((Bool × Unit)) :=
 .br ((a0.1.length : Int) == (16 : Int)) (
 .ob (Q6 a0 a1) fun r1 =>
 .leaf ((r1.1 == (0 : Int)), ())) (
 .leaf (false, ()))
def Ael (a0 : YBs) (a1 : YBs) : Option ((Bool × Unit)) := (Aek a0 a1).val
def Aem (a0 : YBs) (a1 : YBs) (a2 : YI) : Tree (YBs) :=
 .ob (Bp a2 ((0 : Int), ()) ((6 : Int), ())) fun r1 =>
 .br (!r1.1) (
 .leaf (([] : List YB), ())) (
 .br (decide ((a1.1.length : Int) > (100 : Int))) (
 .leaf (([] : List YB), ())) (
 .ob (Fw ([([((115 : Int), ())], ()), a1], ())) fun r2 =>
 .ob (Jv r2 a2 ((4 : Int), ())) fun r3 =>
 .ob (Aag a0 r3) fun r4 =>
 .leaf r4))
def Aen (a0 : YBs) (a1 : YBs) (a2 : YI) : Option (YBs) := (Aem a0 a1 a2).val
def H5 (x2 : (List YB) × (List YB) × Int × (List YB) × Int × Unit) : Option (((List YB) × (List YB) × Int × (List YB) × Int × Unit) ⊕ ((Int × (List YB) × Unit))) :=
 Tree.val (α := ((List YB) × (List YB) × Int × (List YB) × Int × Unit) ⊕ ((Int × (List YB) × Unit))) <|
 .br (decide ((x2.2.2.2.1.length : Int) < x2.2.2.1)) (
 .ob (Aen (x2.1, ()) (x2.2.1, ()) (x2.2.2.2.2.1, ())) fun r3 =>
 .chk (decide (x2.2.2.2.1.length + r3.1.length ≤ 4294967296)) <|
 .leaf (.inl (x2.1, x2.2.1, x2.2.2.1, (x2.2.2.2.1 ++ r3.1), (i64.wrap (x2.2.2.2.2.1 + (1 : Int))), ()))) (
 .leaf (.inr (x2.2.2.1, x2.2.2.2.1, ())))
def Sj (a0 : YBs) (a1 : YBs) (a2 : YI) : Tree (YBs) :=
 .ob (Bp a2 ((0 : Int), ()) ((200 : Int), ())) fun r1 =>
 .br (!r1.1) (
 .leaf (([] : List YB), ())) (
 .br (decide ((a1.1.length : Int) > (100 : Int))) (
 .leaf (([] : List YB), ())) (
 .br (decide ((a0.1.length : Int) > (1048576 : Int))) (
 .leaf (([] : List YB), ())) (
 .ob (Ay H5 (a0.1, a1.1, a2.1, ([] : List YB), (0 : Int), ())) fun o4 =>
 .chk (decide ((0 : Int) ≤ o4.1)) <|
 .chk (decide (o4.1 ≤ (o4.2.1.length : Int))) <|
 .ob (Bz (((o4.2.1.take (o4.1).toNat).drop ((0 : Int)).toNat), ())) fun r5 =>
 .leaf r5)))
def Ajq (a0 : YBs) (a1 : YBs) (a2 : YI) : Option (YBs) := (Sj a0 a1 a2).val
def Nj (x2 : (List YB) × (List YB) × (List YB) × Int × Int × Unit) : Option (((List YB) × (List YB) × (List YB) × Int × Int × Unit) ⊕ (YBs)) :=
 Tree.val (α := ((List YB) × (List YB) × (List YB) × Int × Int × Unit) ⊕ (YBs)) <|
 .br (decide (x2.2.2.2.2.1 < x2.2.2.2.1)) (
 .ob (idx x2.2.2.1 x2.2.2.2.2.1) fun e3 =>
 .ob (idx x2.1 x2.2.2.2.2.1) fun e4 =>
 .chk (decide (x2.2.1.length + [((u8.wrap ((BitVec.ofInt (u8.bits) (e3.1) ^^^ BitVec.ofInt (u8.bits) (e4.1)).toNat : Nat)), ())].length ≤ 4294967296)) <|
 .leaf (.inl (x2.1, (x2.2.1 ++ [((u8.wrap ((BitVec.ofInt (u8.bits) (e3.1) ^^^ BitVec.ofInt (u8.bits) (e4.1)).toNat : Nat)), ())]), x2.2.2.1, x2.2.2.2.1, (i64.wrap (x2.2.2.2.2.1 + (1 : Int))), ()))) (
 .leaf (.inr (x2.2.1, ())))
def Agh (a0 : YBs) (a1 : YBs) (a2 : YBs) : Tree (YBs) :=
 .br (decide ((a2.1.length : Int) > (200 : Int))) (
 .leaf (([] : List YB), ())) (
 .br (decide ((a1.1.length : Int) > (100 : Int))) (
 .leaf (([] : List YB), ())) (
 .br (decide ((a0.1.length : Int) > (1048576 : Int))) (
 .leaf (([] : List YB), ())) (
 .ob (Ajq a0 a1 ((a2.1.length : Int), ())) fun r1 =>
 .ob (Ay Nj (a2.1, ([] : List YB), r1.1, (r1.1.length : Int), (0 : Int), ())) fun o5 =>
 .leaf o5)))
def Asp (a0 : YBs) (a1 : YBs) (a2 : YBs) : Option (YBs) := (Agh a0 a1 a2).val
def Ajr (a0 : YBs) (a1 : YI) (a2 : Av) : Tree (YBs × (Bool × Unit)) :=
 .ob (H2 a1 a2) fun r1 =>
 .br ((a0.1.length : Int) != (32 : Int)) (
 .leaf ((([] : List YB), ()), (false, ()))) (
 .br ((r1.1.length : Int) == (0 : Int)) (
 .leaf ((([] : List YB), ()), (false, ()))) (
 .ob (Aso a0 r1) fun r2 =>
 .ob (Ael (a2.2.2.2.2.2.2.2.2.2.2.1, ()) r2) fun r3 =>
 .br (!r3.1) (
 .leaf ((([] : List YB), ()), (false, ()))) (
 .ob (Se a1 (a2.2.2.2.1, ()) (a2.2.2.2.2.2.2.2.1, ()) (a2.2.2.2.2.2.2.2.2.1, ())) fun r4 =>
 .ob (Asp a0 r4 (a2.2.2.2.2.2.2.2.2.2.1, ())) fun r5 =>
 .leaf (r5, (true, ())))))
def Ajs (a0 : YBs) (a1 : YI) (a2 : Av) : Option (YBs × (Bool × Unit)) := (Ajr a0 a1 a2).val
def Ajt (a0 : YEp) (a1 : YI) (a2 : Av) : Tree (YEp × YBs × YI) :=
 .ob (Ov a0) fun r1 =>
 .ob (Ua a0) fun r2 =>
 .br (!r2.1) (
 .leaf (r1, (([] : List YB), ()), ((1 : Int), ()))) (
 .ob (H2 a1 a2) fun r3 =>
 .br ((r3.1.length : Int) == (0 : Int)) (
 .leaf (r1, (([] : List YB), ()), ((1 : Int), ()))) (
 .br (a2.2.2.2.2.2.2.2.1 != a0.1) (
 .leaf (r1, (([] : List YB), ()), ((1 : Int), ()))) (
 .ob (Ajo (a0.2.2.2.1, a0.2.2.2.2.1, ()) (a2.2.2.2.2.2.2.2.2.1, ())) fun r4 =>
 .br (!r4.2.1) (
 .leaf (r1, (([] : List YB), ()), ((3 : Int), ()))) (
 .ob (Ajs (a0.2.1, ()) a1 a2) fun r5 =>
 .br (!r5.2.1) (
 .leaf (r1, (([] : List YB), ()), ((2 : Int), ()))) (
 .leaf ((r1.1, r1.2.1, r1.2.2.1, r4.1.1, r4.1.2.1, ()), r5.1, ((0 : Int), ())))))))
def Fx (a0 : YEp) (a1 : YI) (a2 : Av) : Option (YEp × YBs × YI) := (Ajt a0 a1 a2).val
def Ub (a0 : Ak) (r1 : Ak) (r8 : YEp × YBs × YI) (a1 : YI) : Tree (Ak × YBs × YI) :=
 .br (a0.2.2.2.2.2.2.2.2.2.2.2.2.2.1 == (-1 : Int)) (
 .leaf ((r1.1, r1.2.1, r8.1.1, r8.1.2.1, r8.1.2.2.1, r8.1.2.2.2.1, r8.1.2.2.2.2.1, r1.2.2.2.2.2.2.2.1, r1.2.2.2.2.2.2.2.2.1, r1.2.2.2.2.2.2.2.2.2.1, r1.2.2.2.2.2.2.2.2.2.2.1, r1.2.2.2.2.2.2.2.2.2.2.2.1, r1.2.2.2.2.2.2.2.2.2.2.2.2.1, (i64.wrap (a1.1 + (5 : Int))), r1.2.2.2.2.2.2.2.2.2.2.2.2.2.2.1, ()), r8.2.1, ((0 : Int), ()))) (
 .leaf ((r1.1, r1.2.1, r8.1.1, r8.1.2.1, r8.1.2.2.1, r8.1.2.2.2.1, r8.1.2.2.2.2.1, r1.2.2.2.2.2.2.2.1, r1.2.2.2.2.2.2.2.2.1, r1.2.2.2.2.2.2.2.2.2.1, r1.2.2.2.2.2.2.2.2.2.2.1, r1.2.2.2.2.2.2.2.2.2.2.2.1, r1.2.2.2.2.2.2.2.2.2.2.2.2.1, r1.2.2.2.2.2.2.2.2.2.2.2.2.2.1, r1.2.2.2.2.2.2.2.2.2.2.2.2.2.2.1, ()), r8.2.1, ((0 : Int), ())))
def J9 (a0 : Ak) (r1 : Ak) (r8 : YEp × YBs × YI) (a1 : YI) : Tree (Ak × YBs × YI) :=
 .br a0.2.2.2.2.2.2.2.2.2.2.2.2.1 (
 Ub a0 r1 r8 a1) (
 .leaf ((r1.1, r1.2.1, r8.1.1, r8.1.2.1, r8.1.2.2.1, r8.1.2.2.2.1, r8.1.2.2.2.2.1, r1.2.2.2.2.2.2.2.1, r1.2.2.2.2.2.2.2.2.1, r1.2.2.2.2.2.2.2.2.2.1, r1.2.2.2.2.2.2.2.2.2.2.1, r1.2.2.2.2.2.2.2.2.2.2.2.1, r1.2.2.2.2.2.2.2.2.2.2.2.2.1, r1.2.2.2.2.2.2.2.2.2.2.2.2.2.1, r1.2.2.2.2.2.2.2.2.2.2.2.2.2.2.1, ()), r8.2.1, ((0 : Int), ())))
def Uc (a2 : Av) (a0 : Ak) (r1 : Ak) (r8 : YEp × YBs × YI) (a1 : YI) : Tree (Ak × YBs × YI) :=
 .br (a2.2.2.2.2.2.2.2.1 == a0.2.2.2.2.2.2.2.1) (
 .leaf ((r1.1, r1.2.1, r1.2.2.1, r1.2.2.2.1, r1.2.2.2.2.1, r1.2.2.2.2.2.1, r1.2.2.2.2.2.2.1, r8.1.1, r8.1.2.1, r8.1.2.2.1, r8.1.2.2.2.1, r8.1.2.2.2.2.1, r1.2.2.2.2.2.2.2.2.2.2.2.2.1, r1.2.2.2.2.2.2.2.2.2.2.2.2.2.1, r1.2.2.2.2.2.2.2.2.2.2.2.2.2.2.1, ()), r8.2.1, ((0 : Int), ()))) (
 .leaf ((r1.1, r1.2.1, r8.1.1, r8.1.2.1, r8.1.2.2.1, r8.1.2.2.2.1, r8.1.2.2.2.2.1, r1.2.2.1, r1.2.2.2.1, r1.2.2.2.2.1, r1.2.2.2.2.2.1, r1.2.2.2.2.2.2.1, true, (i64.wrap (a1.1 + (5 : Int))), ([] : List YB), ()), r8.2.1, ((0 : Int), ())))
def Hm (a2 : Av) (a0 : Ak) (r1 : Ak) (r8 : YEp × YBs × YI) (a1 : YI) : Tree (Ak × YBs × YI) :=
 .br (a2.2.2.2.2.2.2.2.1 == a0.2.2.1) (
 J9 a0 r1 r8 a1) (
 Uc a2 a0 r1 r8 a1)
def O0 (r8 : YEp × YBs × YI) (r1 : Ak) (a2 : Av) (a0 : Ak) (a1 : YI) : Tree (Ak × YBs × YI) :=
 .br (r8.2.2.1 != (0 : Int)) (
 .leaf (r1, (([] : List YB), ()), r8.2.2)) (
 Hm a2 a0 r1 r8 a1)
def Agi (r7 : YEp) (a0 : Ak) (a2 : Av) (r1 : Ak) (a1 : YI) : Tree (Ak × YBs × YI) :=
 .ob (Fx r7 ((i64.wrap ((1 : Int) - a0.1)), ()) a2) fun r8 =>
 O0 r8 r1 a2 a0 a1
def Ud (a0 : Ak) (a2 : Av) (r1 : Ak) (a1 : YI) : Tree (Ak × YBs × YI) :=
 .ob (Nd ((i64.wrap (a0.2.2.1 + (1 : Int))), ()) (a0.2.2.2.2.2.2.2.2.2.2.2.2.2.2.1, ())) fun r7 =>
 Agi r7 a0 a2 r1 a1
def O5 (a0 : Ak) (a2 : Av) (r1 : Ak) (a1 : YI) : Tree (Ak × YBs × YI) :=
 .ob (Fx (a0.2.2.2.2.2.2.2.1, a0.2.2.2.2.2.2.2.2.1, a0.2.2.2.2.2.2.2.2.2.1, a0.2.2.2.2.2.2.2.2.2.2.1, a0.2.2.2.2.2.2.2.2.2.2.2.1, ()) ((i64.wrap ((1 : Int) - a0.1)), ()) a2) fun r9 =>
 O0 r9 r1 a2 a0 a1
def Agj (a2 : Av) (a0 : Ak) (r1 : Ak) (a1 : YI) : Tree (Ak × YBs × YI) :=
 .br (a2.2.2.2.2.2.2.2.1 == (i64.wrap (a0.2.2.1 + (1 : Int)))) (
 Ud a0 a2 r1 a1) (
 O5 a0 a2 r1 a1)
def Mt (a0 : Ak) (a2 : Av) (r1 : Ak) (a1 : YI) : Tree (Ak × YBs × YI) :=
 .ob (Fx (a0.2.2.1, a0.2.2.2.1, a0.2.2.2.2.1, a0.2.2.2.2.2.1, a0.2.2.2.2.2.2.1, ()) ((i64.wrap ((1 : Int) - a0.1)), ()) a2) fun r12 =>
 O0 r12 r1 a2 a0 a1
def Sl (a2 : Av) (a0 : Ak) (r1 : Ak) (a1 : YI) : Tree (Ak × YBs × YI) :=
 .br (a2.2.2.2.2.2.2.2.1 == (i64.wrap (a0.2.2.1 + (1 : Int)))) (
 Ud a0 a2 r1 a1) (
 Mt a0 a2 r1 a1)
def Gd (a2 : Av) (a0 : Ak) (r1 : Ak) (a1 : YI) : Tree (Ak × YBs × YI) :=
 .br (a2.2.2.2.2.2.2.2.1 == a0.2.2.2.2.2.2.2.1) (
 Agj a2 a0 r1 a1) (
 Sl a2 a0 r1 a1)
def Ab9 (a1 : YI) (a0 : Ak) (r1 : Ak) (a2 : Av) : Tree (Ak × YBs × YI) :=
 .br (decide (a1.1 > a0.2.2.2.2.2.2.2.2.2.2.2.2.2.1)) (
 .leaf (r1, (([] : List YB), ()), ((9 : Int), ()))) (
 Gd a2 a0 r1 a1)
def Aca (a0 : Ak) (a1 : YI) (r1 : Ak) (a2 : Av) : Tree (Ak × YBs × YI) :=
 .br (a0.2.2.2.2.2.2.2.2.2.2.2.2.2.1 != (-1 : Int)) (
 Ab9 a1 a0 r1 a2) (
 Gd a2 a0 r1 a1)
def Ge (a2 : Av) (a0 : Ak) (a1 : YI) (r1 : Ak) : Tree (Ak × YBs × YI) :=
 .br (a2.2.2.2.2.2.2.2.1 == a0.2.2.2.2.2.2.2.1) (
 Aca a0 a1 r1 a2) (
 Gd a2 a0 r1 a1)
def Jb (a2 : Av) (a0 : Ak) (r1 : Ak) (a1 : YI) : Tree (Ak × YBs × YI) :=
 .br (a2.2.2.2.2.2.2.2.1 == a0.2.2.2.2.2.2.2.1) (
 O5 a0 a2 r1 a1) (
 Mt a0 a2 r1 a1)
def Acb (a1 : YI) (a0 : Ak) (r1 : Ak) (a2 : Av) : Tree (Ak × YBs × YI) :=
 .br (decide (a1.1 > a0.2.2.2.2.2.2.2.2.2.2.2.2.2.1)) (
 .leaf (r1, (([] : List YB), ()), ((9 : Int), ()))) (
 Jb a2 a0 r1 a1)
def Acc (a0 : Ak) (a1 : YI) (r1 : Ak) (a2 : Av) : Tree (Ak × YBs × YI) :=
 .br (a0.2.2.2.2.2.2.2.2.2.2.2.2.2.1 != (-1 : Int)) (
 Acb a1 a0 r1 a2) (
 Jb a2 a0 r1 a1)
def Mu (a2 : Av) (a0 : Ak) (a1 : YI) (r1 : Ak) : Tree (Ak × YBs × YI) :=
 .br (a2.2.2.2.2.2.2.2.1 == a0.2.2.2.2.2.2.2.1) (
 Acc a0 a1 r1 a2) (
 Jb a2 a0 r1 a1)
def Mv (a2 : Av) (a0 : Ak) (r1 : Ak) (r76 : YEp × YBs × YI) (a1 : YI) : Tree (Ak × YBs × YI) :=
 .br (a2.2.2.2.2.2.2.2.1 == a0.2.2.1) (
 J9 a0 r1 r76 a1) (
 .leaf ((r1.1, r1.2.1, r76.1.1, r76.1.2.1, r76.1.2.2.1, r76.1.2.2.2.1, r76.1.2.2.2.2.1, r1.2.2.1, r1.2.2.2.1, r1.2.2.2.2.1, r1.2.2.2.2.2.1, r1.2.2.2.2.2.2.1, true, (i64.wrap (a1.1 + (5 : Int))), ([] : List YB), ()), r76.2.1, ((0 : Int), ())))
def Sm (r76 : YEp × YBs × YI) (r1 : Ak) (a2 : Av) (a0 : Ak) (a1 : YI) : Tree (Ak × YBs × YI) :=
 .br (r76.2.2.1 != (0 : Int)) (
 .leaf (r1, (([] : List YB), ()), r76.2.2)) (
 Mv a2 a0 r1 r76 a1)
def Acd (r75 : YEp) (a0 : Ak) (a2 : Av) (r1 : Ak) (a1 : YI) : Tree (Ak × YBs × YI) :=
 .ob (Fx r75 ((i64.wrap ((1 : Int) - a0.1)), ()) a2) fun r76 =>
 Sm r76 r1 a2 a0 a1
def Ace (a0 : Ak) (a2 : Av) (r1 : Ak) (a1 : YI) : Tree (Ak × YBs × YI) :=
 .ob (Nd ((i64.wrap (a0.2.2.1 + (1 : Int))), ()) (a0.2.2.2.2.2.2.2.2.2.2.2.2.2.2.1, ())) fun r75 =>
 Acd r75 a0 a2 r1 a1
def Mw (a0 : Ak) (a2 : Av) (r1 : Ak) (a1 : YI) : Tree (Ak × YBs × YI) :=
 .ob (Fx (a0.2.2.1, a0.2.2.2.1, a0.2.2.2.2.1, a0.2.2.2.2.2.1, a0.2.2.2.2.2.2.1, ()) ((i64.wrap ((1 : Int) - a0.1)), ()) a2) fun r77 =>
 Sm r77 r1 a2 a0 a1
def Mx (a2 : Av) (a0 : Ak) (r1 : Ak) (a1 : YI) : Tree (Ak × YBs × YI) :=
 .br (a2.2.2.2.2.2.2.2.1 == (i64.wrap (a0.2.2.1 + (1 : Int)))) (
 Ace a0 a2 r1 a1) (
 Mw a0 a2 r1 a1)
def Aah (a0 : Ak) (a1 : YI) (a2 : Av) : Tree (Ak × YBs × YI) :=
 .ob (E4 a0) fun r1 =>
 .ob (G5 a0) fun r2 =>
 .br (!r2.1) (
 .leaf (r1, (([] : List YB), ()), ((1 : Int), ()))) (
 .ob (Bp a1 ((0 : Int), ()) ((1000000 : Int), ())) fun r3 =>
 .br (!r3.1) (
 .leaf (r1, (([] : List YB), ()), ((1 : Int), ()))) (
 .ob (Oy (a2.1, ())) fun r4 =>
 .br (!r4.1) (
 .leaf (r1, (([] : List YB), ()), ((1 : Int), ()))) (
 .ob (P9 a2) fun r5 =>
 .br (!r5.1) (
 .leaf (r1, (([] : List YB), ()), ((1 : Int), ()))) (
 .br a0.2.2.2.2.2.2.2.2.2.2.2.2.1 (
 .br (decide ((a0.2.2.2.2.2.2.2.2.2.2.2.2.2.2.1.length : Int) > (0 : Int))) (
 .ob (Q6 (a2.2.2.2.1, ()) (a0.2.1, ())) fun r6 =>
 .br (r6.1 != (0 : Int)) (
 .leaf (r1, (([] : List YB), ()), ((8 : Int), ()))) (
 .br (!(a2.2.2.2.2.2.2.2.1 == a0.2.2.1)) (
 .br (!(a2.2.2.2.2.2.2.2.1 == a0.2.2.2.2.2.2.2.1)) (
 .br (!(a2.2.2.2.2.2.2.2.1 == (i64.wrap (a0.2.2.1 + (1 : Int))))) (
 .leaf (r1, (([] : List YB), ()), ((8 : Int), ()))) (
 Ge a2 a0 a1 r1)) (
 Ge a2 a0 a1 r1)) (
 Ge a2 a0 a1 r1))) (
 .ob (Q6 (a2.2.2.2.1, ()) (a0.2.1, ())) fun r61 =>
 .br (r61.1 != (0 : Int)) (
 .leaf (r1, (([] : List YB), ()), ((8 : Int), ()))) (
 .br (!(a2.2.2.2.2.2.2.2.1 == a0.2.2.1)) (
 .br (!(a2.2.2.2.2.2.2.2.1 == a0.2.2.2.2.2.2.2.1)) (
 .leaf (r1, (([] : List YB), ()), ((8 : Int), ()))) (
 Mu a2 a0 a1 r1)) (
 Mu a2 a0 a1 r1)))) (
 .br (decide ((a0.2.2.2.2.2.2.2.2.2.2.2.2.2.2.1.length : Int) > (0 : Int))) (
 .ob (Q6 (a2.2.2.2.1, ()) (a0.2.1, ())) fun r74 =>
 .br (r74.1 != (0 : Int)) (
 .leaf (r1, (([] : List YB), ()), ((8 : Int), ()))) (
 .br (!(a2.2.2.2.2.2.2.2.1 == a0.2.2.1)) (
 .br (!(a2.2.2.2.2.2.2.2.1 == (i64.wrap (a0.2.2.1 + (1 : Int))))) (
 .leaf (r1, (([] : List YB), ()), ((8 : Int), ()))) (
 Mx a2 a0 r1 a1)) (
 Mx a2 a0 r1 a1))) (
 .ob (Q6 (a2.2.2.2.1, ()) (a0.2.1, ())) fun r81 =>
 .br (r81.1 != (0 : Int)) (
 .leaf (r1, (([] : List YB), ()), ((8 : Int), ()))) (
 .br (!(a2.2.2.2.2.2.2.2.1 == a0.2.2.1)) (
 .leaf (r1, (([] : List YB), ()), ((8 : Int), ()))) (
 Mw a0 a2 r1 a1))))))))
def Nk (a0 : Ak) (a1 : YI) (a2 : Av) : Option (Ak × YBs × YI) := (Aah a0 a1 a2).val
def Aju (a0 : Ak) (a1 : YI) : Tree (YBs × (Bool × Unit)) :=
 .ob (G5 a0) fun r1 =>
 .br (!r1.1) (
 .leaf ((([] : List YB), ()), (false, ()))) (
 .br a0.2.2.2.2.2.2.2.2.2.2.2.2.1 (
 .br (a1.1 == a0.2.2.2.2.2.2.2.1) (
 .ob (Bz (a0.2.2.2.2.2.2.2.2.1, ())) fun r2 =>
 .leaf (r2, (true, ()))) (
 .br (a1.1 == a0.2.2.1) (
 .ob (Bz (a0.2.2.2.1, ())) fun r3 =>
 .leaf (r3, (true, ()))) (
 .br (decide ((a0.2.2.2.2.2.2.2.2.2.2.2.2.2.2.1.length : Int) > (0 : Int))) (
 .br (a1.1 == (i64.wrap (a0.2.2.1 + (1 : Int)))) (
 .ob (Bz (a0.2.2.2.2.2.2.2.2.2.2.2.2.2.2.1, ())) fun r4 =>
 .leaf (r4, (true, ()))) (
 .leaf ((([] : List YB), ()), (false, ())))) (
 .leaf ((([] : List YB), ()), (false, ())))))) (
 .br (a1.1 == a0.2.2.1) (
 .ob (Bz (a0.2.2.2.1, ())) fun r5 =>
 .leaf (r5, (true, ()))) (
 .br (decide ((a0.2.2.2.2.2.2.2.2.2.2.2.2.2.2.1.length : Int) > (0 : Int))) (
 .br (a1.1 == (i64.wrap (a0.2.2.1 + (1 : Int)))) (
 .ob (Bz (a0.2.2.2.2.2.2.2.2.2.2.2.2.2.2.1, ())) fun r6 =>
 .leaf (r6, (true, ()))) (
 .leaf ((([] : List YB), ()), (false, ())))) (
 .leaf ((([] : List YB), ()), (false, ()))))))
def Xv (a0 : Ak) (a1 : YI) : Option (YBs × (Bool × Unit)) := (Aju a0 a1).val
def Avv (a0 : YBs) (a1 : YBs) (a2 : YBs) : Tree (A5) :=
 .ob (Bz a0) fun r1 =>
 .ob (Bz a1) fun r2 =>
 .ob (Bz a2) fun r3 =>
 .leaf ((16 : Int), (0 : Int), (0 : Int), ([] : List YB), r2.1, (0 : Int), (0 : Int), r3.1, r1.1, (0 : Int), (0 : Int), (0 : Int), ())
def Avw (a0 : YBs) (a1 : YBs) (a2 : YBs) : Option (A5) := (Avv a0 a1 a2).val
def Ka (x1 : (List Aj) × Int × Int × Int × Int × Unit) : Option (((List Aj) × Int × Int × Int × Int × Unit) ⊕ (YI ⊕ (Unit))) :=
 Tree.val (α := ((List Aj) × Int × Int × Int × Int × Unit) ⊕ (YI ⊕ (Unit))) <|
 .br (decide (x1.2.2.1 < x1.2.1)) (
 .ob (idx x1.1 x1.2.2.1) fun e2 =>
 .br (and (e2.1 == x1.2.2.2.1) (and (e2.2.1 == x1.2.2.2.2.1) true)) (
 .leaf (.inr (.inl (x1.2.2.1, ())))) (
 .leaf (.inl (x1.1, x1.2.1, (i64.wrap (x1.2.2.1 + (1 : Int))), x1.2.2.2.1, x1.2.2.2.2.1, ())))) (
 .leaf (.inr (.inr ())))
def So (a0 : A6) (a1 : B5) : Tree (YI) :=
 .ob (Ay Ka (a0.2.2.1, (a0.2.2.1.length : Int), (0 : Int), a1.1, a1.2.1, ())) fun o3 =>
 .sm o3 (fun o4 =>
 .leaf o4) (fun o5 =>
 .leaf ((-1 : Int), ()))
def Xw (a0 : A6) (a1 : B5) : Option (YI) := (So a0 a1).val
def Ajv (a0 : A6) (a1 : YI) (a2 : B5) (a3 : YBs) : Tree (A6 × (Bool × Unit)) :=
 .ob (Dk a0) fun r1 =>
 .ob (Xw a0 a2) fun r2 =>
 .ob (P8 a0) fun r3 =>
 .br (!r3.1) (
 .leaf (r1, (false, ()))) (
 .ob (Bp a1 ((0 : Int), ()) ((1000000 : Int), ())) fun r4 =>
 .br (!r4.1) (
 .leaf (r1, (false, ()))) (
 .br (decide (r2.1 < (0 : Int))) (
 .leaf (r1, (false, ()))) (
 .ob (idx a0.2.2.1 r2.1) fun e5 =>
 .ob (Du a3 (e5.2.2.1, ())) fun r6 =>
 .br (!r6.1) (
 .leaf (r1, (false, ()))) (
 .ob (idx a0.2.2.1 r2.1) fun e7 =>
 .br (decide (a1.1 > e7.2.2.2.1)) (
 .leaf (r1, (false, ()))) (
 .chk (decide ((0 : Int) ≤ r2.1)) <|
 .chk (decide (r2.1 ≤ (r1.2.2.1.length : Int))) <|
 .chk (decide ((0 : Int) ≤ (i64.wrap (r2.1 + (1 : Int))))) <|
 .chk (decide ((i64.wrap (r2.1 + (1 : Int))) ≤ (r1.2.2.1.length : Int))) <|
 .chk (decide ((r1.2.2.1.length : Int) ≤ (r1.2.2.1.length : Int))) <|
 .chk (decide (((r1.2.2.1.take (r2.1).toNat).drop ((0 : Int)).toNat).length + ((r1.2.2.1.take ((r1.2.2.1.length : Int)).toNat).drop ((i64.wrap (r2.1 + (1 : Int)))).toNat).length ≤ 4294967296)) <|
 .chk (Nat.ble ((r1.2.2.1.take (r2.1).toNat).drop ((0 : Int)).toNat).length (((i64.wrap (r2.1 + (1 : Int)))).toNat)) <|
 .chk (Nat.blt 0 r1.2.2.1.length) <|
 .leaf ((a2.1, a2.2.1, (((r1.2.2.1.take (r2.1).toNat).drop ((0 : Int)).toNat) ++ ((r1.2.2.1.take ((r1.2.2.1.length : Int)).toNat).drop ((i64.wrap (r2.1 + (1 : Int)))).toNat)), ()), (true, ())))))))
def Xx (a0 : A6) (a1 : YI) (a2 : B5) (a3 : YBs) : Option (A6 × (Bool × Unit)) := (Ajv a0 a1 a2 a3).val
def Wn (a0 : YI) : Tree (YBs) :=
 .ob (Bp a0 ((0 : Int), ()) ((4294967295 : Int), ())) fun r1 =>
 .br (!r1.1) (
 .leaf (([] : List YB), ())) (
 .ob (Jv (([] : List YB), ()) a0 ((4 : Int), ())) fun r2 =>
 .leaf r2)
def Qy (a0 : YI) : Option (YBs) := (Wn a0).val
def H6 (x2 : (List YB) × (List YB) × Int × (List YB) × (List YB) × Int × Unit) : Option (((List YB) × (List YB) × Int × (List YB) × (List YB) × Int × Unit) ⊕ ((Int × (List YB) × Unit))) :=
 Tree.val (α := ((List YB) × (List YB) × Int × (List YB) × (List YB) × Int × Unit) ⊕ ((Int × (List YB) × Unit))) <|
 .br (decide ((x2.2.2.2.1.length : Int) < x2.2.2.1)) (
 .ob (Fw ([(x2.2.2.2.2.1, ()), (x2.2.1, ()), ([((u8.wrap (x2.2.2.2.2.2.1)), ())], ())], ())) fun r3 =>
 .ob (Aag (x2.1, ()) r3) fun r4 =>
 .chk (decide (x2.2.2.2.1.length + r4.1.length ≤ 4294967296)) <|
 .leaf (.inl (x2.1, x2.2.1, x2.2.2.1, (x2.2.2.2.1 ++ r4.1), r4.1, (i64.wrap (x2.2.2.2.2.2.1 + (1 : Int))), ()))) (
 .leaf (.inr (x2.2.2.1, x2.2.2.2.1, ())))
def Sp (a0 : YBs) (a1 : YBs) (a2 : YI) : Tree (YBs × (Bool × Unit)) :=
 .ob (Bp a2 ((0 : Int), ()) ((8160 : Int), ())) fun r1 =>
 .br (!r1.1) (
 .leaf ((([] : List YB), ()), (false, ()))) (
 .br (decide ((a1.1.length : Int) > (100 : Int))) (
 .leaf ((([] : List YB), ()), (false, ()))) (
 .br (decide ((a0.1.length : Int) > (1048576 : Int))) (
 .leaf ((([] : List YB), ()), (false, ()))) (
 .ob (Ay H6 (a0.1, a1.1, a2.1, ([] : List YB), ([] : List YB), (1 : Int), ())) fun o5 =>
 .chk (decide ((0 : Int) ≤ o5.1)) <|
 .chk (decide (o5.1 ≤ (o5.2.1.length : Int))) <|
 .ob (Bz (((o5.2.1.take (o5.1).toNat).drop ((0 : Int)).toNat), ())) fun r6 =>
 .leaf (r6, (true, ())))))
def Ajw (a0 : YBs) (a1 : YBs) (a2 : YI) : Option (YBs × (Bool × Unit)) := (Sp a0 a1 a2).val
def Ajx (a0 : YBs) (a1 : ByteArray × Unit) : Tree (YBs) :=
 .chk (decide (a1.1.size ≤ 4294967296)) <|
 .ob (Ajw a0 ((Wj a1.1), ()) ((32 : Int), ())) fun r1 =>
 .leaf r1.1
def Xy (a0 : YBs) (a1 : ByteArray × Unit) : Option (YBs) := (Ajx a0 a1).val
def Avx (a0 : Ak) : Tree (Ak × (Bool × Unit)) :=
 .ob (E4 a0) fun r1 =>
 .ob (G5 a0) fun r2 =>
 .br (!r2.1) (
 .leaf (r1, (false, ()))) (
 .br (a0.1 != (1 : Int)) (
 .leaf (r1, (false, ()))) (
 .br (a0.2.2.1 == (4294967295 : Int)) (
 .leaf (r1, (false, ()))) (
 .ob (Xy (a0.2.2.2.1, ()) ((Z1 [114, 101, 107, 101, 121]), ())) fun r3 =>
 .ob (Nd ((i64.wrap (a0.2.2.1 + (1 : Int))), ()) r3) fun r4 =>
 .leaf ((r1.1, r1.2.1, r4.1, r4.2.1, r4.2.2.1, r4.2.2.2.1, r4.2.2.2.2.1, r1.2.2.1, r1.2.2.2.1, r1.2.2.2.2.1, r1.2.2.2.2.2.1, r1.2.2.2.2.2.2.1, true, (-1 : Int), r1.2.2.2.2.2.2.2.2.2.2.2.2.2.2.1, ()), (true, ())))))
def Avy (a0 : Ak) : Option (Ak × (Bool × Unit)) := (Avx a0).val
def Wo (a0 : Ak) (a1 : YI) (a2 : YBs) : Tree (Ak × YI) :=
 .ob (E4 a0) fun r1 =>
 .ob (G5 a0) fun r2 =>
 .br (!r2.1) (
 .leaf (r1, ((6 : Int), ()))) (
 .br (a0.1 != (1 : Int)) (
 .leaf (r1, ((6 : Int), ()))) (
 .ob (Bp a1 ((0 : Int), ()) ((4294967294 : Int), ())) fun r3 =>
 .br (!r3.1) (
 .leaf (r1, ((6 : Int), ()))) (
 .ob (Qy ((i64.wrap (a1.1 + (1 : Int))), ())) fun r4 =>
 .ob (Du a2 r4) fun r5 =>
 .br (!r5.1) (
 .leaf (r1, ((6 : Int), ()))) (
 .br (a1.1 == (i64.wrap (a0.2.2.1 - (1 : Int)))) (
 .leaf (r1, ((0 : Int), ()))) (
 .ob (Avy a0) fun r6 =>
 .br (a1.1 != a0.2.2.1) (
 .leaf (r1, ((6 : Int), ()))) (
 .br (!r6.2.1) (
 .leaf (r1, ((6 : Int), ()))) (
 .leaf (r6.1, ((0 : Int), ())))))))))
def Qz (a0 : Ak) (a1 : YI) (a2 : YBs) : Option (Ak × YI) := (Wo a0 a1 a2).val
def Avz (a0 : YBs) (a1 : YI) (a2 : YBs) (a3 : YI) (a4 : YI) (a5 : YI) (a6 : YBs) : Tree (Av × (Bool × Unit)) :=
 .ob (Bz a2) fun r1 =>
 .ob (Bz a6) fun r2 =>
 .br ((a0.1.length : Int) != (32 : Int)) (
 .leaf (((0 : Int), (0 : Int), ([] : List YB), ([] : List YB), (0 : Int), ([] : List YB), ([] : List YB), (0 : Int), (0 : Int), ([] : List YB), ([] : List YB), ()), (false, ()))) (
 .ob (Ow a1) fun r3 =>
 .br (!r3.1) (
 .leaf (((0 : Int), (0 : Int), ([] : List YB), ([] : List YB), (0 : Int), ([] : List YB), ([] : List YB), (0 : Int), (0 : Int), ([] : List YB), ([] : List YB), ()), (false, ()))) (
 .ob (Oy a5) fun r4 =>
 .br (!r4.1) (
 .leaf (((0 : Int), (0 : Int), ([] : List YB), ([] : List YB), (0 : Int), ([] : List YB), ([] : List YB), (0 : Int), (0 : Int), ([] : List YB), ([] : List YB), ()), (false, ()))) (
 .ob (P9 (a5.1, (0 : Int), ([] : List YB), r1.1, (0 : Int), ([] : List YB), ([] : List YB), a3.1, a4.1, r2.1, (List.replicate ((16 : Int)).toNat ((0 : Int), ())), ())) fun r5 =>
 .br (!r5.1) (
 .leaf (((0 : Int), (0 : Int), ([] : List YB), ([] : List YB), (0 : Int), ([] : List YB), ([] : List YB), (0 : Int), (0 : Int), ([] : List YB), ([] : List YB), ()), (false, ()))) (
 .ob (Se a1 a2 a3 a4) fun r6 =>
 .ob (Asp a0 r6 a6) fun r7 =>
 .ob (H2 a1 (a5.1, (0 : Int), ([] : List YB), r1.1, (0 : Int), ([] : List YB), ([] : List YB), a3.1, a4.1, r7.1, (List.replicate ((16 : Int)).toNat ((0 : Int), ())), ())) fun r8 =>
 .ob (Aso a0 r8) fun r9 =>
 .leaf ((a5.1, (0 : Int), ([] : List YB), r1.1, (0 : Int), ([] : List YB), ([] : List YB), a3.1, a4.1, r7.1, r9.1, ()), (true, ()))))))
def Aai (a0 : YBs) (a1 : YI) (a2 : YBs) (a3 : YI) (a4 : YI) (a5 : YI) (a6 : YBs) : Option (Av × (Bool × Unit)) := (Avz a0 a1 a2 a3 a4 a5 a6).val
def Ajy (a0 : YEp) (a1 : YI) (a2 : YBs) (a3 : YI) (a4 : YBs) : Tree (YEp × Av × YI) :=
 .ob (Ov a0) fun r1 =>
 .ob (Ua a0) fun r2 =>
 .br (!r2.1) (
 .leaf (r1, ((0 : Int), (0 : Int), ([] : List YB), ([] : List YB), (0 : Int), ([] : List YB), ([] : List YB), (0 : Int), (0 : Int), ([] : List YB), ([] : List YB), ()), ((1 : Int), ()))) (
 .ob (Aai (a0.2.1, ()) a1 a2 (a0.1, ()) ((0 : Int), ()) a3 a4) fun r3 =>
 .br (!r3.2.1) (
 .leaf (r1, ((0 : Int), (0 : Int), ([] : List YB), ([] : List YB), (0 : Int), ([] : List YB), ([] : List YB), (0 : Int), (0 : Int), ([] : List YB), ([] : List YB), ()), ((1 : Int), ()))) (
 .br (a3.1 == (4 : Int)) (
 .br (decide (a0.2.2.1 ≥ (281474976709656 : Int))) (
 .leaf (r1, ((0 : Int), (0 : Int), ([] : List YB), ([] : List YB), (0 : Int), ([] : List YB), ([] : List YB), (0 : Int), (0 : Int), ([] : List YB), ([] : List YB), ()), ((4 : Int), ()))) (
 .br (a0.2.2.1 == (281474976710656 : Int)) (
 .leaf (r1, ((0 : Int), (0 : Int), ([] : List YB), ([] : List YB), (0 : Int), ([] : List YB), ([] : List YB), (0 : Int), (0 : Int), ([] : List YB), ([] : List YB), ()), ((5 : Int), ()))) (
 .ob (Aai (a0.2.1, ()) a1 a2 (a0.1, ()) (a0.2.2.1, ()) a3 a4) fun r4 =>
 .leaf ((r1.1, r1.2.1, (i64.wrap (r1.2.2.1 + (1 : Int))), r1.2.2.2.1, r1.2.2.2.2.1, ()), r4.1, ((0 : Int), ()))))) (
 .br (a0.2.2.1 == (281474976710656 : Int)) (
 .leaf (r1, ((0 : Int), (0 : Int), ([] : List YB), ([] : List YB), (0 : Int), ([] : List YB), ([] : List YB), (0 : Int), (0 : Int), ([] : List YB), ([] : List YB), ()), ((5 : Int), ()))) (
 .ob (Aai (a0.2.1, ()) a1 a2 (a0.1, ()) (a0.2.2.1, ()) a3 a4) fun r5 =>
 .leaf ((r1.1, r1.2.1, (i64.wrap (r1.2.2.1 + (1 : Int))), r1.2.2.2.1, r1.2.2.2.2.1, ()), r5.1, ((0 : Int), ()))))))
def Ajz (a0 : YEp) (a1 : YI) (a2 : YBs) (a3 : YI) (a4 : YBs) : Option (YEp × Av × YI) := (Ajy a0 a1 a2 a3 a4).val
def Aaj (a0 : Ak) (a1 : YI) (a2 : YBs) : Tree (Ak × Av × YI) :=
 .ob (E4 a0) fun r1 =>
 .ob (G5 a0) fun r2 =>
 .br (!r2.1) (
 .leaf (r1, ((0 : Int), (0 : Int), ([] : List YB), ([] : List YB), (0 : Int), ([] : List YB), ([] : List YB), (0 : Int), (0 : Int), ([] : List YB), ([] : List YB), ()), ((1 : Int), ()))) (
 .ob (Ajz (a0.2.2.1, a0.2.2.2.1, a0.2.2.2.2.1, a0.2.2.2.2.2.1, a0.2.2.2.2.2.2.1, ()) (a0.1, ()) (a0.2.1, ()) a1 a2) fun r3 =>
 .leaf ((r1.1, r1.2.1, r3.1.1, r3.1.2.1, r3.1.2.2.1, r3.1.2.2.2.1, r3.1.2.2.2.2.1, r1.2.2.2.2.2.2.2.1, r1.2.2.2.2.2.2.2.2.1, r1.2.2.2.2.2.2.2.2.2.1, r1.2.2.2.2.2.2.2.2.2.2.1, r1.2.2.2.2.2.2.2.2.2.2.2.1, r1.2.2.2.2.2.2.2.2.2.2.2.2.1, r1.2.2.2.2.2.2.2.2.2.2.2.2.2.1, r1.2.2.2.2.2.2.2.2.2.2.2.2.2.2.1, ()), r3.2.1, r3.2.2))
def Cq (a0 : Ak) (a1 : YI) (a2 : YBs) : Option (Ak × Av × YI) := (Aaj a0 a1 a2).val
def A2y (a0 : Ak) : Tree (Ak × Av × YI) :=
 .ob (G5 a0) fun r1 =>
 .br (!r1.1) (
 .ob (E4 a0) fun r2 =>
 .leaf (r2, ((0 : Int), (0 : Int), ([] : List YB), ([] : List YB), (0 : Int), ([] : List YB), ([] : List YB), (0 : Int), (0 : Int), ([] : List YB), ([] : List YB), ()), ((6 : Int), ()))) (
 .br (a0.1 != (1 : Int)) (
 .ob (E4 a0) fun r3 =>
 .leaf (r3, ((0 : Int), (0 : Int), ([] : List YB), ([] : List YB), (0 : Int), ([] : List YB), ([] : List YB), (0 : Int), (0 : Int), ([] : List YB), ([] : List YB), ()), ((6 : Int), ()))) (
 .ob (Qy (a0.2.2.1, ())) fun r4 =>
 .ob (Cq a0 ((8 : Int), ()) r4) fun r5 =>
 .leaf (r5.1, r5.2.1, r5.2.2)))
def Asq (a0 : Ak) : Option (Ak × Av × YI) := (A2y a0).val
def Av0 (a0 : YBs) (a1 : YBs) : Tree (A5) :=
 .ob (Bz a0) fun r1 =>
 .ob (Bz a1) fun r2 =>
 .leaf ((15 : Int), (0 : Int), (0 : Int), ([] : List YB), ([] : List YB), (0 : Int), (0 : Int), r2.1, r1.1, (0 : Int), (0 : Int), (0 : Int), ())
def Av1 (a0 : YBs) (a1 : YBs) : Option (A5) := (Av0 a0 a1).val
def Aj0 (a0 : Ak) (a1 : Av) : Tree (A5) :=
 .ob (H2 (a0.1, ()) a1) fun r1 =>
 .ob (Av1 (a0.2.2.2.1, ()) r1) fun r2 =>
 .leaf r2
def G6 (a0 : Ak) (a1 : Av) : Option (A5) := (Aj0 a0 a1).val
def Wp (a0 : Bi) (a1 : YI) (a2 : YBs) : Tree (Bi × ((List Bg) × Unit) × ((List A5) × Unit)) :=
 .ob (Qz (a0.2.2.2.1, a0.2.2.2.2.1, a0.2.2.2.2.2.1, a0.2.2.2.2.2.2.1, a0.2.2.2.2.2.2.2.1, a0.2.2.2.2.2.2.2.2.1, a0.2.2.2.2.2.2.2.2.2.1, a0.2.2.2.2.2.2.2.2.2.2.1, a0.2.2.2.2.2.2.2.2.2.2.2.1, a0.2.2.2.2.2.2.2.2.2.2.2.2.1, a0.2.2.2.2.2.2.2.2.2.2.2.2.2.1, a0.2.2.2.2.2.2.2.2.2.2.2.2.2.2.1, a0.2.2.2.2.2.2.2.2.2.2.2.2.2.2.2.1, a0.2.2.2.2.2.2.2.2.2.2.2.2.2.2.2.2.1, a0.2.2.2.2.2.2.2.2.2.2.2.2.2.2.2.2.2.1, ()) a1 a2) fun r1 =>
 .br (r1.2.1 != (0 : Int)) (
 .leaf (a0, (([] : List Bg), ()), (([] : List A5), ()))) (
 .br (r1.1.2.2.1 != a0.2.2.2.2.2.1) (
 .ob (Bz (a0.2.2.1, ())) fun r2 =>
 .ob (Bz (r1.1.2.2.2.1, ())) fun r3 =>
 .chk (decide (([] : List A5).length + [((10 : Int), (0 : Int), (1 : Int), ([] : List YB), r2.1, r1.1.2.2.1, (0 : Int), ([] : List YB), r3.1, (0 : Int), (0 : Int), (0 : Int), ())].length ≤ 4294967296)) <|
 .ob (Asq r1.1) fun r4 =>
 .br (r4.2.2.1 != (0 : Int)) (
 .leaf ((a0.1, a0.2.1, a0.2.2.1, r1.1.1, r1.1.2.1, r1.1.2.2.1, r1.1.2.2.2.1, r1.1.2.2.2.2.1, r1.1.2.2.2.2.2.1, r1.1.2.2.2.2.2.2.1, r1.1.2.2.2.2.2.2.2.1, r1.1.2.2.2.2.2.2.2.2.1, r1.1.2.2.2.2.2.2.2.2.2.1, r1.1.2.2.2.2.2.2.2.2.2.2.1, r1.1.2.2.2.2.2.2.2.2.2.2.2.1, r1.1.2.2.2.2.2.2.2.2.2.2.2.2.1, r1.1.2.2.2.2.2.2.2.2.2.2.2.2.2.1, r1.1.2.2.2.2.2.2.2.2.2.2.2.2.2.2.1, a0.2.2.2.2.2.2.2.2.2.2.2.2.2.2.2.2.2.2.1, a0.2.2.2.2.2.2.2.2.2.2.2.2.2.2.2.2.2.2.2.1, a0.2.2.2.2.2.2.2.2.2.2.2.2.2.2.2.2.2.2.2.2.1, a0.2.2.2.2.2.2.2.2.2.2.2.2.2.2.2.2.2.2.2.2.2.1, a0.2.2.2.2.2.2.2.2.2.2.2.2.2.2.2.2.2.2.2.2.2.2.1, a0.2.2.2.2.2.2.2.2.2.2.2.2.2.2.2.2.2.2.2.2.2.2.2.1, ()), (([] : List Bg), ()), ((([] : List A5) ++ [((10 : Int), (0 : Int), (1 : Int), ([] : List YB), r2.1, r1.1.2.2.1, (0 : Int), ([] : List YB), r3.1, (0 : Int), (0 : Int), (0 : Int), ())]), ()))) (
 .ob (G6 r4.1 r4.2.1) fun r5 =>
 .chk (decide ((([] : List A5) ++ [((10 : Int), (0 : Int), (1 : Int), ([] : List YB), r2.1, r1.1.2.2.1, (0 : Int), ([] : List YB), r3.1, (0 : Int), (0 : Int), (0 : Int), ())]).length + [r5].length ≤ 4294967296)) <|
 .leaf ((a0.1, a0.2.1, a0.2.2.1, r4.1.1, r4.1.2.1, r4.1.2.2.1, r4.1.2.2.2.1, r4.1.2.2.2.2.1, r4.1.2.2.2.2.2.1, r4.1.2.2.2.2.2.2.1, r4.1.2.2.2.2.2.2.2.1, r4.1.2.2.2.2.2.2.2.2.1, r4.1.2.2.2.2.2.2.2.2.2.1, r4.1.2.2.2.2.2.2.2.2.2.2.1, r4.1.2.2.2.2.2.2.2.2.2.2.2.1, r4.1.2.2.2.2.2.2.2.2.2.2.2.2.1, r4.1.2.2.2.2.2.2.2.2.2.2.2.2.2.1, r4.1.2.2.2.2.2.2.2.2.2.2.2.2.2.2.1, a0.2.2.2.2.2.2.2.2.2.2.2.2.2.2.2.2.2.2.1, a0.2.2.2.2.2.2.2.2.2.2.2.2.2.2.2.2.2.2.2.1, a0.2.2.2.2.2.2.2.2.2.2.2.2.2.2.2.2.2.2.2.2.1, a0.2.2.2.2.2.2.2.2.2.2.2.2.2.2.2.2.2.2.2.2.2.1, a0.2.2.2.2.2.2.2.2.2.2.2.2.2.2.2.2.2.2.2.2.2.2.1, a0.2.2.2.2.2.2.2.2.2.2.2.2.2.2.2.2.2.2.2.2.2.2.2.1, ()), ([(a0.2.2.2.2.2.2.2.2.2.2.2.2.2.2.2.2.2.2.1, a0.2.2.2.2.2.2.2.2.2.2.2.2.2.2.2.2.2.2.2.1, r4.2.1.1, r4.2.1.2.1, r4.2.1.2.2.1, r4.2.1.2.2.2.1, r4.2.1.2.2.2.2.1, r4.2.1.2.2.2.2.2.1, r4.2.1.2.2.2.2.2.2.1, r4.2.1.2.2.2.2.2.2.2.1, r4.2.1.2.2.2.2.2.2.2.2.1, r4.2.1.2.2.2.2.2.2.2.2.2.1, r4.2.1.2.2.2.2.2.2.2.2.2.2.1, ())], ()), (((([] : List A5) ++ [((10 : Int), (0 : Int), (1 : Int), ([] : List YB), r2.1, r1.1.2.2.1, (0 : Int), ([] : List YB), r3.1, (0 : Int), (0 : Int), (0 : Int), ())]) ++ [r5]), ())))) (
 .ob (Asq r1.1) fun r6 =>
 .br (r6.2.2.1 != (0 : Int)) (
 .leaf ((a0.1, a0.2.1, a0.2.2.1, r1.1.1, r1.1.2.1, r1.1.2.2.1, r1.1.2.2.2.1, r1.1.2.2.2.2.1, r1.1.2.2.2.2.2.1, r1.1.2.2.2.2.2.2.1, r1.1.2.2.2.2.2.2.2.1, r1.1.2.2.2.2.2.2.2.2.1, r1.1.2.2.2.2.2.2.2.2.2.1, r1.1.2.2.2.2.2.2.2.2.2.2.1, r1.1.2.2.2.2.2.2.2.2.2.2.2.1, r1.1.2.2.2.2.2.2.2.2.2.2.2.2.1, r1.1.2.2.2.2.2.2.2.2.2.2.2.2.2.1, r1.1.2.2.2.2.2.2.2.2.2.2.2.2.2.2.1, a0.2.2.2.2.2.2.2.2.2.2.2.2.2.2.2.2.2.2.1, a0.2.2.2.2.2.2.2.2.2.2.2.2.2.2.2.2.2.2.2.1, a0.2.2.2.2.2.2.2.2.2.2.2.2.2.2.2.2.2.2.2.2.1, a0.2.2.2.2.2.2.2.2.2.2.2.2.2.2.2.2.2.2.2.2.2.1, a0.2.2.2.2.2.2.2.2.2.2.2.2.2.2.2.2.2.2.2.2.2.2.1, a0.2.2.2.2.2.2.2.2.2.2.2.2.2.2.2.2.2.2.2.2.2.2.2.1, ()), (([] : List Bg), ()), (([] : List A5), ()))) (
 .ob (G6 r6.1 r6.2.1) fun r7 =>
 .chk (decide (([] : List A5).length + [r7].length ≤ 4294967296)) <|
 .leaf ((a0.1, a0.2.1, a0.2.2.1, r6.1.1, r6.1.2.1, r6.1.2.2.1, r6.1.2.2.2.1, r6.1.2.2.2.2.1, r6.1.2.2.2.2.2.1, r6.1.2.2.2.2.2.2.1, r6.1.2.2.2.2.2.2.2.1, r6.1.2.2.2.2.2.2.2.2.1, r6.1.2.2.2.2.2.2.2.2.2.1, r6.1.2.2.2.2.2.2.2.2.2.2.1, r6.1.2.2.2.2.2.2.2.2.2.2.2.1, r6.1.2.2.2.2.2.2.2.2.2.2.2.2.1, r6.1.2.2.2.2.2.2.2.2.2.2.2.2.2.1, r6.1.2.2.2.2.2.2.2.2.2.2.2.2.2.2.1, a0.2.2.2.2.2.2.2.2.2.2.2.2.2.2.2.2.2.2.1, a0.2.2.2.2.2.2.2.2.2.2.2.2.2.2.2.2.2.2.2.1, a0.2.2.2.2.2.2.2.2.2.2.2.2.2.2.2.2.2.2.2.2.1, a0.2.2.2.2.2.2.2.2.2.2.2.2.2.2.2.2.2.2.2.2.2.1, a0.2.2.2.2.2.2.2.2.2.2.2.2.2.2.2.2.2.2.2.2.2.2.1, a0.2.2.2.2.2.2.2.2.2.2.2.2.2.2.2.2.2.2.2.2.2.2.2.1, ()), ([(a0.2.2.2.2.2.2.2.2.2.2.2.2.2.2.2.2.2.2.1, a0.2.2.2.2.2.2.2.2.2.2.2.2.2.2.2.2.2.2.2.1, r6.2.1.1, r6.2.1.2.1, r6.2.1.2.2.1, r6.2.1.2.2.2.1, r6.2.1.2.2.2.2.1, r6.2.1.2.2.2.2.2.1, r6.2.1.2.2.2.2.2.2.1, r6.2.1.2.2.2.2.2.2.2.1, r6.2.1.2.2.2.2.2.2.2.2.1, r6.2.1.2.2.2.2.2.2.2.2.2.1, r6.2.1.2.2.2.2.2.2.2.2.2.2.1, ())], ()), ((([] : List A5) ++ [r7]), ())))))
def Amp (a0 : Bi) (a1 : YI) (a2 : YBs) : Option (Bi × ((List Bg) × Unit) × ((List A5) × Unit)) := (Wp a0 a1 a2).val
def Ds (x2 : Int × (List Aj) × Int × Int × Int × Int × (List Aj) × Int × Int × (List Aj) × Unit) : Option ((Int × (List Aj) × Int × Int × Int × Int × (List Aj) × Int × Int × (List Aj) × Unit) ⊕ ((Int × Int × (List Aj) × Int × Int × (List Aj) × Unit))) :=
 Tree.val (α := (Int × (List Aj) × Int × Int × Int × Int × (List Aj) × Int × Int × (List Aj) × Unit) ⊕ ((Int × Int × (List Aj) × Int × Int × (List Aj) × Unit))) <|
 .br (decide (x2.2.2.2.1 < x2.2.2.1)) (
 .chk (Nat.beq (Int.toNat x2.2.2.2.1) (Int.toNat x2.2.2.2.1)) <|
 .ob (idx x2.2.1 x2.2.2.2.1) fun e3 =>
 .br (decide (e3.2.2.2.1 ≥ x2.1)) (
 .chk (decide (x2.2.2.2.2.2.2.2.2.2.1.length + [e3].length ≤ 4294967296)) <|
 .chk (Nat.ble (Int.toNat x2.2.2.2.1 + 1) (Int.toNat (i64.wrap (x2.2.2.2.1 + (1 : Int))))) <|
 .leaf (.inl (x2.1, x2.2.1, x2.2.2.1, (i64.wrap (x2.2.2.2.1 + (1 : Int))), x2.2.2.2.2.1, x2.2.2.2.2.2.1, x2.2.2.2.2.2.2.1, x2.2.2.2.2.2.2.2.1, x2.2.2.2.2.2.2.2.2.1, (x2.2.2.2.2.2.2.2.2.2.1 ++ [e3]), ()))) (
 .chk (Nat.ble (Int.toNat x2.2.2.2.1 + 1) (Int.toNat (i64.wrap (x2.2.2.2.1 + (1 : Int))))) <|
 .leaf (.inl (x2.1, x2.2.1, x2.2.2.1, (i64.wrap (x2.2.2.2.1 + (1 : Int))), x2.2.2.2.2.1, x2.2.2.2.2.2.1, x2.2.2.2.2.2.2.1, x2.2.2.2.2.2.2.2.1, x2.2.2.2.2.2.2.2.2.1, x2.2.2.2.2.2.2.2.2.2.1, ())))) (
 .leaf (.inr (x2.2.2.2.2.1, x2.2.2.2.2.2.1, x2.2.2.2.2.2.2.1, x2.2.2.2.2.2.2.2.1, x2.2.2.2.2.2.2.2.2.1, x2.2.2.2.2.2.2.2.2.2.1, ())))
def F6 (a0 : A6) (a1 : YI) : Tree (A6) :=
 .ob (Dk a0) fun r1 =>
 .ob (Ay Ds (a1.1, r1.2.2.1, (r1.2.2.1.length : Int), (0 : Int), (0 : Int), (0 : Int), ([] : List Aj), a0.1, a0.2.1, ([] : List Aj), ())) fun o4 =>
 .leaf (o4.2.2.2.1, o4.2.2.2.2.1, o4.2.2.2.2.2.1, ())
def Nl (a0 : A6) (a1 : YI) : Option (A6) := (F6 a0 a1).val
def Aor (a0 : A6) (a1 : YI) (a2 : B5) (a3 : YBs) : Tree (A6 × (Bool × Unit)) :=
 .ob (P8 a0) fun r1 =>
 .br (!r1.1) (
 .ob (Dk a0) fun r2 =>
 .leaf (r2, (false, ()))) (
 .ob (Bp a1 ((0 : Int), ()) ((1000000 : Int), ())) fun r3 =>
 .br (!r3.1) (
 .ob (Dk a0) fun r4 =>
 .leaf (r4, (false, ()))) (
 .ob (Ox a2) fun r5 =>
 .br (!r5.1) (
 .ob (Dk a0) fun r6 =>
 .leaf (r6, (false, ()))) (
 .ob (Dx a3) fun r7 =>
 .br (!r7.1) (
 .ob (Dk a0) fun r8 =>
 .leaf (r8, (false, ()))) (
 .br (and (a2.1 == a0.1) (and (a2.2.1 == a0.2.1) true)) (
 .ob (Dk a0) fun r9 =>
 .leaf (r9, (false, ()))) (
 .ob (Nl a0 a1) fun r10 =>
 .ob (Xw r10 a2) fun r11 =>
 .br (decide (r11.1 ≥ (0 : Int))) (
 .ob (Dk a0) fun r12 =>
 .leaf (r12, (false, ()))) (
 .br ((r10.2.2.1.length : Int) == (3 : Int)) (
 .ob (Dk a0) fun r13 =>
 .leaf (r13, (false, ()))) (
 .ob (Bz a3) fun r14 =>
 .chk (decide (r10.2.2.1.length + [(a2.1, a2.2.1, r14.1, (i64.wrap (a1.1 + (6 : Int))), ())].length ≤ 4294967296)) <|
 .leaf ((r10.1, r10.2.1, (r10.2.2.1 ++ [(a2.1, a2.2.1, r14.1, (i64.wrap (a1.1 + (6 : Int))), ())]), ()), (true, ())))))))))
def Dz (a0 : A6) (a1 : YI) (a2 : B5) (a3 : YBs) : Option (A6 × (Bool × Unit)) := (Aor a0 a1 a2 a3).val
def Aak (a0 : Bi) (a1 : YI) (a2 : B5) (a3 : Av) (a4 : YBs) : Tree (Bi × ((List Bg) × Unit) × ((List A5) × Unit) × (Bool × Unit)) :=
 .ob (Z9 a0) fun r1 =>
 .ob (Aje a0) fun r2 =>
 .br (!r2.1) (
 .leaf (r1, (([] : List Bg), ()), (([] : List A5), ()), (false, ()))) (
 .br a0.2.2.2.2.2.2.2.2.2.2.2.2.2.2.2.2.2.2.2.2.2.2.2.1 (
 .leaf (r1, (([] : List Bg), ()), (([] : List A5), ()), (false, ()))) (
 .ob (Ox a2) fun r3 =>
 .br (!r3.1) (
 .leaf (r1, (([] : List Bg), ()), (([] : List A5), ()), (false, ()))) (
 .ob (Nk (a0.2.2.2.1, a0.2.2.2.2.1, a0.2.2.2.2.2.1, a0.2.2.2.2.2.2.1, a0.2.2.2.2.2.2.2.1, a0.2.2.2.2.2.2.2.2.1, a0.2.2.2.2.2.2.2.2.2.1, a0.2.2.2.2.2.2.2.2.2.2.1, a0.2.2.2.2.2.2.2.2.2.2.2.1, a0.2.2.2.2.2.2.2.2.2.2.2.2.1, a0.2.2.2.2.2.2.2.2.2.2.2.2.2.1, a0.2.2.2.2.2.2.2.2.2.2.2.2.2.2.1, a0.2.2.2.2.2.2.2.2.2.2.2.2.2.2.2.1, a0.2.2.2.2.2.2.2.2.2.2.2.2.2.2.2.2.1, a0.2.2.2.2.2.2.2.2.2.2.2.2.2.2.2.2.2.1, ()) a1 a3) fun r4 =>
 .br (r4.2.2.1 != (0 : Int)) (
 .leaf (r1, (([] : List Bg), ()), (([] : List A5), ()), (false, ()))) (
 .ob (Xv (a0.2.2.2.1, a0.2.2.2.2.1, a0.2.2.2.2.2.1, a0.2.2.2.2.2.2.1, a0.2.2.2.2.2.2.2.1, a0.2.2.2.2.2.2.2.2.1, a0.2.2.2.2.2.2.2.2.2.1, a0.2.2.2.2.2.2.2.2.2.2.1, a0.2.2.2.2.2.2.2.2.2.2.2.1, a0.2.2.2.2.2.2.2.2.2.2.2.2.1, a0.2.2.2.2.2.2.2.2.2.2.2.2.2.1, a0.2.2.2.2.2.2.2.2.2.2.2.2.2.2.1, a0.2.2.2.2.2.2.2.2.2.2.2.2.2.2.2.1, a0.2.2.2.2.2.2.2.2.2.2.2.2.2.2.2.2.1, a0.2.2.2.2.2.2.2.2.2.2.2.2.2.2.2.2.2.1, ()) (a3.2.2.2.2.2.2.2.1, ())) fun r5 =>
 .ob (H2 ((0 : Int), ()) a3) fun r6 =>
 .ob (Avw r5.1 (a0.2.2.1, ()) r6) fun r7 =>
 .br (a3.1 == (4 : Int)) (
 .ob (Bz (a0.2.2.1, ())) fun r8 =>
 .chk (decide ([r7].length + [((6 : Int), (0 : Int), (0 : Int), ([] : List YB), r8.1, a3.2.2.2.2.2.2.2.1, a3.2.2.2.2.2.2.2.2.1, r4.2.1.1, ([] : List YB), (0 : Int), (0 : Int), a1.1, ())].length ≤ 4294967296)) <|
 .ob (Dz (r1.2.2.2.2.2.2.2.2.2.2.2.2.2.2.2.2.2.2.1, r1.2.2.2.2.2.2.2.2.2.2.2.2.2.2.2.2.2.2.2.1, r1.2.2.2.2.2.2.2.2.2.2.2.2.2.2.2.2.2.2.2.2.1, ()) a1 a2 a4) fun r9 =>
 .ob (Cq r4.1 ((5 : Int), ()) a4) fun r10 =>
 .br (!r9.2.1) (
 .leaf ((r1.1, r1.2.1, r1.2.2.1, r4.1.1, r4.1.2.1, r4.1.2.2.1, r4.1.2.2.2.1, r4.1.2.2.2.2.1, r4.1.2.2.2.2.2.1, r4.1.2.2.2.2.2.2.1, r4.1.2.2.2.2.2.2.2.1, r4.1.2.2.2.2.2.2.2.2.1, r4.1.2.2.2.2.2.2.2.2.2.1, r4.1.2.2.2.2.2.2.2.2.2.2.1, r4.1.2.2.2.2.2.2.2.2.2.2.2.1, r4.1.2.2.2.2.2.2.2.2.2.2.2.2.1, r4.1.2.2.2.2.2.2.2.2.2.2.2.2.2.1, r4.1.2.2.2.2.2.2.2.2.2.2.2.2.2.2.1, r1.2.2.2.2.2.2.2.2.2.2.2.2.2.2.2.2.2.2.1, r1.2.2.2.2.2.2.2.2.2.2.2.2.2.2.2.2.2.2.2.1, r1.2.2.2.2.2.2.2.2.2.2.2.2.2.2.2.2.2.2.2.2.1, r1.2.2.2.2.2.2.2.2.2.2.2.2.2.2.2.2.2.2.2.2.2.1, a1.1, r1.2.2.2.2.2.2.2.2.2.2.2.2.2.2.2.2.2.2.2.2.2.2.2.1, ()), (([] : List Bg), ()), (([r7] ++ [((6 : Int), (0 : Int), (0 : Int), ([] : List YB), r8.1, a3.2.2.2.2.2.2.2.1, a3.2.2.2.2.2.2.2.2.1, r4.2.1.1, ([] : List YB), (0 : Int), (0 : Int), a1.1, ())]), ()), (false, ()))) (
 .br (r10.2.2.1 != (0 : Int)) (
 .leaf ((r1.1, r1.2.1, r1.2.2.1, r4.1.1, r4.1.2.1, r4.1.2.2.1, r4.1.2.2.2.1, r4.1.2.2.2.2.1, r4.1.2.2.2.2.2.1, r4.1.2.2.2.2.2.2.1, r4.1.2.2.2.2.2.2.2.1, r4.1.2.2.2.2.2.2.2.2.1, r4.1.2.2.2.2.2.2.2.2.2.1, r4.1.2.2.2.2.2.2.2.2.2.2.1, r4.1.2.2.2.2.2.2.2.2.2.2.2.1, r4.1.2.2.2.2.2.2.2.2.2.2.2.2.1, r4.1.2.2.2.2.2.2.2.2.2.2.2.2.2.1, r4.1.2.2.2.2.2.2.2.2.2.2.2.2.2.2.1, r1.2.2.2.2.2.2.2.2.2.2.2.2.2.2.2.2.2.2.1, r1.2.2.2.2.2.2.2.2.2.2.2.2.2.2.2.2.2.2.2.1, r1.2.2.2.2.2.2.2.2.2.2.2.2.2.2.2.2.2.2.2.2.1, r1.2.2.2.2.2.2.2.2.2.2.2.2.2.2.2.2.2.2.2.2.2.1, a1.1, r1.2.2.2.2.2.2.2.2.2.2.2.2.2.2.2.2.2.2.2.2.2.2.2.1, ()), (([] : List Bg), ()), (([r7] ++ [((6 : Int), (0 : Int), (0 : Int), ([] : List YB), r8.1, a3.2.2.2.2.2.2.2.1, a3.2.2.2.2.2.2.2.2.1, r4.2.1.1, ([] : List YB), (0 : Int), (0 : Int), a1.1, ())]), ()), (false, ()))) (
 .chk (decide (([] : List Bg).length + [(a2.1, a2.2.1, r10.2.1.1, r10.2.1.2.1, r10.2.1.2.2.1, r10.2.1.2.2.2.1, r10.2.1.2.2.2.2.1, r10.2.1.2.2.2.2.2.1, r10.2.1.2.2.2.2.2.2.1, r10.2.1.2.2.2.2.2.2.2.1, r10.2.1.2.2.2.2.2.2.2.2.1, r10.2.1.2.2.2.2.2.2.2.2.2.1, r10.2.1.2.2.2.2.2.2.2.2.2.2.1, ())].length ≤ 4294967296)) <|
 .ob (G6 r10.1 r10.2.1) fun r11 =>
 .chk (decide (([r7] ++ [((6 : Int), (0 : Int), (0 : Int), ([] : List YB), r8.1, a3.2.2.2.2.2.2.2.1, a3.2.2.2.2.2.2.2.2.1, r4.2.1.1, ([] : List YB), (0 : Int), (0 : Int), a1.1, ())]).length + [r11].length ≤ 4294967296)) <|
 .leaf ((r1.1, r1.2.1, r1.2.2.1, r10.1.1, r10.1.2.1, r10.1.2.2.1, r10.1.2.2.2.1, r10.1.2.2.2.2.1, r10.1.2.2.2.2.2.1, r10.1.2.2.2.2.2.2.1, r10.1.2.2.2.2.2.2.2.1, r10.1.2.2.2.2.2.2.2.2.1, r10.1.2.2.2.2.2.2.2.2.2.1, r10.1.2.2.2.2.2.2.2.2.2.2.1, r10.1.2.2.2.2.2.2.2.2.2.2.2.1, r10.1.2.2.2.2.2.2.2.2.2.2.2.2.1, r10.1.2.2.2.2.2.2.2.2.2.2.2.2.2.1, r10.1.2.2.2.2.2.2.2.2.2.2.2.2.2.2.1, r9.1.1, r9.1.2.1, r9.1.2.2.1, r1.2.2.2.2.2.2.2.2.2.2.2.2.2.2.2.2.2.2.2.2.2.1, a1.1, r1.2.2.2.2.2.2.2.2.2.2.2.2.2.2.2.2.2.2.2.2.2.2.2.1, ()), ((([] : List Bg) ++ [(a2.1, a2.2.1, r10.2.1.1, r10.2.1.2.1, r10.2.1.2.2.1, r10.2.1.2.2.2.1, r10.2.1.2.2.2.2.1, r10.2.1.2.2.2.2.2.1, r10.2.1.2.2.2.2.2.2.1, r10.2.1.2.2.2.2.2.2.2.1, r10.2.1.2.2.2.2.2.2.2.2.1, r10.2.1.2.2.2.2.2.2.2.2.2.1, r10.2.1.2.2.2.2.2.2.2.2.2.2.1, ())]), ()), ((([r7] ++ [((6 : Int), (0 : Int), (0 : Int), ([] : List YB), r8.1, a3.2.2.2.2.2.2.2.1, a3.2.2.2.2.2.2.2.2.1, r4.2.1.1, ([] : List YB), (0 : Int), (0 : Int), a1.1, ())]) ++ [r11]), ()), (true, ()))))) (
 .br (a3.1 == (6 : Int)) (
 .ob (Xx (a0.2.2.2.2.2.2.2.2.2.2.2.2.2.2.2.2.2.2.1, a0.2.2.2.2.2.2.2.2.2.2.2.2.2.2.2.2.2.2.2.1, a0.2.2.2.2.2.2.2.2.2.2.2.2.2.2.2.2.2.2.2.2.1, ()) a1 a2 r4.2.1) fun r12 =>
 .br r12.2.1 (
 .ob (Bz (a0.2.2.1, ())) fun r13 =>
 .chk (decide ([r7].length + [((9 : Int), (0 : Int), (0 : Int), ([] : List YB), r13.1, (0 : Int), (0 : Int), r4.2.1.1, ([] : List YB), a2.1, a2.2.1, a1.1, ())].length ≤ 4294967296)) <|
 .ob (Dz r12.1 a1 a2 a4) fun r14 =>
 .ob (Cq r4.1 ((5 : Int), ()) a4) fun r15 =>
 .br (!r14.2.1) (
 .leaf ((r1.1, r1.2.1, r1.2.2.1, r4.1.1, r4.1.2.1, r4.1.2.2.1, r4.1.2.2.2.1, r4.1.2.2.2.2.1, r4.1.2.2.2.2.2.1, r4.1.2.2.2.2.2.2.1, r4.1.2.2.2.2.2.2.2.1, r4.1.2.2.2.2.2.2.2.2.1, r4.1.2.2.2.2.2.2.2.2.2.1, r4.1.2.2.2.2.2.2.2.2.2.2.1, r4.1.2.2.2.2.2.2.2.2.2.2.2.1, r4.1.2.2.2.2.2.2.2.2.2.2.2.2.1, r4.1.2.2.2.2.2.2.2.2.2.2.2.2.2.1, r4.1.2.2.2.2.2.2.2.2.2.2.2.2.2.2.1, r12.1.1, r12.1.2.1, r12.1.2.2.1, r1.2.2.2.2.2.2.2.2.2.2.2.2.2.2.2.2.2.2.2.2.2.1, a1.1, r1.2.2.2.2.2.2.2.2.2.2.2.2.2.2.2.2.2.2.2.2.2.2.2.1, ()), (([] : List Bg), ()), (([r7] ++ [((9 : Int), (0 : Int), (0 : Int), ([] : List YB), r13.1, (0 : Int), (0 : Int), r4.2.1.1, ([] : List YB), a2.1, a2.2.1, a1.1, ())]), ()), (false, ()))) (
 .br (r15.2.2.1 != (0 : Int)) (
 .leaf ((r1.1, r1.2.1, r1.2.2.1, r4.1.1, r4.1.2.1, r4.1.2.2.1, r4.1.2.2.2.1, r4.1.2.2.2.2.1, r4.1.2.2.2.2.2.1, r4.1.2.2.2.2.2.2.1, r4.1.2.2.2.2.2.2.2.1, r4.1.2.2.2.2.2.2.2.2.1, r4.1.2.2.2.2.2.2.2.2.2.1, r4.1.2.2.2.2.2.2.2.2.2.2.1, r4.1.2.2.2.2.2.2.2.2.2.2.2.1, r4.1.2.2.2.2.2.2.2.2.2.2.2.2.1, r4.1.2.2.2.2.2.2.2.2.2.2.2.2.2.1, r4.1.2.2.2.2.2.2.2.2.2.2.2.2.2.2.1, r12.1.1, r12.1.2.1, r12.1.2.2.1, r1.2.2.2.2.2.2.2.2.2.2.2.2.2.2.2.2.2.2.2.2.2.1, a1.1, r1.2.2.2.2.2.2.2.2.2.2.2.2.2.2.2.2.2.2.2.2.2.2.2.1, ()), (([] : List Bg), ()), (([r7] ++ [((9 : Int), (0 : Int), (0 : Int), ([] : List YB), r13.1, (0 : Int), (0 : Int), r4.2.1.1, ([] : List YB), a2.1, a2.2.1, a1.1, ())]), ()), (false, ()))) (
 .chk (decide (([] : List Bg).length + [(a2.1, a2.2.1, r15.2.1.1, r15.2.1.2.1, r15.2.1.2.2.1, r15.2.1.2.2.2.1, r15.2.1.2.2.2.2.1, r15.2.1.2.2.2.2.2.1, r15.2.1.2.2.2.2.2.2.1, r15.2.1.2.2.2.2.2.2.2.1, r15.2.1.2.2.2.2.2.2.2.2.1, r15.2.1.2.2.2.2.2.2.2.2.2.1, r15.2.1.2.2.2.2.2.2.2.2.2.2.1, ())].length ≤ 4294967296)) <|
 .ob (G6 r15.1 r15.2.1) fun r16 =>
 .chk (decide (([r7] ++ [((9 : Int), (0 : Int), (0 : Int), ([] : List YB), r13.1, (0 : Int), (0 : Int), r4.2.1.1, ([] : List YB), a2.1, a2.2.1, a1.1, ())]).length + [r16].length ≤ 4294967296)) <|
 .leaf ((r1.1, r1.2.1, r1.2.2.1, r15.1.1, r15.1.2.1, r15.1.2.2.1, r15.1.2.2.2.1, r15.1.2.2.2.2.1, r15.1.2.2.2.2.2.1, r15.1.2.2.2.2.2.2.1, r15.1.2.2.2.2.2.2.2.1, r15.1.2.2.2.2.2.2.2.2.1, r15.1.2.2.2.2.2.2.2.2.2.1, r15.1.2.2.2.2.2.2.2.2.2.2.1, r15.1.2.2.2.2.2.2.2.2.2.2.2.1, r15.1.2.2.2.2.2.2.2.2.2.2.2.2.1, r15.1.2.2.2.2.2.2.2.2.2.2.2.2.2.1, r15.1.2.2.2.2.2.2.2.2.2.2.2.2.2.2.1, r14.1.1, r14.1.2.1, r14.1.2.2.1, r1.2.2.2.2.2.2.2.2.2.2.2.2.2.2.2.2.2.2.2.2.2.1, a1.1, r1.2.2.2.2.2.2.2.2.2.2.2.2.2.2.2.2.2.2.2.2.2.2.2.1, ()), ((([] : List Bg) ++ [(a2.1, a2.2.1, r15.2.1.1, r15.2.1.2.1, r15.2.1.2.2.1, r15.2.1.2.2.2.1, r15.2.1.2.2.2.2.1, r15.2.1.2.2.2.2.2.1, r15.2.1.2.2.2.2.2.2.1, r15.2.1.2.2.2.2.2.2.2.1, r15.2.1.2.2.2.2.2.2.2.2.1, r15.2.1.2.2.2.2.2.2.2.2.2.1, r15.2.1.2.2.2.2.2.2.2.2.2.2.1, ())]), ()), ((([r7] ++ [((9 : Int), (0 : Int), (0 : Int), ([] : List YB), r13.1, (0 : Int), (0 : Int), r4.2.1.1, ([] : List YB), a2.1, a2.2.1, a1.1, ())]) ++ [r16]), ()), (true, ()))))) (
 .ob (Dz (r1.2.2.2.2.2.2.2.2.2.2.2.2.2.2.2.2.2.2.1, r1.2.2.2.2.2.2.2.2.2.2.2.2.2.2.2.2.2.2.2.1, r1.2.2.2.2.2.2.2.2.2.2.2.2.2.2.2.2.2.2.2.2.1, ()) a1 a2 a4) fun r17 =>
 .ob (Cq r4.1 ((5 : Int), ()) a4) fun r18 =>
 .br (!r17.2.1) (
 .leaf ((r1.1, r1.2.1, r1.2.2.1, r4.1.1, r4.1.2.1, r4.1.2.2.1, r4.1.2.2.2.1, r4.1.2.2.2.2.1, r4.1.2.2.2.2.2.1, r4.1.2.2.2.2.2.2.1, r4.1.2.2.2.2.2.2.2.1, r4.1.2.2.2.2.2.2.2.2.1, r4.1.2.2.2.2.2.2.2.2.2.1, r4.1.2.2.2.2.2.2.2.2.2.2.1, r4.1.2.2.2.2.2.2.2.2.2.2.2.1, r4.1.2.2.2.2.2.2.2.2.2.2.2.2.1, r4.1.2.2.2.2.2.2.2.2.2.2.2.2.2.1, r4.1.2.2.2.2.2.2.2.2.2.2.2.2.2.2.1, r1.2.2.2.2.2.2.2.2.2.2.2.2.2.2.2.2.2.2.1, r1.2.2.2.2.2.2.2.2.2.2.2.2.2.2.2.2.2.2.2.1, r1.2.2.2.2.2.2.2.2.2.2.2.2.2.2.2.2.2.2.2.2.1, r1.2.2.2.2.2.2.2.2.2.2.2.2.2.2.2.2.2.2.2.2.2.1, a1.1, r1.2.2.2.2.2.2.2.2.2.2.2.2.2.2.2.2.2.2.2.2.2.2.2.1, ()), (([] : List Bg), ()), ([r7], ()), (false, ()))) (
 .br (r18.2.2.1 != (0 : Int)) (
 .leaf ((r1.1, r1.2.1, r1.2.2.1, r4.1.1, r4.1.2.1, r4.1.2.2.1, r4.1.2.2.2.1, r4.1.2.2.2.2.1, r4.1.2.2.2.2.2.1, r4.1.2.2.2.2.2.2.1, r4.1.2.2.2.2.2.2.2.1, r4.1.2.2.2.2.2.2.2.2.1, r4.1.2.2.2.2.2.2.2.2.2.1, r4.1.2.2.2.2.2.2.2.2.2.2.1, r4.1.2.2.2.2.2.2.2.2.2.2.2.1, r4.1.2.2.2.2.2.2.2.2.2.2.2.2.1, r4.1.2.2.2.2.2.2.2.2.2.2.2.2.2.1, r4.1.2.2.2.2.2.2.2.2.2.2.2.2.2.2.1, r1.2.2.2.2.2.2.2.2.2.2.2.2.2.2.2.2.2.2.1, r1.2.2.2.2.2.2.2.2.2.2.2.2.2.2.2.2.2.2.2.1, r1.2.2.2.2.2.2.2.2.2.2.2.2.2.2.2.2.2.2.2.2.1, r1.2.2.2.2.2.2.2.2.2.2.2.2.2.2.2.2.2.2.2.2.2.1, a1.1, r1.2.2.2.2.2.2.2.2.2.2.2.2.2.2.2.2.2.2.2.2.2.2.2.1, ()), (([] : List Bg), ()), ([r7], ()), (false, ()))) (
 .chk (decide (([] : List Bg).length + [(a2.1, a2.2.1, r18.2.1.1, r18.2.1.2.1, r18.2.1.2.2.1, r18.2.1.2.2.2.1, r18.2.1.2.2.2.2.1, r18.2.1.2.2.2.2.2.1, r18.2.1.2.2.2.2.2.2.1, r18.2.1.2.2.2.2.2.2.2.1, r18.2.1.2.2.2.2.2.2.2.2.1, r18.2.1.2.2.2.2.2.2.2.2.2.1, r18.2.1.2.2.2.2.2.2.2.2.2.2.1, ())].length ≤ 4294967296)) <|
 .ob (G6 r18.1 r18.2.1) fun r19 =>
 .chk (decide ([r7].length + [r19].length ≤ 4294967296)) <|
 .leaf ((r1.1, r1.2.1, r1.2.2.1, r18.1.1, r18.1.2.1, r18.1.2.2.1, r18.1.2.2.2.1, r18.1.2.2.2.2.1, r18.1.2.2.2.2.2.1, r18.1.2.2.2.2.2.2.1, r18.1.2.2.2.2.2.2.2.1, r18.1.2.2.2.2.2.2.2.2.1, r18.1.2.2.2.2.2.2.2.2.2.1, r18.1.2.2.2.2.2.2.2.2.2.2.1, r18.1.2.2.2.2.2.2.2.2.2.2.2.1, r18.1.2.2.2.2.2.2.2.2.2.2.2.2.1, r18.1.2.2.2.2.2.2.2.2.2.2.2.2.2.1, r18.1.2.2.2.2.2.2.2.2.2.2.2.2.2.2.1, r17.1.1, r17.1.2.1, r17.1.2.2.1, r1.2.2.2.2.2.2.2.2.2.2.2.2.2.2.2.2.2.2.2.2.2.1, a1.1, r1.2.2.2.2.2.2.2.2.2.2.2.2.2.2.2.2.2.2.2.2.2.2.2.1, ()), ((([] : List Bg) ++ [(a2.1, a2.2.1, r18.2.1.1, r18.2.1.2.1, r18.2.1.2.2.1, r18.2.1.2.2.2.1, r18.2.1.2.2.2.2.1, r18.2.1.2.2.2.2.2.1, r18.2.1.2.2.2.2.2.2.1, r18.2.1.2.2.2.2.2.2.2.1, r18.2.1.2.2.2.2.2.2.2.2.1, r18.2.1.2.2.2.2.2.2.2.2.2.1, r18.2.1.2.2.2.2.2.2.2.2.2.2.1, ())]), ()), (([r7] ++ [r19]), ()), (true, ())))))) (
 .br (a3.1 == (7 : Int)) (
 .ob (Amp (r1.1, r1.2.1, r1.2.2.1, r4.1.1, r4.1.2.1, r4.1.2.2.1, r4.1.2.2.2.1, r4.1.2.2.2.2.1, r4.1.2.2.2.2.2.1, r4.1.2.2.2.2.2.2.1, r4.1.2.2.2.2.2.2.2.1, r4.1.2.2.2.2.2.2.2.2.1, r4.1.2.2.2.2.2.2.2.2.2.1, r4.1.2.2.2.2.2.2.2.2.2.2.1, r4.1.2.2.2.2.2.2.2.2.2.2.2.1, r4.1.2.2.2.2.2.2.2.2.2.2.2.2.1, r4.1.2.2.2.2.2.2.2.2.2.2.2.2.2.1, r4.1.2.2.2.2.2.2.2.2.2.2.2.2.2.2.1, r1.2.2.2.2.2.2.2.2.2.2.2.2.2.2.2.2.2.2.1, r1.2.2.2.2.2.2.2.2.2.2.2.2.2.2.2.2.2.2.2.1, r1.2.2.2.2.2.2.2.2.2.2.2.2.2.2.2.2.2.2.2.2.1, r1.2.2.2.2.2.2.2.2.2.2.2.2.2.2.2.2.2.2.2.2.2.1, a1.1, r1.2.2.2.2.2.2.2.2.2.2.2.2.2.2.2.2.2.2.2.2.2.2.2.1, ()) (a3.2.2.2.2.2.2.2.1, ()) r4.2.1) fun r20 =>
 .chk (decide (([] : List Bg).length + r20.2.1.1.length ≤ 4294967296)) <|
 .chk (decide ([r7].length + r20.2.2.1.length ≤ 4294967296)) <|
 .ob (Dz (r20.1.2.2.2.2.2.2.2.2.2.2.2.2.2.2.2.2.2.2.1, r20.1.2.2.2.2.2.2.2.2.2.2.2.2.2.2.2.2.2.2.2.1, r20.1.2.2.2.2.2.2.2.2.2.2.2.2.2.2.2.2.2.2.2.2.1, ()) a1 a2 a4) fun r21 =>
 .ob (Cq (r20.1.2.2.2.1, r20.1.2.2.2.2.1, r20.1.2.2.2.2.2.1, r20.1.2.2.2.2.2.2.1, r20.1.2.2.2.2.2.2.2.1, r20.1.2.2.2.2.2.2.2.2.1, r20.1.2.2.2.2.2.2.2.2.2.1, r20.1.2.2.2.2.2.2.2.2.2.2.1, r20.1.2.2.2.2.2.2.2.2.2.2.2.1, r20.1.2.2.2.2.2.2.2.2.2.2.2.2.1, r20.1.2.2.2.2.2.2.2.2.2.2.2.2.2.1, r20.1.2.2.2.2.2.2.2.2.2.2.2.2.2.2.1, r20.1.2.2.2.2.2.2.2.2.2.2.2.2.2.2.2.1, r20.1.2.2.2.2.2.2.2.2.2.2.2.2.2.2.2.2.1, r20.1.2.2.2.2.2.2.2.2.2.2.2.2.2.2.2.2.2.1, ()) ((5 : Int), ()) a4) fun r22 =>
 .br (!r21.2.1) (
 .leaf (r20.1, ((([] : List Bg) ++ r20.2.1.1), ()), (([r7] ++ r20.2.2.1), ()), (false, ()))) (
 .br (r22.2.2.1 != (0 : Int)) (
 .leaf (r20.1, ((([] : List Bg) ++ r20.2.1.1), ()), (([r7] ++ r20.2.2.1), ()), (false, ()))) (
 .chk (decide ((([] : List Bg) ++ r20.2.1.1).length + [(a2.1, a2.2.1, r22.2.1.1, r22.2.1.2.1, r22.2.1.2.2.1, r22.2.1.2.2.2.1, r22.2.1.2.2.2.2.1, r22.2.1.2.2.2.2.2.1, r22.2.1.2.2.2.2.2.2.1, r22.2.1.2.2.2.2.2.2.2.1, r22.2.1.2.2.2.2.2.2.2.2.1, r22.2.1.2.2.2.2.2.2.2.2.2.1, r22.2.1.2.2.2.2.2.2.2.2.2.2.1, ())].length ≤ 4294967296)) <|
 .ob (G6 r22.1 r22.2.1) fun r23 =>
 .chk (decide (([r7] ++ r20.2.2.1).length + [r23].length ≤ 4294967296)) <|
 .leaf ((r20.1.1, r20.1.2.1, r20.1.2.2.1, r22.1.1, r22.1.2.1, r22.1.2.2.1, r22.1.2.2.2.1, r22.1.2.2.2.2.1, r22.1.2.2.2.2.2.1, r22.1.2.2.2.2.2.2.1, r22.1.2.2.2.2.2.2.2.1, r22.1.2.2.2.2.2.2.2.2.1, r22.1.2.2.2.2.2.2.2.2.2.1, r22.1.2.2.2.2.2.2.2.2.2.2.1, r22.1.2.2.2.2.2.2.2.2.2.2.2.1, r22.1.2.2.2.2.2.2.2.2.2.2.2.2.1, r22.1.2.2.2.2.2.2.2.2.2.2.2.2.2.1, r22.1.2.2.2.2.2.2.2.2.2.2.2.2.2.2.1, r21.1.1, r21.1.2.1, r21.1.2.2.1, r20.1.2.2.2.2.2.2.2.2.2.2.2.2.2.2.2.2.2.2.2.2.2.1, r20.1.2.2.2.2.2.2.2.2.2.2.2.2.2.2.2.2.2.2.2.2.2.2.1, r20.1.2.2.2.2.2.2.2.2.2.2.2.2.2.2.2.2.2.2.2.2.2.2.2.1, ()), (((([] : List Bg) ++ r20.2.1.1) ++ [(a2.1, a2.2.1, r22.2.1.1, r22.2.1.2.1, r22.2.1.2.2.1, r22.2.1.2.2.2.1, r22.2.1.2.2.2.2.1, r22.2.1.2.2.2.2.2.1, r22.2.1.2.2.2.2.2.2.1, r22.2.1.2.2.2.2.2.2.2.1, r22.2.1.2.2.2.2.2.2.2.2.1, r22.2.1.2.2.2.2.2.2.2.2.2.1, r22.2.1.2.2.2.2.2.2.2.2.2.2.1, ())]), ()), ((([r7] ++ r20.2.2.1) ++ [r23]), ()), (true, ()))))) (
 .ob (Dz (r1.2.2.2.2.2.2.2.2.2.2.2.2.2.2.2.2.2.2.1, r1.2.2.2.2.2.2.2.2.2.2.2.2.2.2.2.2.2.2.2.1, r1.2.2.2.2.2.2.2.2.2.2.2.2.2.2.2.2.2.2.2.2.1, ()) a1 a2 a4) fun r24 =>
 .ob (Cq r4.1 ((5 : Int), ()) a4) fun r25 =>
 .br (!r24.2.1) (
 .leaf ((r1.1, r1.2.1, r1.2.2.1, r4.1.1, r4.1.2.1, r4.1.2.2.1, r4.1.2.2.2.1, r4.1.2.2.2.2.1, r4.1.2.2.2.2.2.1, r4.1.2.2.2.2.2.2.1, r4.1.2.2.2.2.2.2.2.1, r4.1.2.2.2.2.2.2.2.2.1, r4.1.2.2.2.2.2.2.2.2.2.1, r4.1.2.2.2.2.2.2.2.2.2.2.1, r4.1.2.2.2.2.2.2.2.2.2.2.2.1, r4.1.2.2.2.2.2.2.2.2.2.2.2.2.1, r4.1.2.2.2.2.2.2.2.2.2.2.2.2.2.1, r4.1.2.2.2.2.2.2.2.2.2.2.2.2.2.2.1, r1.2.2.2.2.2.2.2.2.2.2.2.2.2.2.2.2.2.2.1, r1.2.2.2.2.2.2.2.2.2.2.2.2.2.2.2.2.2.2.2.1, r1.2.2.2.2.2.2.2.2.2.2.2.2.2.2.2.2.2.2.2.2.1, r1.2.2.2.2.2.2.2.2.2.2.2.2.2.2.2.2.2.2.2.2.2.1, a1.1, r1.2.2.2.2.2.2.2.2.2.2.2.2.2.2.2.2.2.2.2.2.2.2.2.1, ()), (([] : List Bg), ()), ([r7], ()), (false, ()))) (
 .br (r25.2.2.1 != (0 : Int)) (
 .leaf ((r1.1, r1.2.1, r1.2.2.1, r4.1.1, r4.1.2.1, r4.1.2.2.1, r4.1.2.2.2.1, r4.1.2.2.2.2.1, r4.1.2.2.2.2.2.1, r4.1.2.2.2.2.2.2.1, r4.1.2.2.2.2.2.2.2.1, r4.1.2.2.2.2.2.2.2.2.1, r4.1.2.2.2.2.2.2.2.2.2.1, r4.1.2.2.2.2.2.2.2.2.2.2.1, r4.1.2.2.2.2.2.2.2.2.2.2.2.1, r4.1.2.2.2.2.2.2.2.2.2.2.2.2.1, r4.1.2.2.2.2.2.2.2.2.2.2.2.2.2.1, r4.1.2.2.2.2.2.2.2.2.2.2.2.2.2.2.1, r1.2.2.2.2.2.2.2.2.2.2.2.2.2.2.2.2.2.2.1, r1.2.2.2.2.2.2.2.2.2.2.2.2.2.2.2.2.2.2.2.1, r1.2.2.2.2.2.2.2.2.2.2.2.2.2.2.2.2.2.2.2.2.1, r1.2.2.2.2.2.2.2.2.2.2.2.2.2.2.2.2.2.2.2.2.2.1, a1.1, r1.2.2.2.2.2.2.2.2.2.2.2.2.2.2.2.2.2.2.2.2.2.2.2.1, ()), (([] : List Bg), ()), ([r7], ()), (false, ()))) (
 .chk (decide (([] : List Bg).length + [(a2.1, a2.2.1, r25.2.1.1, r25.2.1.2.1, r25.2.1.2.2.1, r25.2.1.2.2.2.1, r25.2.1.2.2.2.2.1, r25.2.1.2.2.2.2.2.1, r25.2.1.2.2.2.2.2.2.1, r25.2.1.2.2.2.2.2.2.2.1, r25.2.1.2.2.2.2.2.2.2.2.1, r25.2.1.2.2.2.2.2.2.2.2.2.1, r25.2.1.2.2.2.2.2.2.2.2.2.2.1, ())].length ≤ 4294967296)) <|
 .ob (G6 r25.1 r25.2.1) fun r26 =>
 .chk (decide ([r7].length + [r26].length ≤ 4294967296)) <|
 .leaf ((r1.1, r1.2.1, r1.2.2.1, r25.1.1, r25.1.2.1, r25.1.2.2.1, r25.1.2.2.2.1, r25.1.2.2.2.2.1, r25.1.2.2.2.2.2.1, r25.1.2.2.2.2.2.2.1, r25.1.2.2.2.2.2.2.2.1, r25.1.2.2.2.2.2.2.2.2.1, r25.1.2.2.2.2.2.2.2.2.2.1, r25.1.2.2.2.2.2.2.2.2.2.2.1, r25.1.2.2.2.2.2.2.2.2.2.2.2.1, r25.1.2.2.2.2.2.2.2.2.2.2.2.2.1, r25.1.2.2.2.2.2.2.2.2.2.2.2.2.2.1, r25.1.2.2.2.2.2.2.2.2.2.2.2.2.2.2.1, r24.1.1, r24.1.2.1, r24.1.2.2.1, r1.2.2.2.2.2.2.2.2.2.2.2.2.2.2.2.2.2.2.2.2.2.1, a1.1, r1.2.2.2.2.2.2.2.2.2.2.2.2.2.2.2.2.2.2.2.2.2.2.2.1, ()), ((([] : List Bg) ++ [(a2.1, a2.2.1, r25.2.1.1, r25.2.1.2.1, r25.2.1.2.2.1, r25.2.1.2.2.2.1, r25.2.1.2.2.2.2.1, r25.2.1.2.2.2.2.2.1, r25.2.1.2.2.2.2.2.2.1, r25.2.1.2.2.2.2.2.2.2.1, r25.2.1.2.2.2.2.2.2.2.2.1, r25.2.1.2.2.2.2.2.2.2.2.2.1, r25.2.1.2.2.2.2.2.2.2.2.2.2.1, ())]), ()), (([r7] ++ [r26]), ()), (true, ())))))))))))
def Sq (a0 : Bi) (a1 : YI) (a2 : B5) (a3 : Av) (a4 : YBs) : Option (Bi × ((List Bg) × Unit) × ((List A5) × Unit) × (Bool × Unit)) := (Aak a0 a1 a2 a3 a4).val
def It (x1 : (List YB) × (List YB) × Int × Unit) : Option (((List YB) × (List YB) × Int × Unit) ⊕ ((Bool × Unit) ⊕ (Unit))) :=
 Tree.val (α := ((List YB) × (List YB) × Int × Unit) ⊕ ((Bool × Unit) ⊕ (Unit))) <|
 .br (decide (x1.2.2.1 < (x1.1.length : Int))) (
 .ob (idx x1.1 x1.2.2.1) fun e2 =>
 .ob (idx x1.2.1 x1.2.2.1) fun e3 =>
 .br (e2.1 != e3.1) (
 .leaf (.inr (.inl (false, ())))) (
 .leaf (.inl (x1.1, x1.2.1, (i64.wrap (x1.2.2.1 + (1 : Int))), ())))) (
 .leaf (.inr (.inr ())))
def Qa (a0 : YBs) (a1 : YBs) : Tree ((Bool × Unit)) :=
 .br ((a0.1.length : Int) != (a1.1.length : Int)) (
 .leaf (false, ())) (
 .ob (Ay It (a0.1, a1.1, (0 : Int), ())) fun o4 =>
 .sm o4 (fun o5 =>
 .leaf o5) (fun o6 =>
 .leaf (true, ())))
def Co (a0 : YBs) (a1 : YBs) : Option ((Bool × Unit)) := (Qa a0 a1).val
def Kb (x1 : (List YI) × (List YI) × Int × Unit) : Option (((List YI) × (List YI) × Int × Unit) ⊕ ((Bool × Unit) ⊕ (Unit))) :=
 Tree.val (α := ((List YI) × (List YI) × Int × Unit) ⊕ ((Bool × Unit) ⊕ (Unit))) <|
 .br (decide (x1.2.2.1 < (x1.1.length : Int))) (
 .ob (idx x1.1 x1.2.2.1) fun e2 =>
 .ob (idx x1.2.1 x1.2.2.1) fun e3 =>
 .br (e2.1 != e3.1) (
 .leaf (.inr (.inl (false, ())))) (
 .leaf (.inl (x1.1, x1.2.1, (i64.wrap (x1.2.2.1 + (1 : Int))), ())))) (
 .leaf (.inr (.inr ())))
def Sr (a0 : (List YI) × Unit) (a1 : (List YI) × Unit) : Tree ((Bool × Unit)) :=
 .br ((a0.1.length : Int) != (a1.1.length : Int)) (
 .leaf (false, ())) (
 .ob (Ay Kb (a0.1, a1.1, (0 : Int), ())) fun o4 =>
 .sm o4 (fun o5 =>
 .leaf o5) (fun o6 =>
 .leaf (true, ())))
def Aj1 (a0 : (List YI) × Unit) (a1 : (List YI) × Unit) : Option ((Bool × Unit)) := (Sr a0 a1).val
def Aos (a0 : Bo) (a1 : Bo) : Tree ((Bool × Unit)) :=
 .br (a0.1 != a1.1) (
 .leaf (false, ())) (
 .ob (Aj1 (a0.2.1, ()) (a1.2.1, ())) fun r1 =>
 .br (!r1.1) (
 .leaf (false, ())) (
 .leaf (true, ())))
def Aot (a0 : Bo) (a1 : Bo) : Option ((Bool × Unit)) := (Aos a0 a1).val
def Av2 (a0 : YEp) (a1 : YEp) : Tree ((Bool × Unit)) :=
 .br (a0.1 != a1.1) (
 .leaf (false, ())) (
 .ob (Co (a0.2.1, ()) (a1.2.1, ())) fun r1 =>
 .br (!r1.1) (
 .leaf (false, ())) (
 .br (a0.2.2.1 != a1.2.2.1) (
 .leaf (false, ())) (
 .ob (Aot (a0.2.2.2.1, a0.2.2.2.2.1, ()) (a1.2.2.2.1, a1.2.2.2.2.1, ())) fun r2 =>
 .br (!r2.1) (
 .leaf (false, ())) (
 .leaf (true, ())))))
def Aj2 (a0 : YEp) (a1 : YEp) : Option ((Bool × Unit)) := (Av2 a0 a1).val
def Aj3 (a0 : Ak) (a1 : Ak) : Tree ((Bool × Unit)) :=
 .br (a0.1 != a1.1) (
 .leaf (false, ())) (
 .ob (Co (a0.2.1, ()) (a1.2.1, ())) fun r1 =>
 .br (!r1.1) (
 .leaf (false, ())) (
 .ob (Aj2 (a0.2.2.1, a0.2.2.2.1, a0.2.2.2.2.1, a0.2.2.2.2.2.1, a0.2.2.2.2.2.2.1, ()) (a1.2.2.1, a1.2.2.2.1, a1.2.2.2.2.1, a1.2.2.2.2.2.1, a1.2.2.2.2.2.2.1, ())) fun r2 =>
 .br (!r2.1) (
 .leaf (false, ())) (
 .ob (Aj2 (a0.2.2.2.2.2.2.2.1, a0.2.2.2.2.2.2.2.2.1, a0.2.2.2.2.2.2.2.2.2.1, a0.2.2.2.2.2.2.2.2.2.2.1, a0.2.2.2.2.2.2.2.2.2.2.2.1, ()) (a1.2.2.2.2.2.2.2.1, a1.2.2.2.2.2.2.2.2.1, a1.2.2.2.2.2.2.2.2.2.1, a1.2.2.2.2.2.2.2.2.2.2.1, a1.2.2.2.2.2.2.2.2.2.2.2.1, ())) fun r3 =>
 .br (!r3.1) (
 .leaf (false, ())) (
 .br (!(a0.2.2.2.2.2.2.2.2.2.2.2.2.1 == a1.2.2.2.2.2.2.2.2.2.2.2.2.1)) (
 .leaf (false, ())) (
 .br (a0.2.2.2.2.2.2.2.2.2.2.2.2.2.1 != a1.2.2.2.2.2.2.2.2.2.2.2.2.2.1) (
 .leaf (false, ())) (
 .ob (Co (a0.2.2.2.2.2.2.2.2.2.2.2.2.2.2.1, ()) (a1.2.2.2.2.2.2.2.2.2.2.2.2.2.2.1, ())) fun r4 =>
 .br (!r4.1) (
 .leaf (false, ())) (
 .leaf (true, ()))))))))
def Aj4 (a0 : Ak) (a1 : Ak) : Option ((Bool × Unit)) := (Aj3 a0 a1).val
def Aj5 (a0 : B5) (a1 : B5) : Tree ((Bool × Unit)) :=
 .br (a0.1 != a1.1) (
 .leaf (false, ())) (
 .br (a0.2.1 != a1.2.1) (
 .leaf (false, ())) (
 .leaf (true, ())))
def O6 (a0 : B5) (a1 : B5) : Option ((Bool × Unit)) := (Aj5 a0 a1).val
def Aj6 (a0 : Aj) (a1 : Aj) : Tree ((Bool × Unit)) :=
 .ob (O6 (a0.1, a0.2.1, ()) (a1.1, a1.2.1, ())) fun r1 =>
 .br (!r1.1) (
 .leaf (false, ())) (
 .ob (Co (a0.2.2.1, ()) (a1.2.2.1, ())) fun r2 =>
 .br (!r2.1) (
 .leaf (false, ())) (
 .br (a0.2.2.2.1 != a1.2.2.2.1) (
 .leaf (false, ())) (
 .leaf (true, ()))))
def Aj7 (a0 : Aj) (a1 : Aj) : Option ((Bool × Unit)) := (Aj6 a0 a1).val
def Iu (x1 : (List Aj) × (List Aj) × Int × Unit) : Option (((List Aj) × (List Aj) × Int × Unit) ⊕ ((Bool × Unit) ⊕ (Unit))) :=
 Tree.val (α := ((List Aj) × (List Aj) × Int × Unit) ⊕ ((Bool × Unit) ⊕ (Unit))) <|
 .br (decide (x1.2.2.1 < (x1.1.length : Int))) (
 .ob (idx x1.1 x1.2.2.1) fun e2 =>
 .ob (idx x1.2.1 x1.2.2.1) fun e3 =>
 .ob (Aj7 e2 e3) fun r4 =>
 .br (!r4.1) (
 .leaf (.inr (.inl (false, ())))) (
 .leaf (.inl (x1.1, x1.2.1, (i64.wrap (x1.2.2.1 + (1 : Int))), ())))) (
 .leaf (.inr (.inr ())))
def Qb (a0 : (List Aj) × Unit) (a1 : (List Aj) × Unit) : Tree ((Bool × Unit)) :=
 .br ((a0.1.length : Int) != (a1.1.length : Int)) (
 .leaf (false, ())) (
 .ob (Ay Iu (a0.1, a1.1, (0 : Int), ())) fun o5 =>
 .sm o5 (fun o6 =>
 .leaf o6) (fun o7 =>
 .leaf (true, ())))
def Aeo (a0 : (List Aj) × Unit) (a1 : (List Aj) × Unit) : Option ((Bool × Unit)) := (Qb a0 a1).val
def Aep (a0 : A6) (a1 : A6) : Tree ((Bool × Unit)) :=
 .ob (O6 (a0.1, a0.2.1, ()) (a1.1, a1.2.1, ())) fun r1 =>
 .br (!r1.1) (
 .leaf (false, ())) (
 .ob (Aeo (a0.2.2.1, ()) (a1.2.2.1, ())) fun r2 =>
 .br (!r2.1) (
 .leaf (false, ())) (
 .leaf (true, ())))
def Aeq (a0 : A6) (a1 : A6) : Option ((Bool × Unit)) := (Aep a0 a1).val
def Aj8 (a0 : Bi) (a1 : Bi) : Tree ((Bool × Unit)) :=
 .br (a0.1 != a1.1) (
 .leaf (false, ())) (
 .ob (Co (a0.2.1, ()) (a1.2.1, ())) fun r1 =>
 .br (!r1.1) (
 .leaf (false, ())) (
 .ob (Co (a0.2.2.1, ()) (a1.2.2.1, ())) fun r2 =>
 .br (!r2.1) (
 .leaf (false, ())) (
 .ob (Aj4 (a0.2.2.2.1, a0.2.2.2.2.1, a0.2.2.2.2.2.1, a0.2.2.2.2.2.2.1, a0.2.2.2.2.2.2.2.1, a0.2.2.2.2.2.2.2.2.1, a0.2.2.2.2.2.2.2.2.2.1, a0.2.2.2.2.2.2.2.2.2.2.1, a0.2.2.2.2.2.2.2.2.2.2.2.1, a0.2.2.2.2.2.2.2.2.2.2.2.2.1, a0.2.2.2.2.2.2.2.2.2.2.2.2.2.1, a0.2.2.2.2.2.2.2.2.2.2.2.2.2.2.1, a0.2.2.2.2.2.2.2.2.2.2.2.2.2.2.2.1, a0.2.2.2.2.2.2.2.2.2.2.2.2.2.2.2.2.1, a0.2.2.2.2.2.2.2.2.2.2.2.2.2.2.2.2.2.1, ()) (a1.2.2.2.1, a1.2.2.2.2.1, a1.2.2.2.2.2.1, a1.2.2.2.2.2.2.1, a1.2.2.2.2.2.2.2.1, a1.2.2.2.2.2.2.2.2.1, a1.2.2.2.2.2.2.2.2.2.1, a1.2.2.2.2.2.2.2.2.2.2.1, a1.2.2.2.2.2.2.2.2.2.2.2.1, a1.2.2.2.2.2.2.2.2.2.2.2.2.1, a1.2.2.2.2.2.2.2.2.2.2.2.2.2.1, a1.2.2.2.2.2.2.2.2.2.2.2.2.2.2.1, a1.2.2.2.2.2.2.2.2.2.2.2.2.2.2.2.1, a1.2.2.2.2.2.2.2.2.2.2.2.2.2.2.2.2.1, a1.2.2.2.2.2.2.2.2.2.2.2.2.2.2.2.2.2.1, ())) fun r3 =>
 .br (!r3.1) (
 .leaf (false, ())) (
 .ob (Aeq (a0.2.2.2.2.2.2.2.2.2.2.2.2.2.2.2.2.2.2.1, a0.2.2.2.2.2.2.2.2.2.2.2.2.2.2.2.2.2.2.2.1, a0.2.2.2.2.2.2.2.2.2.2.2.2.2.2.2.2.2.2.2.2.1, ()) (a1.2.2.2.2.2.2.2.2.2.2.2.2.2.2.2.2.2.2.1, a1.2.2.2.2.2.2.2.2.2.2.2.2.2.2.2.2.2.2.2.1, a1.2.2.2.2.2.2.2.2.2.2.2.2.2.2.2.2.2.2.2.2.1, ())) fun r4 =>
 .br (!r4.1) (
 .leaf (false, ())) (
 .br (a0.2.2.2.2.2.2.2.2.2.2.2.2.2.2.2.2.2.2.2.2.2.1 != a1.2.2.2.2.2.2.2.2.2.2.2.2.2.2.2.2.2.2.2.2.2.1) (
 .leaf (false, ())) (
 .br (a0.2.2.2.2.2.2.2.2.2.2.2.2.2.2.2.2.2.2.2.2.2.2.1 != a1.2.2.2.2.2.2.2.2.2.2.2.2.2.2.2.2.2.2.2.2.2.2.1) (
 .leaf (false, ())) (
 .br (!(a0.2.2.2.2.2.2.2.2.2.2.2.2.2.2.2.2.2.2.2.2.2.2.2.1 == a1.2.2.2.2.2.2.2.2.2.2.2.2.2.2.2.2.2.2.2.2.2.2.2.1)) (
 .leaf (false, ())) (
 .leaf (true, ())))))))))
def O7 (a0 : Bi) (a1 : Bi) : Option ((Bool × Unit)) := (Aj8 a0 a1).val
def Aer (a0 : Av) (a1 : Av) : Tree ((Bool × Unit)) :=
 .br (a0.1 != a1.1) (
 .leaf (false, ())) (
 .br (a0.2.1 != a1.2.1) (
 .leaf (false, ())) (
 .ob (Co (a0.2.2.1, ()) (a1.2.2.1, ())) fun r1 =>
 .br (!r1.1) (
 .leaf (false, ())) (
 .ob (Co (a0.2.2.2.1, ()) (a1.2.2.2.1, ())) fun r2 =>
 .br (!r2.1) (
 .leaf (false, ())) (
 .br (a0.2.2.2.2.1 != a1.2.2.2.2.1) (
 .leaf (false, ())) (
 .ob (Co (a0.2.2.2.2.2.1, ()) (a1.2.2.2.2.2.1, ())) fun r3 =>
 .br (!r3.1) (
 .leaf (false, ())) (
 .ob (Co (a0.2.2.2.2.2.2.1, ()) (a1.2.2.2.2.2.2.1, ())) fun r4 =>
 .br (!r4.1) (
 .leaf (false, ())) (
 .br (a0.2.2.2.2.2.2.2.1 != a1.2.2.2.2.2.2.2.1) (
 .leaf (false, ())) (
 .br (a0.2.2.2.2.2.2.2.2.1 != a1.2.2.2.2.2.2.2.2.1) (
 .leaf (false, ())) (
 .ob (Co (a0.2.2.2.2.2.2.2.2.2.1, ()) (a1.2.2.2.2.2.2.2.2.2.1, ())) fun r5 =>
 .br (!r5.1) (
 .leaf (false, ())) (
 .ob (Co (a0.2.2.2.2.2.2.2.2.2.2.1, ()) (a1.2.2.2.2.2.2.2.2.2.2.1, ())) fun r6 =>
 .br (!r6.1) (
 .leaf (false, ())) (
 .leaf (true, ()))))))))))))
def Vg (a0 : Av) (a1 : Av) : Option ((Bool × Unit)) := (Aer a0 a1).val
def Aou (a0 : Bg) (a1 : Bg) : Tree ((Bool × Unit)) :=
 .ob (O6 (a0.1, a0.2.1, ()) (a1.1, a1.2.1, ())) fun r1 =>
 .br (!r1.1) (
 .leaf (false, ())) (
 .ob (Vg (a0.2.2.1, a0.2.2.2.1, a0.2.2.2.2.1, a0.2.2.2.2.2.1, a0.2.2.2.2.2.2.1, a0.2.2.2.2.2.2.2.1, a0.2.2.2.2.2.2.2.2.1, a0.2.2.2.2.2.2.2.2.2.1, a0.2.2.2.2.2.2.2.2.2.2.1, a0.2.2.2.2.2.2.2.2.2.2.2.1, a0.2.2.2.2.2.2.2.2.2.2.2.2.1, ()) (a1.2.2.1, a1.2.2.2.1, a1.2.2.2.2.1, a1.2.2.2.2.2.1, a1.2.2.2.2.2.2.1, a1.2.2.2.2.2.2.2.1, a1.2.2.2.2.2.2.2.2.1, a1.2.2.2.2.2.2.2.2.2.1, a1.2.2.2.2.2.2.2.2.2.2.1, a1.2.2.2.2.2.2.2.2.2.2.2.1, a1.2.2.2.2.2.2.2.2.2.2.2.2.1, ())) fun r2 =>
 .br (!r2.1) (
 .leaf (false, ())) (
 .leaf (true, ())))
def Aov (a0 : Bg) (a1 : Bg) : Option ((Bool × Unit)) := (Aou a0 a1).val
def Kc (x1 : (List Bg) × (List Bg) × Int × Unit) : Option (((List Bg) × (List Bg) × Int × Unit) ⊕ ((Bool × Unit) ⊕ (Unit))) :=
 Tree.val (α := ((List Bg) × (List Bg) × Int × Unit) ⊕ ((Bool × Unit) ⊕ (Unit))) <|
 .br (decide (x1.2.2.1 < (x1.1.length : Int))) (
 .ob (idx x1.1 x1.2.2.1) fun e2 =>
 .ob (idx x1.2.1 x1.2.2.1) fun e3 =>
 .ob (Aov e2 e3) fun r4 =>
 .br (!r4.1) (
 .leaf (.inr (.inl (false, ())))) (
 .leaf (.inl (x1.1, x1.2.1, (i64.wrap (x1.2.2.1 + (1 : Int))), ())))) (
 .leaf (.inr (.inr ())))
def Ss (a0 : (List Bg) × Unit) (a1 : (List Bg) × Unit) : Tree ((Bool × Unit)) :=
 .br ((a0.1.length : Int) != (a1.1.length : Int)) (
 .leaf (false, ())) (
 .ob (Ay Kc (a0.1, a1.1, (0 : Int), ())) fun o5 =>
 .sm o5 (fun o6 =>
 .leaf o6) (fun o7 =>
 .leaf (true, ())))
def Su (a0 : (List Bg) × Unit) (a1 : (List Bg) × Unit) : Option ((Bool × Unit)) := (Ss a0 a1).val
def Aj9 (a0 : A5) (a1 : A5) : Tree ((Bool × Unit)) :=
 .br (a0.1 != a1.1) (
 .leaf (false, ())) (
 .br (a0.2.1 != a1.2.1) (
 .leaf (false, ())) (
 .br (a0.2.2.1 != a1.2.2.1) (
 .leaf (false, ())) (
 .ob (Co (a0.2.2.2.1, ()) (a1.2.2.2.1, ())) fun r1 =>
 .br (!r1.1) (
 .leaf (false, ())) (
 .ob (Co (a0.2.2.2.2.1, ()) (a1.2.2.2.2.1, ())) fun r2 =>
 .br (!r2.1) (
 .leaf (false, ())) (
 .br (a0.2.2.2.2.2.1 != a1.2.2.2.2.2.1) (
 .leaf (false, ())) (
 .br (a0.2.2.2.2.2.2.1 != a1.2.2.2.2.2.2.1) (
 .leaf (false, ())) (
 .ob (Co (a0.2.2.2.2.2.2.2.1, ()) (a1.2.2.2.2.2.2.2.1, ())) fun r3 =>
 .br (!r3.1) (
 .leaf (false, ())) (
 .ob (Co (a0.2.2.2.2.2.2.2.2.1, ()) (a1.2.2.2.2.2.2.2.2.1, ())) fun r4 =>
 .br (!r4.1) (
 .leaf (false, ())) (
 .ob (O6 (a0.2.2.2.2.2.2.2.2.2.1, a0.2.2.2.2.2.2.2.2.2.2.1, ()) (a1.2.2.2.2.2.2.2.2.2.1, a1.2.2.2.2.2.2.2.2.2.2.1, ())) fun r5 =>
 .br (!r5.1) (
 .leaf (false, ())) (
 .br (a0.2.2.2.2.2.2.2.2.2.2.2.1 != a1.2.2.2.2.2.2.2.2.2.2.2.1) (
 .leaf (false, ())) (
 .leaf (true, ()))))))))))))
def Aka (a0 : A5) (a1 : A5) : Option ((Bool × Unit)) := (Aj9 a0 a1).val
def Iv (x1 : (List A5) × (List A5) × Int × Unit) : Option (((List A5) × (List A5) × Int × Unit) ⊕ ((Bool × Unit) ⊕ (Unit))) :=
 Tree.val (α := ((List A5) × (List A5) × Int × Unit) ⊕ ((Bool × Unit) ⊕ (Unit))) <|
 .br (decide (x1.2.2.1 < (x1.1.length : Int))) (
 .ob (idx x1.1 x1.2.2.1) fun e2 =>
 .ob (idx x1.2.1 x1.2.2.1) fun e3 =>
 .ob (Aka e2 e3) fun r4 =>
 .br (!r4.1) (
 .leaf (.inr (.inl (false, ())))) (
 .leaf (.inl (x1.1, x1.2.1, (i64.wrap (x1.2.2.1 + (1 : Int))), ())))) (
 .leaf (.inr (.inr ())))
def Qc (a0 : (List A5) × Unit) (a1 : (List A5) × Unit) : Tree ((Bool × Unit)) :=
 .br ((a0.1.length : Int) != (a1.1.length : Int)) (
 .leaf (false, ())) (
 .ob (Ay Iv (a0.1, a1.1, (0 : Int), ())) fun o5 =>
 .sm o5 (fun o6 =>
 .leaf o6) (fun o7 =>
 .leaf (true, ())))
def Qd (a0 : (List A5) × Unit) (a1 : (List A5) × Unit) : Option ((Bool × Unit)) := (Qc a0 a1).val
def Gf (x1 : Af5) : Option (Af5 ⊕ (Bnf)) :=
 Tree.val (α := Af5 ⊕ (Bnf)) <|
 .br (decide (x1.2.2.1 < (x1.1.length : Int))) (
 .ob (idx x1.1 x1.2.2.1) fun e2 =>
 let q3 := (x1.1.set (x1.2.2.1).toNat ((u8.wrap (x1.2.1)), ()))
 .leaf (.inl (q3, (i64.wrap (x1.2.1 + (1 : Int))), (i64.wrap (x1.2.2.1 + (1 : Int))), ()))) (
 .leaf (.inr (x1.1, x1.2.1, ())))
def Lw (a0 : YBs) (a1 : YI) : Tree (YI × YBs) :=
 .ob (Ay Gf (a0.1, a1.1, (0 : Int), ())) fun o4 =>
 .leaf ((o4.2.1, ()), (o4.1, ()))
def Bt (a0 : YBs) (a1 : YI) : Option (YI × YBs) := (Lw a0 a1).val
def Hn (x1 : (List YI) × Int × Int × Unit) : Option (((List YI) × Int × Int × Unit) ⊕ (((List YI) × Int × Unit))) :=
 Tree.val (α := ((List YI) × Int × Int × Unit) ⊕ (((List YI) × Int × Unit))) <|
 .br (decide (x1.2.2.1 < (x1.1.length : Int))) (
 .ob (idx x1.1 x1.2.2.1) fun e2 =>
 let q3 := (x1.1.set (x1.2.2.1).toNat (x1.2.1, ()))
 .leaf (.inl (q3, (i64.wrap (x1.2.1 + (1 : Int))), (i64.wrap (x1.2.2.1 + (1 : Int))), ()))) (
 .leaf (.inr (x1.1, x1.2.1, ())))
def Nm (a0 : (List YI) × Unit) (a1 : YI) : Tree (YI × ((List YI) × Unit)) :=
 .ob (Ay Hn (a0.1, a1.1, (0 : Int), ())) fun o4 =>
 .leaf ((o4.2.1, ()), (o4.1, ()))
def Aal (a0 : (List YI) × Unit) (a1 : YI) : Option (YI × ((List YI) × Unit)) := (Nm a0 a1).val
def Aes (a0 : Bo) (a1 : YI) : Tree (YI × Bo) :=
 .ob (Aal (a0.2.1, ()) a1) fun r1 =>
 .leaf (r1.1, (a0.1, r1.2.1, ()))
def Aet (a0 : Bo) (a1 : YI) : Option (YI × Bo) := (Aes a0 a1).val
def Akb (a0 : YEp) (a1 : YI) : Tree (YI × YEp) :=
 .ob (Bt (a0.2.1, ()) a1) fun r1 =>
 .ob (Aet (a0.2.2.2.1, a0.2.2.2.2.1, ()) r1.1) fun r2 =>
 .leaf (r2.1, (a0.1, r1.2.1, a0.2.2.1, a0.2.2.2.1, r2.2.2.1, ()))
def Xz (a0 : YEp) (a1 : YI) : Option (YI × YEp) := (Akb a0 a1).val
def Aam (a0 : Ak) (a1 : YI) : Tree (YI × Ak) :=
 .ob (Bt (a0.2.1, ()) a1) fun r1 =>
 .ob (Xz (a0.2.2.1, a0.2.2.2.1, a0.2.2.2.2.1, a0.2.2.2.2.2.1, a0.2.2.2.2.2.2.1, ()) r1.1) fun r2 =>
 .ob (Xz (a0.2.2.2.2.2.2.2.1, a0.2.2.2.2.2.2.2.2.1, a0.2.2.2.2.2.2.2.2.2.1, a0.2.2.2.2.2.2.2.2.2.2.1, a0.2.2.2.2.2.2.2.2.2.2.2.1, ()) r2.1) fun r3 =>
 .ob (Bt (a0.2.2.2.2.2.2.2.2.2.2.2.2.2.2.1, ()) r3.1) fun r4 =>
 .leaf (r4.1, (a0.1, r1.2.1, a0.2.2.1, r2.2.2.1, a0.2.2.2.2.1, a0.2.2.2.2.2.1, r2.2.2.2.2.2.1, a0.2.2.2.2.2.2.2.1, r3.2.2.1, a0.2.2.2.2.2.2.2.2.2.1, a0.2.2.2.2.2.2.2.2.2.2.1, r3.2.2.2.2.2.1, a0.2.2.2.2.2.2.2.2.2.2.2.2.1, a0.2.2.2.2.2.2.2.2.2.2.2.2.2.1, r4.2.1, ()))
def Aan (a0 : Ak) (a1 : YI) : Option (YI × Ak) := (Aam a0 a1).val
def Gg (x1 : (List Aj) × Int × Int × Unit) : Option (((List Aj) × Int × Int × Unit) ⊕ (((List Aj) × Int × Unit))) :=
 Tree.val (α := ((List Aj) × Int × Int × Unit) ⊕ (((List Aj) × Int × Unit))) <|
 .br (decide (x1.2.2.1 < (x1.1.length : Int))) (
 .ob (idx x1.1 x1.2.2.1) fun e2 =>
 let q3 := (x1.1.set (x1.2.2.1).toNat (x1.2.1, e2.2.1, e2.2.2.1, e2.2.2.2.1, ()))
 .ob (idx q3 x1.2.2.1) fun e4 =>
 let q5 := (q3.set (x1.2.2.1).toNat (e4.1, (i64.wrap (x1.2.1 + (1 : Int))), e4.2.2.1, e4.2.2.2.1, ()))
 .ob (idx q5 x1.2.2.1) fun e6 =>
 .ob (Bt (e6.2.2.1, ()) ((i64.wrap ((i64.wrap (x1.2.1 + (1 : Int))) + (1 : Int))), ())) fun r7 =>
 let q8 := (q5.set (x1.2.2.1).toNat (e6.1, e6.2.1, r7.2.1, e6.2.2.2.1, ()))
 .ob (idx q8 x1.2.2.1) fun e9 =>
 let q10 := (q8.set (x1.2.2.1).toNat (e9.1, e9.2.1, e9.2.2.1, r7.1.1, ()))
 .leaf (.inl (q10, (i64.wrap (r7.1.1 + (1 : Int))), (i64.wrap (x1.2.2.1 + (1 : Int))), ()))) (
 .leaf (.inr (x1.1, x1.2.1, ())))
def Lx (a0 : (List Aj) × Unit) (a1 : YI) : Tree (YI × ((List Aj) × Unit)) :=
 .ob (Ay Gg (a0.1, a1.1, (0 : Int), ())) fun o11 =>
 .leaf ((o11.2.1, ()), (o11.1, ()))
def Wq (a0 : (List Aj) × Unit) (a1 : YI) : Option (YI × ((List Aj) × Unit)) := (Lx a0 a1).val
end
end Go.Proofs.YtggdikabbngbaaaGreat

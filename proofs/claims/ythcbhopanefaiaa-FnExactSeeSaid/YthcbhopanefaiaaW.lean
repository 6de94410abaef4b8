/-
  What the functions of the seat answer, as plain terms (printed by a program, proved in the texts P); nothing is assumed.
-/
import Derived.Test.YthcbhopanefaiaaEv2
namespace Go.Proofs.Ythcbhopanefaiaa
open Go.RowKit
set_option linter.unusedVariables false
set_option maxRecDepth 100000
set_option maxHeartbeats 4000000
noncomputable section
abbrev YB : Type := Int × Unit
abbrev YI : Type := Int × Unit
abbrev YBs : Type := List YB × Unit
abbrev YerrorAddressString : Type := ByteArray × Int × Unit
abbrev YAddr : Type := Int × Int × Unit
abbrev YDice : Type := (List YB) × Int × Unit
abbrev YWin : Type := Int × (List YI) × Unit
abbrev YboundsError : Type := Int × Int × Bool × Int × Unit
abbrev YCredit : Type := Int × Int × Int × Int × Unit
abbrev YHash : Type := (List YI) × (List YB) × Int × Unit
abbrev YOp : Type := Int × Int × Int × (List YB) × Unit
abbrev YCand : Type := Int × Int × (List YB) × Int × Unit
abbrev YWire : Type := Int × Int × Int × Int × (List YB) × Unit
abbrev YEp : Type := Int × (List YB) × Int × Int × (List YI) × Unit
abbrev YPaths : Type := Int × Int × (List YCand) × Unit
abbrev YFrame : Type := Int × Int × (List YB) × (List YB) × Int × (List YB) × (List YB) × Int × Int × (List YB) × (List YB) × Unit
abbrev YChan : Type := Int × (List YB) × Int × (List YB) × Int × Int × (List YI) × Int × (List YB) × Int × Int × (List YI) × Bool × Int × (List YB) × Unit
abbrev YSess : Type := Int × (List YB) × (List YB) × Int × (List YB) × Int × (List YB) × Int × Int × (List YI) × Int × (List YB) × Int × Int × (List YI) × Bool × Int × (List YB) × Int × Int × (List YCand) × Int × Int × Bool × Unit
abbrev YTab : Type := Int × (List YSess) × Unit
abbrev YServer : Type := (List YBs) × (List YB) × (List YB) × Int × Int × (List YSess) × (List YCredit) × Unit
def T_l_szByteS (a0 : YBs) (a1 : YI) : Tree ((YI)) :=
  .br (decide ((IntKind.i64.wrap (a1.1 - (a0.1.length : Int))) < (0 : Int))) (
   .leaf ((-1 : Int), ())) (
   .leaf ((IntKind.i64.wrap (a1.1 - (a0.1.length : Int))), ()))
def V_l_szByteS (a0 : YBs) (a1 : YI) : Option ((YI)) := (T_l_szByteS a0 a1).val
def T_l_szWire (a0 : YWire) (a1 : YI) : Tree ((YI)) :=
  .ob (V_l_szByteS (a0.2.2.2.2.1, ()) a1) fun r1 =>
  .br (decide (r1.1 < (0 : Int))) (
   .leaf ((-1 : Int), ())) (
   .leaf r1)
def V_l_szWire (a0 : YWire) (a1 : YI) : Option ((YI)) := (T_l_szWire a0 a1).val
def B_l_szWireS_5 (x1 : (List YWire) × Int × Int × Unit) : Option (((List YWire) × Int × Int × Unit) ⊕ ((YI) ⊕ (YI))) :=
  Tree.val (α := ((List YWire) × Int × Int × Unit) ⊕ ((YI) ⊕ (YI))) <|
  .br (decide (x1.2.2.1 < (x1.1.length : Int))) (
   .ob (idx x1.1 x1.2.2.1) fun e2 =>
   .ob (V_l_szWire e2 (x1.2.1, ())) fun r3 =>
   .br (decide (r3.1 < (0 : Int))) (
    .leaf (.inr (.inl ((-1 : Int), ())))) (
    .leaf (.inl (x1.1, r3.1, (IntKind.i64.wrap (x1.2.2.1 + (1 : Int))), ())))) (
   .leaf (.inr (.inr (x1.2.1, ()))))
def T_l_szWireS (a0 : (List YWire) × Unit) (a1 : YI) : Tree ((YI)) :=
  .br (decide ((IntKind.i64.wrap (a1.1 - (a0.1.length : Int))) < (0 : Int))) (
   .leaf ((-1 : Int), ())) (
   .ob (iterO B_l_szWireS_5 (a0.1, (IntKind.i64.wrap (a1.1 - (a0.1.length : Int))), (0 : Int), ())) fun o4 =>
   .sm o4 (fun o5 =>
    .leaf (o5.1, ())) (fun o6 =>
    .leaf (o6.1, ())))
def V_l_szWireS (a0 : (List YWire) × Unit) (a1 : YI) : Option ((YI)) := (T_l_szWireS a0 a1).val
def T_l_toAddr (a0 : YAddr) : Tree ((YAddr)) :=
  .leaf a0
def V_l_toAddr (a0 : YAddr) : Option ((YAddr)) := (T_l_toAddr a0).val
def B_l_toByteS_3 (x1 : (List YB) × (List YB) × Int × Unit) : Option (((List YB) × (List YB) × Int × Unit) ⊕ ((YBs))) :=
  Tree.val (α := ((List YB) × (List YB) × Int × Unit) ⊕ ((YBs))) <|
  .br (decide (x1.2.2.1 < (x1.1.length : Int))) (
   .ob (idx x1.1 x1.2.2.1) fun e2 =>
   .ob (idx x1.2.1 x1.2.2.1) fun e3 =>
   let q4 := (x1.2.1.set (x1.2.2.1).toNat e2)
   .leaf (.inl (x1.1, q4, (IntKind.i64.wrap (x1.2.2.1 + (1 : Int))), ()))) (
   .leaf (.inr (x1.2.1, ())))
def T_l_toByteS (a0 : YBs) : Tree ((YBs)) :=
  .chk (decide ((0 : Int) ≤ (a0.1.length : Int))) <|
  .chk (decide ((a0.1.length : Int) ≤ (4294967296 : Int))) <|
  .chk (decide ((a0.1.length : Int) = (a0.1.length : Int))) <|
  .ob (iterO B_l_toByteS_3 (a0.1, (List.replicate ((a0.1.length : Int)).toNat ((0 : Int), ())), (0 : Int), ())) fun o5 =>
  .leaf (o5.1, ())
def V_l_toByteS (a0 : YBs) : Option ((YBs)) := (T_l_toByteS a0).val
def T_l_toWire (a0 : YWire) : Tree ((YWire)) :=
  .ob (V_l_toAddr (a0.1, a0.2.1, ())) fun r1 =>
  .ob (V_l_toAddr (a0.2.2.1, a0.2.2.2.1, ())) fun r2 =>
  .ob (V_l_toByteS (a0.2.2.2.2.1, ())) fun r3 =>
  .leaf (r1.1, r1.2.1, r2.1, r2.2.1, r3.1, ())
def V_l_toWire (a0 : YWire) : Option ((YWire)) := (T_l_toWire a0).val
def B_l_toWireS_3 (x1 : (List YWire) × (List YWire) × Int × Unit) : Option (((List YWire) × (List YWire) × Int × Unit) ⊕ (((List YWire) × Unit))) :=
  Tree.val (α := ((List YWire) × (List YWire) × Int × Unit) ⊕ (((List YWire) × Unit))) <|
  .br (decide (x1.2.2.1 < (x1.1.length : Int))) (
   .ob (idx x1.1 x1.2.2.1) fun e2 =>
   .ob (V_l_toWire e2) fun r3 =>
   .ob (idx x1.2.1 x1.2.2.1) fun e4 =>
   let q5 := (x1.2.1.set (x1.2.2.1).toNat r3)
   .leaf (.inl (x1.1, q5, (IntKind.i64.wrap (x1.2.2.1 + (1 : Int))), ()))) (
   .leaf (.inr (x1.2.1, ())))
def T_l_toWireS (a0 : (List YWire) × Unit) : Tree (((List YWire) × Unit)) :=
  .chk (decide ((0 : Int) ≤ (a0.1.length : Int))) <|
  .chk (decide ((a0.1.length : Int) ≤ (4294967296 : Int))) <|
  .chk (decide ((a0.1.length : Int) = (a0.1.length : Int))) <|
  .ob (iterO B_l_toWireS_3 (a0.1, (List.replicate ((a0.1.length : Int)).toNat ((0 : Int), (0 : Int), (0 : Int), (0 : Int), ([] : List (Int × Unit)), ())), (0 : Int), ())) fun o6 =>
  .leaf (o6.1, ())
def V_l_toWireS (a0 : (List YWire) × Unit) : Option (((List YWire) × Unit)) := (T_l_toWireS a0).val
def B_s_l23Copy_3 (x1 : (List YWire) × (List YWire) × Int × Unit) : Option (((List YWire) × (List YWire) × Int × Unit) ⊕ (((List YWire) × Unit))) :=
  Tree.val (α := ((List YWire) × (List YWire) × Int × Unit) ⊕ (((List YWire) × Unit))) <|
  .br (decide (x1.2.2.1 < (x1.1.length : Int))) (
   .ob (idx x1.1 x1.2.2.1) fun e2 =>
   .ob (idx x1.1 x1.2.2.1) fun e3 =>
   .ob (idx x1.1 x1.2.2.1) fun e4 =>
   .chk (decide (([] : List (Int × Unit)).length + e4.2.2.2.2.1.length ≤ 4294967296)) <|
   .chk (decide (x1.2.1.length + [(e2.1, e2.2.1, e3.2.2.1, e3.2.2.2.1, (([] : List (Int × Unit)) ++ e4.2.2.2.2.1), ())].length ≤ 4294967296)) <|
   .leaf (.inl (x1.1, (x1.2.1 ++ [(e2.1, e2.2.1, e3.2.2.1, e3.2.2.2.1, (([] : List (Int × Unit)) ++ e4.2.2.2.2.1), ())]), (IntKind.i64.wrap (x1.2.2.1 + (1 : Int))), ()))) (
   .leaf (.inr (x1.2.1, ())))
def T_s_l23Copy (a0 : (List YWire) × Unit) : Tree (((List YWire) × Unit)) :=
  .ob (iterO B_s_l23Copy_3 (a0.1, ([] : List (Int × Int × Int × Int × (List (Int × Unit)) × Unit)), (0 : Int), ())) fun o5 =>
  .leaf (o5.1, ())
def V_s_l23Copy (a0 : (List YWire) × Unit) : Option (((List YWire) × Unit)) := (T_s_l23Copy a0).val
def T_s_l1In (a0 : YI) (a1 : YI) (a2 : YI) : Tree ((Bool × Unit)) :=
  .br (decide (a0.1 ≥ a1.1)) (
   .leaf ((decide (a0.1 ≤ a2.1)), ())) (
   .leaf (false, ()))
def V_s_l1In (a0 : YI) (a1 : YI) (a2 : YI) : Option ((Bool × Unit)) := (T_s_l1In a0 a1 a2).val
def T_s_AddrOk (a0 : YAddr) : Tree ((Bool × Unit)) :=
  .ob (V_s_l1In (a0.1, ()) ((0 : Int), ()) ((4294967295 : Int), ())) fun r1 =>
  .br r1.1 (
   .ob (V_s_l1In (a0.2.1, ()) ((0 : Int), ()) ((65535 : Int), ())) fun r2 =>
   .leaf (r2.1, ())) (
   .leaf (false, ()))
def V_s_AddrOk (a0 : YAddr) : Option ((Bool × Unit)) := (T_s_AddrOk a0).val
def T_s_WireOk (a0 : YWire) : Tree ((Bool × Unit)) :=
  .ob (V_s_AddrOk (a0.1, a0.2.1, ())) fun r1 =>
  .br r1.1 (
   .ob (V_s_AddrOk (a0.2.2.1, a0.2.2.2.1, ())) fun r2 =>
   .br r2.1 (
    .leaf ((decide ((a0.2.2.2.2.1.length : Int) ≤ (200 : Int))), ())) (
    .leaf (false, ()))) (
   .leaf (false, ()))
def V_s_WireOk (a0 : YWire) : Option ((Bool × Unit)) := (T_s_WireOk a0).val
def B_s_WiresOk_2 (x1 : (List YWire) × Int × Unit) : Option (((List YWire) × Int × Unit) ⊕ ((Bool × Unit) ⊕ ((List YWire) × Unit))) :=
  Tree.val (α := ((List YWire) × Int × Unit) ⊕ ((Bool × Unit) ⊕ ((List YWire) × Unit))) <|
  .br (decide (x1.2.1 < (x1.1.length : Int))) (
   .ob (idx x1.1 x1.2.1) fun e2 =>
   .ob (V_s_WireOk e2) fun r3 =>
   .br (!r3.1) (
    .leaf (.inr (.inl (false, ())))) (
    .leaf (.inl (x1.1, (IntKind.i64.wrap (x1.2.1 + (1 : Int))), ())))) (
   .leaf (.inr (.inr (x1.1, ()))))
def T_s_WiresOk (a0 : (List YWire) × Unit) : Tree ((Bool × Unit)) :=
  .ob (iterO B_s_WiresOk_2 (a0.1, (0 : Int), ())) fun o4 =>
  .sm o4 (fun o5 =>
   .leaf (o5.1, ())) (fun o6 =>
   .leaf ((decide ((o6.1.length : Int) ≤ (90 : Int))), ()))
def V_s_WiresOk (a0 : (List YWire) × Unit) : Option ((Bool × Unit)) := (T_s_WiresOk a0).val
def T_s_See (a0 : (List YWire) × Unit) (a1 : YWire) : Tree (((List YWire) × Unit)) :=
  .ob (V_s_l23Copy a0) fun r1 =>
  .ob (V_s_WiresOk a0) fun r2 =>
  .br (!r2.1) (
   .leaf r1) (
   .ob (V_s_WireOk a1) fun r3 =>
   .br (!r3.1) (
    .leaf r1) (
    .br ((a0.1.length : Int) == (90 : Int)) (
     .leaf r1) (
     .chk (decide (([] : List (Int × Unit)).length + a1.2.2.2.2.1.length ≤ 4294967296)) <|
     .chk (decide (r1.1.length + [(a1.1, a1.2.1, a1.2.2.1, a1.2.2.2.1, (([] : List (Int × Unit)) ++ a1.2.2.2.2.1), ())].length ≤ 4294967296)) <|
     .leaf ((r1.1 ++ [(a1.1, a1.2.1, a1.2.2.1, a1.2.2.2.1, (([] : List (Int × Unit)) ++ a1.2.2.2.2.1), ())]), ()))))
def V_s_See (a0 : (List YWire) × Unit) (a1 : YWire) : Option (((List YWire) × Unit)) := (T_s_See a0 a1).val
def T_i_clone (a0 : YBs) : Tree ((YBs)) :=
  .chk (decide (([] : List (Int × Unit)).length + a0.1.length ≤ 4294967296)) <|
  .leaf ((([] : List (Int × Unit)) ++ a0.1), ())
def V_i_clone (a0 : YBs) : Option ((YBs)) := (T_i_clone a0).val
def B_i_copyWires_3 (x1 : (List YWire) × (List YWire) × Int × Int × Unit) : Option (((List YWire) × (List YWire) × Int × Int × Unit) ⊕ (((List YWire) × Unit))) :=
  Tree.val (α := ((List YWire) × (List YWire) × Int × Int × Unit) ⊕ (((List YWire) × Unit))) <|
  .br (decide (x1.2.2.2.1 < x1.2.2.1)) (
   .ob (idx x1.2.1 x1.2.2.2.1) fun e2 =>
   .ob (V_i_clone (e2.2.2.2.2.1, ())) fun r3 =>
   .chk (decide (x1.1.length + [(e2.1, e2.2.1, e2.2.2.1, e2.2.2.2.1, r3.1, ())].length ≤ 4294967296)) <|
   .leaf (.inl ((x1.1 ++ [(e2.1, e2.2.1, e2.2.2.1, e2.2.2.2.1, r3.1, ())]), x1.2.1, x1.2.2.1, (IntKind.i64.wrap (x1.2.2.2.1 + (1 : Int))), ()))) (
   .leaf (.inr (x1.1, ())))
def T_i_copyWires (a0 : (List YWire) × Unit) : Tree (((List YWire) × Unit)) :=
  .ob (iterO B_i_copyWires_3 (([] : List (Int × Int × Int × Int × (List (Int × Unit)) × Unit)), a0.1, (a0.1.length : Int), (0 : Int), ())) fun o4 =>
  .leaf (o4.1, ())
def V_i_copyWires (a0 : (List YWire) × Unit) : Option (((List YWire) × Unit)) := (T_i_copyWires a0).val
def T_i_within (a0 : YI) (a1 : YI) (a2 : YI) : Tree ((Bool × Unit)) :=
  .br (decide (a0.1 ≥ a1.1)) (
   .leaf ((decide (a0.1 ≤ a2.1)), ())) (
   .leaf (false, ()))
def V_i_within (a0 : YI) (a1 : YI) (a2 : YI) : Option ((Bool × Unit)) := (T_i_within a0 a1 a2).val
def T_i_AddrOk (a0 : YAddr) : Tree ((Bool × Unit)) :=
  .ob (V_i_within (a0.1, ()) ((0 : Int), ()) ((4294967295 : Int), ())) fun r1 =>
  .br r1.1 (
   .ob (V_i_within (a0.2.1, ()) ((0 : Int), ()) ((65535 : Int), ())) fun r2 =>
   .leaf (r2.1, ())) (
   .leaf (false, ()))
def V_i_AddrOk (a0 : YAddr) : Option ((Bool × Unit)) := (T_i_AddrOk a0).val
def T_i_WireOk (a0 : YWire) : Tree ((Bool × Unit)) :=
  .ob (V_i_AddrOk (a0.1, a0.2.1, ())) fun r1 =>
  .br r1.1 (
   .ob (V_i_AddrOk (a0.2.2.1, a0.2.2.2.1, ())) fun r2 =>
   .br r2.1 (
    .leaf ((decide ((a0.2.2.2.2.1.length : Int) ≤ (200 : Int))), ())) (
    .leaf (false, ()))) (
   .leaf (false, ()))
def V_i_WireOk (a0 : YWire) : Option ((Bool × Unit)) := (T_i_WireOk a0).val
def B_i_WiresOk_2 (x1 : (List YWire) × (List YWire) × Int × Int × Unit) : Option (((List YWire) × (List YWire) × Int × Int × Unit) ⊕ ((Bool × Unit) ⊕ ((List YWire) × Unit))) :=
  Tree.val (α := ((List YWire) × (List YWire) × Int × Int × Unit) ⊕ ((Bool × Unit) ⊕ ((List YWire) × Unit))) <|
  .br (decide (x1.2.2.2.1 < x1.2.2.1)) (
   .ob (idx x1.2.1 x1.2.2.2.1) fun e2 =>
   .ob (V_i_WireOk e2) fun r3 =>
   .br (!r3.1) (
    .leaf (.inr (.inl (false, ())))) (
    .leaf (.inl (x1.1, x1.2.1, x1.2.2.1, (IntKind.i64.wrap (x1.2.2.2.1 + (1 : Int))), ())))) (
   .leaf (.inr (.inr (x1.1, ()))))
def T_i_WiresOk (a0 : (List YWire) × Unit) : Tree ((Bool × Unit)) :=
  .ob (iterO B_i_WiresOk_2 (a0.1, a0.1, (a0.1.length : Int), (0 : Int), ())) fun o4 =>
  .sm o4 (fun o5 =>
   .leaf (o5.1, ())) (fun o6 =>
   .leaf ((decide ((o6.1.length : Int) ≤ (90 : Int))), ()))
def V_i_WiresOk (a0 : (List YWire) × Unit) : Option ((Bool × Unit)) := (T_i_WiresOk a0).val
def T_i_See (a0 : (List YWire) × Unit) (a1 : YWire) : Tree (((List YWire) × Unit)) :=
  .chk (decide (([] : List (Int × Int × Int × Int × (List (Int × Unit)) × Unit)).length + a0.1.length ≤ 4294967296)) <|
  .chk (decide ((([] : List (Int × Int × Int × Int × (List (Int × Unit)) × Unit)) ++ a0.1).length + [a1].length ≤ 4294967296)) <|
  .ob (V_i_copyWires (((([] : List (Int × Int × Int × Int × (List (Int × Unit)) × Unit)) ++ a0.1) ++ [a1]), ())) fun r1 =>
  .ob (V_i_WiresOk r1) fun r2 =>
  .br (!r2.1) (
   .ob (V_i_copyWires a0) fun r3 =>
   .leaf (r3.1, ())) (
   .leaf r1)
def V_i_See (a0 : (List YWire) × Unit) (a1 : YWire) : Option (((List YWire) × Unit)) := (T_i_See a0 a1).val
def T_l_eqAddr (a0 : YAddr) (a1 : YAddr) : Tree ((Bool × Unit)) :=
  .br (a0.1 != a1.1) (
   .leaf (false, ())) (
   .br (a0.2.1 != a1.2.1) (
    .leaf (false, ())) (
    .leaf (true, ())))
def V_l_eqAddr (a0 : YAddr) (a1 : YAddr) : Option ((Bool × Unit)) := (T_l_eqAddr a0 a1).val
def B_l_eqByteS_4 (x1 : (List YB) × (List YB) × Int × Unit) : Option (((List YB) × (List YB) × Int × Unit) ⊕ ((Bool × Unit) ⊕ (Unit))) :=
  Tree.val (α := ((List YB) × (List YB) × Int × Unit) ⊕ ((Bool × Unit) ⊕ (Unit))) <|
  .br (decide (x1.2.2.1 < (x1.1.length : Int))) (
   .ob (idx x1.1 x1.2.2.1) fun e2 =>
   .ob (idx x1.2.1 x1.2.2.1) fun e3 =>
   .br (e2.1 != e3.1) (
    .leaf (.inr (.inl (false, ())))) (
    .leaf (.inl (x1.1, x1.2.1, (IntKind.i64.wrap (x1.2.2.1 + (1 : Int))), ())))) (
   .leaf (.inr (.inr ())))
def T_l_eqByteS (a0 : YBs) (a1 : YBs) : Tree ((Bool × Unit)) :=
  .br ((a0.1.length : Int) != (a1.1.length : Int)) (
   .leaf (false, ())) (
   .ob (iterO B_l_eqByteS_4 (a0.1, a1.1, (0 : Int), ())) fun o4 =>
   .sm o4 (fun o5 =>
    .leaf (o5.1, ())) (fun o6 =>
    .leaf (true, ())))
def V_l_eqByteS (a0 : YBs) (a1 : YBs) : Option ((Bool × Unit)) := (T_l_eqByteS a0 a1).val
def T_l_eqWire (a0 : YWire) (a1 : YWire) : Tree ((Bool × Unit)) :=
  .ob (V_l_eqAddr (a0.1, a0.2.1, ()) (a1.1, a1.2.1, ())) fun r1 =>
  .br (!r1.1) (
   .leaf (false, ())) (
   .ob (V_l_eqAddr (a0.2.2.1, a0.2.2.2.1, ()) (a1.2.2.1, a1.2.2.2.1, ())) fun r2 =>
   .br (!r2.1) (
    .leaf (false, ())) (
    .ob (V_l_eqByteS (a0.2.2.2.2.1, ()) (a1.2.2.2.2.1, ())) fun r3 =>
    .br (!r3.1) (
     .leaf (false, ())) (
     .leaf (true, ()))))
def V_l_eqWire (a0 : YWire) (a1 : YWire) : Option ((Bool × Unit)) := (T_l_eqWire a0 a1).val
def B_l_eqWireS_4 (x1 : (List YWire) × (List YWire) × Int × Unit) : Option (((List YWire) × (List YWire) × Int × Unit) ⊕ ((Bool × Unit) ⊕ (Unit))) :=
  Tree.val (α := ((List YWire) × (List YWire) × Int × Unit) ⊕ ((Bool × Unit) ⊕ (Unit))) <|
  .br (decide (x1.2.2.1 < (x1.1.length : Int))) (
   .ob (idx x1.1 x1.2.2.1) fun e2 =>
   .ob (idx x1.2.1 x1.2.2.1) fun e3 =>
   .ob (V_l_eqWire e2 e3) fun r4 =>
   .br (!r4.1) (
    .leaf (.inr (.inl (false, ())))) (
    .leaf (.inl (x1.1, x1.2.1, (IntKind.i64.wrap (x1.2.2.1 + (1 : Int))), ())))) (
   .leaf (.inr (.inr ())))
def T_l_eqWireS (a0 : (List YWire) × Unit) (a1 : (List YWire) × Unit) : Tree ((Bool × Unit)) :=
  .br ((a0.1.length : Int) != (a1.1.length : Int)) (
   .leaf (false, ())) (
   .ob (iterO B_l_eqWireS_4 (a0.1, a1.1, (0 : Int), ())) fun o5 =>
   .sm o5 (fun o6 =>
    .leaf (o6.1, ())) (fun o7 =>
    .leaf (true, ())))
def V_l_eqWireS (a0 : (List YWire) × Unit) (a1 : (List YWire) × Unit) : Option ((Bool × Unit)) := (T_l_eqWireS a0 a1).val
def B_l_markByteS_2 (x1 : (List YB) × Int × Int × Unit) : Option (((List YB) × Int × Int × Unit) ⊕ ((YDice))) :=
  Tree.val (α := ((List YB) × Int × Int × Unit) ⊕ ((YDice))) <|
  .br (decide (x1.2.2.1 < (x1.1.length : Int))) (
   .ob (idx x1.1 x1.2.2.1) fun e2 =>
   let q3 := (x1.1.set (x1.2.2.1).toNat ((IntKind.u8.wrap (x1.2.1)), ()))
   .leaf (.inl (q3, (IntKind.i64.wrap (x1.2.1 + (1 : Int))), (IntKind.i64.wrap (x1.2.2.1 + (1 : Int))), ()))) (
   .leaf (.inr (x1.1, x1.2.1, ())))
def T_l_markByteS (a0 : YBs) (a1 : YI) : Tree ((YI) × (YBs)) :=
  .ob (iterO B_l_markByteS_2 (a0.1, a1.1, (0 : Int), ())) fun o4 =>
  .leaf ((o4.2.1, ()), (o4.1, ()))
def V_l_markByteS (a0 : YBs) (a1 : YI) : Option ((YI) × (YBs)) := (T_l_markByteS a0 a1).val
def B_l_markWireS_2 (x1 : (List YWire) × Int × Int × Unit) : Option (((List YWire) × Int × Int × Unit) ⊕ (((List YWire) × Int × Unit))) :=
  Tree.val (α := ((List YWire) × Int × Int × Unit) ⊕ (((List YWire) × Int × Unit))) <|
  .br (decide (x1.2.2.1 < (x1.1.length : Int))) (
   .ob (idx x1.1 x1.2.2.1) fun e2 =>
   let q3 := (x1.1.set (x1.2.2.1).toNat (x1.2.1, e2.2.1, e2.2.2.1, e2.2.2.2.1, e2.2.2.2.2.1, ()))
   .ob (idx q3 x1.2.2.1) fun e4 =>
   let q5 := (q3.set (x1.2.2.1).toNat (e4.1, (IntKind.i64.wrap (x1.2.1 + (1 : Int))), e4.2.2.1, e4.2.2.2.1, e4.2.2.2.2.1, ()))
   .ob (idx q5 x1.2.2.1) fun e6 =>
   let q7 := (q5.set (x1.2.2.1).toNat (e6.1, e6.2.1, (IntKind.i64.wrap ((IntKind.i64.wrap (x1.2.1 + (1 : Int))) + (1 : Int))), e6.2.2.2.1, e6.2.2.2.2.1, ()))
   .ob (idx q7 x1.2.2.1) fun e8 =>
   let q9 := (q7.set (x1.2.2.1).toNat (e8.1, e8.2.1, e8.2.2.1, (IntKind.i64.wrap ((IntKind.i64.wrap ((IntKind.i64.wrap (x1.2.1 + (1 : Int))) + (1 : Int))) + (1 : Int))), e8.2.2.2.2.1, ()))
   .ob (idx q9 x1.2.2.1) fun e10 =>
   .ob (V_l_markByteS (e10.2.2.2.2.1, ()) ((IntKind.i64.wrap ((IntKind.i64.wrap ((IntKind.i64.wrap ((IntKind.i64.wrap (x1.2.1 + (1 : Int))) + (1 : Int))) + (1 : Int))) + (1 : Int))), ())) fun r11 =>
   let q12 := (q9.set (x1.2.2.1).toNat (e10.1, e10.2.1, e10.2.2.1, e10.2.2.2.1, r11.2.1, ()))
   .leaf (.inl (q12, r11.1.1, (IntKind.i64.wrap (x1.2.2.1 + (1 : Int))), ()))) (
   .leaf (.inr (x1.1, x1.2.1, ())))
def T_l_markWireS (a0 : (List YWire) × Unit) (a1 : YI) : Tree ((YI) × ((List YWire) × Unit)) :=
  .ob (iterO B_l_markWireS_2 (a0.1, a1.1, (0 : Int), ())) fun o13 =>
  .leaf ((o13.2.1, ()), (o13.1, ()))
def V_l_markWireS (a0 : (List YWire) × Unit) (a1 : YI) : Option ((YI) × ((List YWire) × Unit)) := (T_l_markWireS a0 a1).val
def T_l_markWire (a0 : YWire) (a1 : YI) : Tree ((YI) × (YWire)) :=
  .ob (V_l_markByteS (a0.2.2.2.2.1, ()) a1) fun r1 =>
  .leaf ((r1.1.1, ()), (a0.1, a0.2.1, a0.2.2.1, a0.2.2.2.1, r1.2.1, ()))
def V_l_markWire (a0 : YWire) (a1 : YI) : Option ((YI) × (YWire)) := (T_l_markWire a0 a1).val
def B_l_heldByteS_2 (x1 : (List YB) × Int × Int × Unit) : Option (((List YB) × Int × Int × Unit) ⊕ ((YI) ⊕ (YI))) :=
  Tree.val (α := ((List YB) × Int × Int × Unit) ⊕ ((YI) ⊕ (YI))) <|
  .br (decide (x1.2.2.1 < (x1.1.length : Int))) (
   .ob (idx x1.1 x1.2.2.1) fun e2 =>
   .br (e2.1 != (IntKind.u8.wrap (x1.2.1))) (
    .leaf (.inr (.inl ((-1 : Int), ())))) (
    .leaf (.inl (x1.1, (IntKind.i64.wrap (x1.2.1 + (1 : Int))), (IntKind.i64.wrap (x1.2.2.1 + (1 : Int))), ())))) (
   .leaf (.inr (.inr (x1.2.1, ()))))
def T_l_heldByteS (a0 : YBs) (a1 : YI) : Tree ((YI)) :=
  .ob (iterO B_l_heldByteS_2 (a0.1, a1.1, (0 : Int), ())) fun o3 =>
  .sm o3 (fun o4 =>
   .leaf (o4.1, ())) (fun o5 =>
   .leaf (o5.1, ()))
def V_l_heldByteS (a0 : YBs) (a1 : YI) : Option ((YI)) := (T_l_heldByteS a0 a1).val
def B_l_heldWireS_2 (x1 : (List YWire) × Int × Int × Unit) : Option (((List YWire) × Int × Int × Unit) ⊕ ((YI) ⊕ (YI))) :=
  Tree.val (α := ((List YWire) × Int × Int × Unit) ⊕ ((YI) ⊕ (YI))) <|
  .br (decide (x1.2.2.1 < (x1.1.length : Int))) (
   .ob (idx x1.1 x1.2.2.1) fun e2 =>
   .br (e2.1 != x1.2.1) (
    .leaf (.inr (.inl ((-1 : Int), ())))) (
    .ob (idx x1.1 x1.2.2.1) fun e3 =>
    .br (e3.2.1 != (IntKind.i64.wrap (x1.2.1 + (1 : Int)))) (
     .leaf (.inr (.inl ((-1 : Int), ())))) (
     .ob (idx x1.1 x1.2.2.1) fun e4 =>
     .br (e4.2.2.1 != (IntKind.i64.wrap ((IntKind.i64.wrap (x1.2.1 + (1 : Int))) + (1 : Int)))) (
      .leaf (.inr (.inl ((-1 : Int), ())))) (
      .ob (idx x1.1 x1.2.2.1) fun e5 =>
      .br (e5.2.2.2.1 != (IntKind.i64.wrap ((IntKind.i64.wrap ((IntKind.i64.wrap (x1.2.1 + (1 : Int))) + (1 : Int))) + (1 : Int)))) (
       .leaf (.inr (.inl ((-1 : Int), ())))) (
       .ob (idx x1.1 x1.2.2.1) fun e6 =>
       .ob (V_l_heldByteS (e6.2.2.2.2.1, ()) ((IntKind.i64.wrap ((IntKind.i64.wrap ((IntKind.i64.wrap ((IntKind.i64.wrap (x1.2.1 + (1 : Int))) + (1 : Int))) + (1 : Int))) + (1 : Int))), ())) fun r7 =>
       .br (decide (r7.1 < (0 : Int))) (
        .leaf (.inr (.inl ((-1 : Int), ())))) (
        .leaf (.inl (x1.1, r7.1, (IntKind.i64.wrap (x1.2.2.1 + (1 : Int))), ())))))))) (
   .leaf (.inr (.inr (x1.2.1, ()))))
def T_l_heldWireS (a0 : (List YWire) × Unit) (a1 : YI) : Tree ((YI)) :=
  .ob (iterO B_l_heldWireS_2 (a0.1, a1.1, (0 : Int), ())) fun o8 =>
  .sm o8 (fun o9 =>
   .leaf (o9.1, ())) (fun o10 =>
   .leaf (o10.1, ()))
def V_l_heldWireS (a0 : (List YWire) × Unit) (a1 : YI) : Option ((YI)) := (T_l_heldWireS a0 a1).val
def T_l_FnExactSee (a0 : (List YWire) × Unit) (a1 : YWire) : Tree ((Bool × Unit)) :=
  .ob (V_l_szWireS a0 ((1048576 : Int), ())) fun r1 =>
  .br (decide (r1.1 < (0 : Int))) (
   .leaf (true, ())) (
   .ob (V_l_szWire a1 r1) fun r2 =>
   .br (decide (r2.1 < (0 : Int))) (
    .leaf (true, ())) (
    .ob (V_l_toWireS a0) fun r3 =>
    .ob (V_l_toWire a1) fun r4 =>
    .ob (V_s_See r3 r4) fun r5 =>
    .ob (V_l_toWireS a0) fun r6 =>
    .ob (V_l_toWire a1) fun r7 =>
    .ob (V_i_See r6 r7) fun r8 =>
    .ob (V_l_eqWireS r8 r5) fun r9 =>
    .br (!r9.1) (
     .leaf (false, ())) (
     .ob (V_l_toWireS a0) fun r10 =>
     .ob (V_l_eqWireS r6 r10) fun r11 =>
     .br (!r11.1) (
      .leaf (false, ())) (
      .ob (V_l_toWire a1) fun r12 =>
      .ob (V_l_eqWire r7 r12) fun r13 =>
      .br (!r13.1) (
       .leaf (false, ())) (
       .ob (V_l_markWireS r6 ((1 : Int), ())) fun r14 =>
       .ob (V_l_markWire r7 r14.1) fun r15 =>
       .br (decide (r15.1.1 < (0 : Int))) (
        .leaf (false, ())) (
        .ob (V_l_eqWireS r8 r5) fun r16 =>
        .br (!r16.1) (
         .leaf (false, ())) (
         .ob (V_l_markWireS r8 ((1 : Int), ())) fun r17 =>
         .ob (V_l_heldWireS r17.2 ((1 : Int), ())) fun r18 =>
         .br (decide (r18.1 < (0 : Int))) (
          .leaf (false, ())) (
          .br (r18.1 != r17.1.1) (
           .leaf (false, ())) (
           .ob (V_l_toWireS a0) fun r19 =>
           .ob (V_l_toWire a1) fun r20 =>
           .ob (V_i_See r19 r20) fun r21 =>
           .ob (V_l_eqWireS r21 r5) fun r22 =>
           .br (!r22.1) (
            .leaf (false, ())) (
            .ob (V_l_heldWireS r17.2 ((1 : Int), ())) fun r23 =>
            .br (decide (r23.1 < (0 : Int))) (
             .leaf (false, ())) (
             .br (r23.1 != r17.1.1) (
              .leaf (false, ())) (
              .leaf (true, ())))))))))))))
def V_l_FnExactSee (a0 : (List YWire) × Unit) (a1 : YWire) : Option ((Bool × Unit)) := (T_l_FnExactSee a0 a1).val
def T_l_szFrame (a0 : YFrame) (a1 : YI) : Tree ((YI)) :=
  .ob (V_l_szByteS (a0.2.2.1, ()) a1) fun r1 =>
  .br (decide (r1.1 < (0 : Int))) (
   .leaf ((-1 : Int), ())) (
   .ob (V_l_szByteS (a0.2.2.2.1, ()) r1) fun r2 =>
   .br (decide (r2.1 < (0 : Int))) (
    .leaf ((-1 : Int), ())) (
    .ob (V_l_szByteS (a0.2.2.2.2.2.1, ()) r2) fun r3 =>
    .br (decide (r3.1 < (0 : Int))) (
     .leaf ((-1 : Int), ())) (
     .ob (V_l_szByteS (a0.2.2.2.2.2.2.1, ()) r3) fun r4 =>
     .br (decide (r4.1 < (0 : Int))) (
      .leaf ((-1 : Int), ())) (
      .ob (V_l_szByteS (a0.2.2.2.2.2.2.2.2.2.1, ()) r4) fun r5 =>
      .br (decide (r5.1 < (0 : Int))) (
       .leaf ((-1 : Int), ())) (
       .ob (V_l_szByteS (a0.2.2.2.2.2.2.2.2.2.2.1, ()) r5) fun r6 =>
       .br (decide (r6.1 < (0 : Int))) (
        .leaf ((-1 : Int), ())) (
        .leaf (r6.1, ())))))))
def V_l_szFrame (a0 : YFrame) (a1 : YI) : Option ((YI)) := (T_l_szFrame a0 a1).val
def T_l_toFrame (a0 : YFrame) : Tree ((YFrame)) :=
  .ob (V_l_toByteS (a0.2.2.1, ())) fun r1 =>
  .ob (V_l_toByteS (a0.2.2.2.1, ())) fun r2 =>
  .ob (V_l_toByteS (a0.2.2.2.2.2.1, ())) fun r3 =>
  .ob (V_l_toByteS (a0.2.2.2.2.2.2.1, ())) fun r4 =>
  .ob (V_l_toByteS (a0.2.2.2.2.2.2.2.2.2.1, ())) fun r5 =>
  .ob (V_l_toByteS (a0.2.2.2.2.2.2.2.2.2.2.1, ())) fun r6 =>
  .leaf (a0.1, a0.2.1, r1.1, r2.1, a0.2.2.2.2.1, r3.1, r4.1, a0.2.2.2.2.2.2.2.1, a0.2.2.2.2.2.2.2.2.1, r5.1, r6.1, ())
def V_l_toFrame (a0 : YFrame) : Option ((YFrame)) := (T_l_toFrame a0).val
def T_s_Sealed (a0 : YI) : Tree ((Bool × Unit)) :=
  .ob (V_s_l1In a0 ((4 : Int), ()) ((8 : Int), ())) fun r1 =>
  .leaf r1
def V_s_Sealed (a0 : YI) : Option ((Bool × Unit)) := (T_s_Sealed a0).val
def T_s_l7Body (a0 : YI) (a1 : YI) : Tree ((Bool × Unit)) :=
  .br (a0.1 == (4 : Int)) (
   .leaf ((decide (a1.1 ≤ (40 : Int))), ())) (
   .br (a0.1 == (5 : Int)) (
    .leaf ((a1.1 == (12 : Int)), ())) (
    .br (a0.1 == (6 : Int)) (
     .leaf ((a1.1 == (12 : Int)), ())) (
     .leaf ((a1.1 == (4 : Int)), ()))))
def V_s_l7Body (a0 : YI) (a1 : YI) : Option ((Bool × Unit)) := (T_s_l7Body a0 a1).val
def T_s_FrameOk (a0 : YFrame) : Tree ((Bool × Unit)) :=
  .ob (V_s_Sealed (a0.1, ())) fun r1 =>
  .br r1.1 (
   .br (a0.2.1 == (0 : Int)) (
    .br ((a0.2.2.1.length : Int) == (0 : Int)) (
     .br ((a0.2.2.2.1.length : Int) == (12 : Int)) (
      .br (a0.2.2.2.2.1 == (0 : Int)) (
       .br ((a0.2.2.2.2.2.1.length : Int) == (0 : Int)) (
        .br ((a0.2.2.2.2.2.2.1.length : Int) == (0 : Int)) (
         .ob (V_s_l1In (a0.2.2.2.2.2.2.2.1, ()) ((0 : Int), ()) ((4294967295 : Int), ())) fun r2 =>
         .br r2.1 (
          .ob (V_s_l1In (a0.2.2.2.2.2.2.2.2.1, ()) ((0 : Int), ()) ((281474976710655 : Int), ())) fun r3 =>
          .br r3.1 (
           .ob (V_s_l7Body (a0.1, ()) ((a0.2.2.2.2.2.2.2.2.2.1.length : Int), ())) fun r4 =>
           .br r4.1 (
            .leaf (((a0.2.2.2.2.2.2.2.2.2.2.1.length : Int) == (16 : Int)), ())) (
            .leaf (false, ()))) (
           .leaf (false, ()))) (
          .leaf (false, ()))) (
         .leaf (false, ()))) (
        .leaf (false, ()))) (
       .leaf (false, ()))) (
      .leaf (false, ()))) (
     .leaf (false, ()))) (
    .leaf (false, ()))) (
   .br (a0.2.2.2.2.2.2.2.1 != (0 : Int)) (
    .leaf (false, ())) (
    .br (a0.2.2.2.2.2.2.2.2.1 != (0 : Int)) (
     .leaf (false, ())) (
     .br ((a0.2.2.2.2.2.2.2.2.2.1.length : Int) != (0 : Int)) (
      .leaf (false, ())) (
      .br ((a0.2.2.2.2.2.2.2.2.2.2.1.length : Int) != (0 : Int)) (
       .leaf (false, ())) (
       .br ((a0.2.2.1.length : Int) != (12 : Int)) (
        .leaf (false, ())) (
        .br (a0.1 == (1 : Int)) (
         .ob (V_s_l1In (a0.2.1, ()) ((1 : Int), ()) ((9 : Int), ())) fun r5 =>
         .br r5.1 (
          .br ((a0.2.2.2.1.length : Int) == (0 : Int)) (
           .br (a0.2.2.2.2.1 == (0 : Int)) (
            .br ((a0.2.2.2.2.2.1.length : Int) == (0 : Int)) (
             .leaf (((a0.2.2.2.2.2.2.1.length : Int) == (0 : Int)), ())) (
             .leaf (false, ()))) (
            .leaf (false, ()))) (
           .leaf (false, ()))) (
          .leaf (false, ()))) (
         .br (a0.1 == (2 : Int)) (
          .br (a0.2.1 == (0 : Int)) (
           .br ((a0.2.2.2.1.length : Int) == (12 : Int)) (
            .ob (V_s_l1In (a0.2.2.2.2.1, ()) ((0 : Int), ()) ((1000000 : Int), ())) fun r6 =>
            .br r6.1 (
             .br ((a0.2.2.2.2.2.1.length : Int) == (16 : Int)) (
              .leaf (((a0.2.2.2.2.2.2.1.length : Int) == (0 : Int)), ())) (
              .leaf (false, ()))) (
             .leaf (false, ()))) (
            .leaf (false, ()))) (
           .leaf (false, ()))) (
          .br (a0.1 == (3 : Int)) (
           .ob (V_s_l1In (a0.2.1, ()) ((1 : Int), ()) ((9 : Int), ())) fun r7 =>
           .br r7.1 (
            .br ((a0.2.2.2.1.length : Int) == (12 : Int)) (
             .ob (V_s_l1In (a0.2.2.2.2.1, ()) ((0 : Int), ()) ((1000000 : Int), ())) fun r8 =>
             .br r8.1 (
              .br ((a0.2.2.2.2.2.1.length : Int) == (16 : Int)) (
               .leaf (((a0.2.2.2.2.2.2.1.length : Int) == (16 : Int)), ())) (
               .leaf (false, ()))) (
              .leaf (false, ()))) (
             .leaf (false, ()))) (
            .leaf (false, ()))) (
           .leaf (false, ()))))))))))
def V_s_FrameOk (a0 : YFrame) : Option ((Bool × Unit)) := (T_s_FrameOk a0).val
def B_s_PutN_5 (x1 : Int × (List YB) × Int × Unit) : Option ((Int × (List YB) × Int × Unit) ⊕ ((YBs))) :=
  Tree.val (α := (Int × (List YB) × Int × Unit) ⊕ ((YBs))) <|
  .br (decide (x1.2.2.1 ≥ (0 : Int))) (
   .chk (decide ((0 : Int) ≤ (IntKind.i64.wrap ((8 : Int) * x1.2.2.1)))) <|
   .chk (decide (x1.2.1.length + [((IntKind.u8.wrap ((IntKind.i64.wrap ((BitVec.ofInt (IntKind.i64.bits) ((Int.fdiv x1.1 (2 ^ (min ((IntKind.i64.wrap ((8 : Int) * x1.2.2.1))).toNat IntKind.i64.bits)))) &&& BitVec.ofInt (IntKind.i64.bits) ((255 : Int))).toNat : Nat)))), ())].length ≤ 4294967296)) <|
   .leaf (.inl (x1.1, (x1.2.1 ++ [((IntKind.u8.wrap ((IntKind.i64.wrap ((BitVec.ofInt (IntKind.i64.bits) ((Int.fdiv x1.1 (2 ^ (min ((IntKind.i64.wrap ((8 : Int) * x1.2.2.1))).toNat IntKind.i64.bits)))) &&& BitVec.ofInt (IntKind.i64.bits) ((255 : Int))).toNat : Nat)))), ())]), (IntKind.i64.wrap (x1.2.2.1 - (1 : Int))), ()))) (
   .leaf (.inr (x1.2.1, ())))
def T_s_PutN (a0 : YBs) (a1 : YI) (a2 : YI) : Tree ((YBs)) :=
  .chk (decide (([] : List (Int × Unit)).length + a0.1.length ≤ 4294967296)) <|
  .br (decide (a2.1 < (1 : Int))) (
   .leaf ((([] : List (Int × Unit)) ++ a0.1), ())) (
   .br (decide (a2.1 > (6 : Int))) (
    .leaf ((([] : List (Int × Unit)) ++ a0.1), ())) (
    .ob (iterO B_s_PutN_5 (a1.1, (([] : List (Int × Unit)) ++ a0.1), (IntKind.i64.wrap (a2.1 - (1 : Int))), ())) fun o2 =>
    .leaf (o2.1, ())))
def V_s_PutN (a0 : YBs) (a1 : YI) (a2 : YI) : Option ((YBs)) := (T_s_PutN a0 a1 a2).val
def B_s_PutFrame_10 (x2 : YDice) : Option ((YDice) ⊕ ((YBs))) :=
  Tree.val (α := (YDice) ⊕ ((YBs))) <|
  .br (decide (x2.2.1 < (20 : Int))) (
   .chk (decide (x2.1.length + [((0 : Int), ())].length ≤ 4294967296)) <|
   .leaf (.inl ((x2.1 ++ [((0 : Int), ())]), (IntKind.i64.wrap (x2.2.1 + (1 : Int))), ()))) (
   .leaf (.inr (x2.1, ())))
def T_s_PutFrame (a0 : YFrame) : Tree ((YBs)) :=
  .ob (V_s_FrameOk a0) fun r1 =>
  .br (!r1.1) (
   .leaf (([] : List (Int × Unit)), ())) (
   .br (a0.1 == (1 : Int)) (
    .chk (decide ([((IntKind.u8.wrap (a0.1)), ())].length + [((IntKind.u8.wrap (a0.2.1)), ())].length ≤ 4294967296)) <|
    .chk (decide (([((IntKind.u8.wrap (a0.1)), ())] ++ [((IntKind.u8.wrap (a0.2.1)), ())]).length + a0.2.2.1.length ≤ 4294967296)) <|
    .ob (iterO B_s_PutFrame_10 ((([((IntKind.u8.wrap (a0.1)), ())] ++ [((IntKind.u8.wrap (a0.2.1)), ())]) ++ a0.2.2.1), (0 : Int), ())) fun o3 =>
    .leaf (o3.1, ())) (
    .br (a0.1 == (2 : Int)) (
     .chk (decide ([((IntKind.u8.wrap (a0.1)), ())].length + a0.2.2.1.length ≤ 4294967296)) <|
     .chk (decide (([((IntKind.u8.wrap (a0.1)), ())] ++ a0.2.2.1).length + a0.2.2.2.1.length ≤ 4294967296)) <|
     .ob (V_s_PutN ((([((IntKind.u8.wrap (a0.1)), ())] ++ a0.2.2.1) ++ a0.2.2.2.1), ()) (a0.2.2.2.2.1, ()) ((4 : Int), ())) fun r4 =>
     .chk (decide (r4.1.length + a0.2.2.2.2.2.1.length ≤ 4294967296)) <|
     .leaf ((r4.1 ++ a0.2.2.2.2.2.1), ())) (
     .br (a0.1 == (3 : Int)) (
      .chk (decide ([((IntKind.u8.wrap (a0.1)), ())].length + [((IntKind.u8.wrap (a0.2.1)), ())].length ≤ 4294967296)) <|
      .chk (decide (([((IntKind.u8.wrap (a0.1)), ())] ++ [((IntKind.u8.wrap (a0.2.1)), ())]).length + a0.2.2.1.length ≤ 4294967296)) <|
      .chk (decide ((([((IntKind.u8.wrap (a0.1)), ())] ++ [((IntKind.u8.wrap (a0.2.1)), ())]) ++ a0.2.2.1).length + a0.2.2.2.1.length ≤ 4294967296)) <|
      .ob (V_s_PutN (((([((IntKind.u8.wrap (a0.1)), ())] ++ [((IntKind.u8.wrap (a0.2.1)), ())]) ++ a0.2.2.1) ++ a0.2.2.2.1), ()) (a0.2.2.2.2.1, ()) ((4 : Int), ())) fun r5 =>
      .chk (decide (r5.1.length + a0.2.2.2.2.2.1.length ≤ 4294967296)) <|
      .chk (decide ((r5.1 ++ a0.2.2.2.2.2.1).length + a0.2.2.2.2.2.2.1.length ≤ 4294967296)) <|
      .leaf (((r5.1 ++ a0.2.2.2.2.2.1) ++ a0.2.2.2.2.2.2.1), ())) (
      .chk (decide ([((IntKind.u8.wrap (a0.1)), ())].length + a0.2.2.2.1.length ≤ 4294967296)) <|
      .ob (V_s_PutN (([((IntKind.u8.wrap (a0.1)), ())] ++ a0.2.2.2.1), ()) (a0.2.2.2.2.2.2.2.1, ()) ((4 : Int), ())) fun r6 =>
      .ob (V_s_PutN r6 (a0.2.2.2.2.2.2.2.2.1, ()) ((6 : Int), ())) fun r7 =>
      .chk (decide (r7.1.length + a0.2.2.2.2.2.2.2.2.2.2.1.length ≤ 4294967296)) <|
      .chk (decide ((r7.1 ++ a0.2.2.2.2.2.2.2.2.2.2.1).length + a0.2.2.2.2.2.2.2.2.2.1.length ≤ 4294967296)) <|
      .leaf (((r7.1 ++ a0.2.2.2.2.2.2.2.2.2.2.1) ++ a0.2.2.2.2.2.2.2.2.2.1), ())))))
def V_s_PutFrame (a0 : YFrame) : Option ((YBs)) := (T_s_PutFrame a0).val
def T_s_WireFrom (a0 : YAddr) (a1 : YAddr) (a2 : YFrame) : Tree ((YWire)) :=
  .ob (V_s_PutFrame a2) fun r1 =>
  .leaf (a0.1, a0.2.1, a1.1, a1.2.1, r1.1, ())
def V_s_WireFrom (a0 : YAddr) (a1 : YAddr) (a2 : YFrame) : Option ((YWire)) := (T_s_WireFrom a0 a1 a2).val
def T_i_isNonce (a0 : YBs) : Tree ((Bool × Unit)) :=
  .leaf (((a0.1.length : Int) == (12 : Int)), ())
def V_i_isNonce (a0 : YBs) : Option ((Bool × Unit)) := (T_i_isNonce a0).val
def T_i_Sealed (a0 : YI) : Tree ((Bool × Unit)) :=
  .ob (V_i_within a0 ((4 : Int), ()) ((8 : Int), ())) fun r1 =>
  .leaf r1
def V_i_Sealed (a0 : YI) : Option ((Bool × Unit)) := (T_i_Sealed a0).val
def T_i_bodyOk (a0 : YI) (a1 : YI) : Tree ((Bool × Unit)) :=
  .br (a0.1 == (4 : Int)) (
   .leaf ((decide (a1.1 ≤ (40 : Int))), ())) (
   .br (a0.1 == (5 : Int)) (
    .leaf ((a1.1 == (12 : Int)), ())) (
    .br (a0.1 == (6 : Int)) (
     .leaf ((a1.1 == (12 : Int)), ())) (
     .leaf ((a1.1 == (4 : Int)), ()))))
def V_i_bodyOk (a0 : YI) (a1 : YI) : Option ((Bool × Unit)) := (T_i_bodyOk a0 a1).val
def T_bytes_Equal (a0 : YBs) (a1 : YBs) : Tree ((Bool × Unit)) :=
  .leaf ((decide ((bstr a0.1) = (bstr a1.1))), ())
def V_bytes_Equal (a0 : YBs) (a1 : YBs) : Option ((Bool × Unit)) := (T_bytes_Equal a0 a1).val
def T_i_sameFrame (a0 : YFrame) (a1 : YFrame) : Tree ((Bool × Unit)) :=
  .br (a0.1 == a1.1) (
   .br (a0.2.1 == a1.2.1) (
    .br (a0.2.2.2.2.1 == a1.2.2.2.2.1) (
     .br (a0.2.2.2.2.2.2.2.1 == a1.2.2.2.2.2.2.2.1) (
      .br (a0.2.2.2.2.2.2.2.2.1 == a1.2.2.2.2.2.2.2.2.1) (
       .ob (V_bytes_Equal (a0.2.2.1, ()) (a1.2.2.1, ())) fun r1 =>
       .br r1.1 (
        .ob (V_bytes_Equal (a0.2.2.2.1, ()) (a1.2.2.2.1, ())) fun r2 =>
        .br r2.1 (
         .ob (V_bytes_Equal (a0.2.2.2.2.2.1, ()) (a1.2.2.2.2.2.1, ())) fun r3 =>
         .br r3.1 (
          .ob (V_bytes_Equal (a0.2.2.2.2.2.2.1, ()) (a1.2.2.2.2.2.2.1, ())) fun r4 =>
          .br r4.1 (
           .ob (V_bytes_Equal (a0.2.2.2.2.2.2.2.2.2.1, ()) (a1.2.2.2.2.2.2.2.2.2.1, ())) fun r5 =>
           .br r5.1 (
            .ob (V_bytes_Equal (a0.2.2.2.2.2.2.2.2.2.2.1, ()) (a1.2.2.2.2.2.2.2.2.2.2.1, ())) fun r6 =>
            .leaf (r6.1, ())) (
            .leaf (false, ()))) (
           .leaf (false, ()))) (
          .leaf (false, ()))) (
         .leaf (false, ()))) (
        .leaf (false, ()))) (
       .leaf (false, ()))) (
      .leaf (false, ()))) (
     .leaf (false, ()))) (
    .leaf (false, ()))) (
   .leaf (false, ()))
def V_i_sameFrame (a0 : YFrame) (a1 : YFrame) : Option ((Bool × Unit)) := (T_i_sameFrame a0 a1).val
def T_i_FrameOk (a0 : YFrame) : Tree ((Bool × Unit)) :=
  .br (a0.1 == (1 : Int)) (
   .ob (V_i_within (a0.2.1, ()) ((1 : Int), ()) ((9 : Int), ())) fun r1 =>
   .br r1.1 (
    .ob (V_i_isNonce (a0.2.2.1, ())) fun r2 =>
    .br r2.1 (
     .ob (V_i_sameFrame a0 (a0.1, a0.2.1, a0.2.2.1, ([] : List (Int × Unit)), (0 : Int), ([] : List (Int × Unit)), ([] : List (Int × Unit)), (0 : Int), (0 : Int), ([] : List (Int × Unit)), ([] : List (Int × Unit)), ())) fun r3 =>
     .leaf (r3.1, ())) (
     .leaf (false, ()))) (
    .leaf (false, ()))) (
   .br (a0.1 == (2 : Int)) (
    .ob (V_i_isNonce (a0.2.2.1, ())) fun r4 =>
    .br r4.1 (
     .ob (V_i_isNonce (a0.2.2.2.1, ())) fun r5 =>
     .br r5.1 (
      .ob (V_i_within (a0.2.2.2.2.1, ()) ((0 : Int), ()) ((1000000 : Int), ())) fun r6 =>
      .br r6.1 (
       .br ((a0.2.2.2.2.2.1.length : Int) == (16 : Int)) (
        .ob (V_i_sameFrame a0 (a0.1, (0 : Int), a0.2.2.1, a0.2.2.2.1, a0.2.2.2.2.1, a0.2.2.2.2.2.1, ([] : List (Int × Unit)), (0 : Int), (0 : Int), ([] : List (Int × Unit)), ([] : List (Int × Unit)), ())) fun r7 =>
        .leaf (r7.1, ())) (
        .leaf (false, ()))) (
       .leaf (false, ()))) (
      .leaf (false, ()))) (
     .leaf (false, ()))) (
    .br (a0.1 == (3 : Int)) (
     .ob (V_i_within (a0.2.1, ()) ((1 : Int), ()) ((9 : Int), ())) fun r8 =>
     .br r8.1 (
      .ob (V_i_isNonce (a0.2.2.1, ())) fun r9 =>
      .br r9.1 (
       .ob (V_i_isNonce (a0.2.2.2.1, ())) fun r10 =>
       .br r10.1 (
        .ob (V_i_within (a0.2.2.2.2.1, ()) ((0 : Int), ()) ((1000000 : Int), ())) fun r11 =>
        .br r11.1 (
         .br ((a0.2.2.2.2.2.1.length : Int) == (16 : Int)) (
          .br ((a0.2.2.2.2.2.2.1.length : Int) == (16 : Int)) (
           .ob (V_i_sameFrame a0 (a0.1, a0.2.1, a0.2.2.1, a0.2.2.2.1, a0.2.2.2.2.1, a0.2.2.2.2.2.1, a0.2.2.2.2.2.2.1, (0 : Int), (0 : Int), ([] : List (Int × Unit)), ([] : List (Int × Unit)), ())) fun r12 =>
           .leaf r12) (
           .leaf (false, ()))) (
          .leaf (false, ()))) (
         .leaf (false, ()))) (
        .leaf (false, ()))) (
       .leaf (false, ()))) (
      .leaf (false, ()))) (
     .ob (V_i_Sealed (a0.1, ())) fun r13 =>
     .br r13.1 (
      .ob (V_i_isNonce (a0.2.2.2.1, ())) fun r14 =>
      .br r14.1 (
       .ob (V_i_within (a0.2.2.2.2.2.2.2.1, ()) ((0 : Int), ()) ((4294967295 : Int), ())) fun r15 =>
       .br r15.1 (
        .ob (V_i_within (a0.2.2.2.2.2.2.2.2.1, ()) ((0 : Int), ()) ((281474976710655 : Int), ())) fun r16 =>
        .br r16.1 (
         .br ((a0.2.2.2.2.2.2.2.2.2.2.1.length : Int) == (16 : Int)) (
          .ob (V_i_bodyOk (a0.1, ()) ((a0.2.2.2.2.2.2.2.2.2.1.length : Int), ())) fun r17 =>
          .br r17.1 (
           .ob (V_i_sameFrame a0 (a0.1, (0 : Int), ([] : List (Int × Unit)), a0.2.2.2.1, (0 : Int), ([] : List (Int × Unit)), ([] : List (Int × Unit)), a0.2.2.2.2.2.2.2.1, a0.2.2.2.2.2.2.2.2.1, a0.2.2.2.2.2.2.2.2.2.1, a0.2.2.2.2.2.2.2.2.2.2.1, ())) fun r18 =>
           .leaf (r18.1, ())) (
           .leaf (false, ()))) (
          .leaf (false, ()))) (
         .leaf (false, ()))) (
        .leaf (false, ()))) (
       .leaf (false, ()))) (
      .leaf (false, ())))))
def V_i_FrameOk (a0 : YFrame) : Option ((Bool × Unit)) := (T_i_FrameOk a0).val
def B_i_joined_3 (x1 : (List YB) × (List YBs) × Int × Int × Unit) : Option (((List YB) × (List YBs) × Int × Int × Unit) ⊕ ((YBs))) :=
  Tree.val (α := ((List YB) × (List YBs) × Int × Int × Unit) ⊕ ((YBs))) <|
  .br (decide (x1.2.2.2.1 < x1.2.2.1)) (
   .ob (idx x1.2.1 x1.2.2.2.1) fun e2 =>
   .chk (decide (x1.1.length + e2.1.length ≤ 4294967296)) <|
   .leaf (.inl ((x1.1 ++ e2.1), x1.2.1, x1.2.2.1, (IntKind.i64.wrap (x1.2.2.2.1 + (1 : Int))), ()))) (
   .leaf (.inr (x1.1, ())))
def T_i_joined (a0 : (List YBs) × Unit) : Tree ((YBs)) :=
  .ob (iterO B_i_joined_3 (([] : List (Int × Unit)), a0.1, (a0.1.length : Int), (0 : Int), ())) fun o3 =>
  .leaf (o3.1, ())
def V_i_joined (a0 : (List YBs) × Unit) : Option ((YBs)) := (T_i_joined a0).val
def B_i_PutN_5 (x1 : Int × (List YB) × Int × Unit) : Option ((Int × (List YB) × Int × Unit) ⊕ ((YBs))) :=
  Tree.val (α := (Int × (List YB) × Int × Unit) ⊕ ((YBs))) <|
  .br (decide (x1.2.2.1 ≥ (0 : Int))) (
   .chk (decide ((0 : Int) ≤ (IntKind.i64.wrap ((8 : Int) * x1.2.2.1)))) <|
   .chk (decide (x1.2.1.length + [((IntKind.u8.wrap ((IntKind.i64.wrap ((BitVec.ofInt (IntKind.i64.bits) ((Int.fdiv x1.1 (2 ^ (min ((IntKind.i64.wrap ((8 : Int) * x1.2.2.1))).toNat IntKind.i64.bits)))) &&& BitVec.ofInt (IntKind.i64.bits) ((255 : Int))).toNat : Nat)))), ())].length ≤ 4294967296)) <|
   .leaf (.inl (x1.1, (x1.2.1 ++ [((IntKind.u8.wrap ((IntKind.i64.wrap ((BitVec.ofInt (IntKind.i64.bits) ((Int.fdiv x1.1 (2 ^ (min ((IntKind.i64.wrap ((8 : Int) * x1.2.2.1))).toNat IntKind.i64.bits)))) &&& BitVec.ofInt (IntKind.i64.bits) ((255 : Int))).toNat : Nat)))), ())]), (IntKind.i64.wrap (x1.2.2.1 - (1 : Int))), ()))) (
   .leaf (.inr (x1.2.1, ())))
def T_i_PutN (a0 : YBs) (a1 : YI) (a2 : YI) : Tree ((YBs)) :=
  .chk (decide (([] : List (Int × Unit)).length + a0.1.length ≤ 4294967296)) <|
  .br (decide (a2.1 < (1 : Int))) (
   .leaf ((([] : List (Int × Unit)) ++ a0.1), ())) (
   .br (decide (a2.1 > (6 : Int))) (
    .leaf ((([] : List (Int × Unit)) ++ a0.1), ())) (
    .ob (iterO B_i_PutN_5 (a1.1, (([] : List (Int × Unit)) ++ a0.1), (IntKind.i64.wrap (a2.1 - (1 : Int))), ())) fun o2 =>
    .leaf (o2.1, ())))
def V_i_PutN (a0 : YBs) (a1 : YI) (a2 : YI) : Option ((YBs)) := (T_i_PutN a0 a1 a2).val
def T_i_PutFrame (a0 : YFrame) : Tree ((YBs)) :=
  .ob (V_i_FrameOk a0) fun r1 =>
  .br (!r1.1) (
   .leaf (([] : List (Int × Unit)), ())) (
   .br (a0.1 == (1 : Int)) (
    .ob (V_i_joined ([([((IntKind.u8.wrap (a0.1)), ())], ()), ([((IntKind.u8.wrap (a0.2.1)), ())], ()), (a0.2.2.1, ()), ((List.replicate ((20 : Int)).toNat ((0 : Int), ())), ())], ())) fun r2 =>
    .leaf (r2.1, ())) (
    .br (a0.1 == (2 : Int)) (
     .ob (V_i_PutN (([] : List (Int × Unit)), ()) (a0.2.2.2.2.1, ()) ((4 : Int), ())) fun r3 =>
     .ob (V_i_joined ([([((IntKind.u8.wrap (a0.1)), ())], ()), (a0.2.2.1, ()), (a0.2.2.2.1, ()), r3, (a0.2.2.2.2.2.1, ())], ())) fun r4 =>
     .leaf (r4.1, ())) (
     .br (a0.1 == (3 : Int)) (
      .ob (V_i_PutN (([] : List (Int × Unit)), ()) (a0.2.2.2.2.1, ()) ((4 : Int), ())) fun r5 =>
      .ob (V_i_joined ([([((IntKind.u8.wrap (a0.1)), ())], ()), ([((IntKind.u8.wrap (a0.2.1)), ())], ()), (a0.2.2.1, ()), (a0.2.2.2.1, ()), r5, (a0.2.2.2.2.2.1, ()), (a0.2.2.2.2.2.2.1, ())], ())) fun r6 =>
      .leaf (r6.1, ())) (
      .ob (V_i_PutN (([] : List (Int × Unit)), ()) (a0.2.2.2.2.2.2.2.1, ()) ((4 : Int), ())) fun r7 =>
      .ob (V_i_PutN (([] : List (Int × Unit)), ()) (a0.2.2.2.2.2.2.2.2.1, ()) ((6 : Int), ())) fun r8 =>
      .ob (V_i_joined ([([((IntKind.u8.wrap (a0.1)), ())], ()), (a0.2.2.2.1, ()), r7, r8, (a0.2.2.2.2.2.2.2.2.2.2.1, ()), (a0.2.2.2.2.2.2.2.2.2.1, ())], ())) fun r9 =>
      .leaf (r9.1, ())))))
def V_i_PutFrame (a0 : YFrame) : Option ((YBs)) := (T_i_PutFrame a0).val
def T_i_WireFrom (a0 : YAddr) (a1 : YAddr) (a2 : YFrame) : Tree ((YWire)) :=
  .ob (V_i_PutFrame a2) fun r1 =>
  .leaf (a0.1, a0.2.1, a1.1, a1.2.1, r1.1, ())
def V_i_WireFrom (a0 : YAddr) (a1 : YAddr) (a2 : YFrame) : Option ((YWire)) := (T_i_WireFrom a0 a1 a2).val
def T_l_eqFrame (a0 : YFrame) (a1 : YFrame) : Tree ((Bool × Unit)) :=
  .br (a0.1 != a1.1) (
   .leaf (false, ())) (
   .br (a0.2.1 != a1.2.1) (
    .leaf (false, ())) (
    .ob (V_l_eqByteS (a0.2.2.1, ()) (a1.2.2.1, ())) fun r1 =>
    .br (!r1.1) (
     .leaf (false, ())) (
     .ob (V_l_eqByteS (a0.2.2.2.1, ()) (a1.2.2.2.1, ())) fun r2 =>
     .br (!r2.1) (
      .leaf (false, ())) (
      .br (a0.2.2.2.2.1 != a1.2.2.2.2.1) (
       .leaf (false, ())) (
       .ob (V_l_eqByteS (a0.2.2.2.2.2.1, ()) (a1.2.2.2.2.2.1, ())) fun r3 =>
       .br (!r3.1) (
        .leaf (false, ())) (
        .ob (V_l_eqByteS (a0.2.2.2.2.2.2.1, ()) (a1.2.2.2.2.2.2.1, ())) fun r4 =>
        .br (!r4.1) (
         .leaf (false, ())) (
         .br (a0.2.2.2.2.2.2.2.1 != a1.2.2.2.2.2.2.2.1) (
          .leaf (false, ())) (
          .br (a0.2.2.2.2.2.2.2.2.1 != a1.2.2.2.2.2.2.2.2.1) (
           .leaf (false, ())) (
           .ob (V_l_eqByteS (a0.2.2.2.2.2.2.2.2.2.1, ()) (a1.2.2.2.2.2.2.2.2.2.1, ())) fun r5 =>
           .br (!r5.1) (
            .leaf (false, ())) (
            .ob (V_l_eqByteS (a0.2.2.2.2.2.2.2.2.2.2.1, ()) (a1.2.2.2.2.2.2.2.2.2.2.1, ())) fun r6 =>
            .br (!r6.1) (
             .leaf (false, ())) (
             .leaf (true, ()))))))))))))
def V_l_eqFrame (a0 : YFrame) (a1 : YFrame) : Option ((Bool × Unit)) := (T_l_eqFrame a0 a1).val
def T_l_markFrame (a0 : YFrame) (a1 : YI) : Tree ((YI) × (YFrame)) :=
  .ob (V_l_markByteS (a0.2.2.1, ()) a1) fun r1 =>
  .ob (V_l_markByteS (a0.2.2.2.1, ()) r1.1) fun r2 =>
  .ob (V_l_markByteS (a0.2.2.2.2.2.1, ()) r2.1) fun r3 =>
  .ob (V_l_markByteS (a0.2.2.2.2.2.2.1, ()) r3.1) fun r4 =>
  .ob (V_l_markByteS (a0.2.2.2.2.2.2.2.2.2.1, ()) r4.1) fun r5 =>
  .ob (V_l_markByteS (a0.2.2.2.2.2.2.2.2.2.2.1, ()) r5.1) fun r6 =>
  .leaf ((r6.1.1, ()), (a0.1, a0.2.1, r1.2.1, r2.2.1, a0.2.2.2.2.1, r3.2.1, r4.2.1, a0.2.2.2.2.2.2.2.1, a0.2.2.2.2.2.2.2.2.1, r5.2.1, r6.2.1, ()))
def V_l_markFrame (a0 : YFrame) (a1 : YI) : Option ((YI) × (YFrame)) := (T_l_markFrame a0 a1).val
def T_l_heldWire (a0 : YWire) (a1 : YI) : Tree ((YI)) :=
  .ob (V_l_heldByteS (a0.2.2.2.2.1, ()) a1) fun r1 =>
  .br (decide (r1.1 < (0 : Int))) (
   .leaf ((-1 : Int), ())) (
   .leaf r1)
def V_l_heldWire (a0 : YWire) (a1 : YI) : Option ((YI)) := (T_l_heldWire a0 a1).val
def T_l_FnExactWireFrom (a0 : YAddr) (a1 : YAddr) (a2 : YFrame) : Tree ((Bool × Unit)) :=
  .ob (V_l_szFrame a2 ((1048576 : Int), ())) fun r1 =>
  .br (decide (r1.1 < (0 : Int))) (
   .leaf (true, ())) (
   .ob (V_l_toAddr a0) fun r2 =>
   .ob (V_l_toAddr a1) fun r3 =>
   .ob (V_l_toFrame a2) fun r4 =>
   .ob (V_s_WireFrom r2 r3 r4) fun r5 =>
   .ob (V_l_toFrame a2) fun r6 =>
   .ob (V_l_toAddr a0) fun r7 =>
   .ob (V_l_toAddr a1) fun r8 =>
   .ob (V_i_WireFrom r7 r8 r6) fun r9 =>
   .ob (V_l_eqWire r9 r5) fun r10 =>
   .br (!r10.1) (
    .leaf (false, ())) (
    .ob (V_l_toFrame a2) fun r11 =>
    .ob (V_l_eqFrame r6 r11) fun r12 =>
    .br (!r12.1) (
     .leaf (false, ())) (
     .ob (V_l_markFrame r6 ((1 : Int), ())) fun r13 =>
     .br (decide (r13.1.1 < (0 : Int))) (
      .leaf (false, ())) (
      .ob (V_l_eqWire r9 r5) fun r14 =>
      .br (!r14.1) (
       .leaf (false, ())) (
       .ob (V_l_markWire r9 ((1 : Int), ())) fun r15 =>
       .ob (V_l_heldWire (r9.1, r9.2.1, r9.2.2.1, r9.2.2.2.1, r15.2.2.2.2.2.1, ()) ((1 : Int), ())) fun r16 =>
       .br (decide (r16.1 < (0 : Int))) (
        .leaf (false, ())) (
        .br (r16.1 != r15.1.1) (
         .leaf (false, ())) (
         .ob (V_l_toAddr a0) fun r17 =>
         .ob (V_l_toAddr a1) fun r18 =>
         .ob (V_l_toFrame a2) fun r19 =>
         .ob (V_i_WireFrom r17 r18 r19) fun r20 =>
         .ob (V_l_eqWire r20 r5) fun r21 =>
         .br (!r21.1) (
          .leaf (false, ())) (
          .ob (V_l_heldWire (r9.1, r9.2.1, r9.2.2.1, r9.2.2.2.1, r15.2.2.2.2.2.1, ()) ((1 : Int), ())) fun r22 =>
          .br (decide (r22.1 < (0 : Int))) (
           .leaf (false, ())) (
           .br (r22.1 != r15.1.1) (
            .leaf (false, ())) (
            .leaf (true, ())))))))))))
def V_l_FnExactWireFrom (a0 : YAddr) (a1 : YAddr) (a2 : YFrame) : Option ((Bool × Unit)) := (T_l_FnExactWireFrom a0 a1 a2).val
end
end Go.Proofs.Ythcbhopanefaiaa

/-
  What the functions of the seat answer, as plain terms (printed by a program, proved in the texts P); nothing is assumed.
-/
import Derived.Test.YtndbndcibmfgdaaEv2
namespace Go.Proofs.Ytndbndcibmfgdaa
open Go.RowKit
set_option linter.unusedVariables false
set_option maxRecDepth 100000
set_option maxHeartbeats 4000000
noncomputable section
abbrev YB : Type := Int × Unit
abbrev YI : Type := Int × Unit
abbrev YBs : Type := List YB × Unit
abbrev YerrorAddressString : Type := ByteArray × Int × Unit
abbrev YAddr : Type := Int × Int × Unit
abbrev YWin : Type := Int × (List YI) × Unit
abbrev YboundsError : Type := Int × Int × Bool × Int × Unit
abbrev YCand : Type := Int × Int × (List YB) × Int × Unit
abbrev YWire : Type := Int × Int × Int × Int × (List YB) × Unit
abbrev YEp : Type := Int × (List YB) × Int × Int × (List YI) × Unit
abbrev YPaths : Type := Int × Int × (List YCand) × Unit
abbrev YChan : Type := Int × (List YB) × Int × (List YB) × Int × Int × (List YI) × Int × (List YB) × Int × Int × (List YI) × Bool × Int × (List YB) × Unit
abbrev YSess : Type := Int × (List YB) × (List YB) × Int × (List YB) × Int × (List YB) × Int × Int × (List YI) × Int × (List YB) × Int × Int × (List YI) × Bool × Int × (List YB) × Int × Int × (List YCand) × Int × Int × Bool × Unit
def T_l_szByteS (a0 : YBs) (a1 : YI) : Tree ((YI)) :=
  .br (decide ((IntKind.i64.wrap (a1.1 - (a0.1.length : Int))) < (0 : Int))) (
   .leaf ((-1 : Int), ())) (
   .leaf ((IntKind.i64.wrap (a1.1 - (a0.1.length : Int))), ()))
def V_l_szByteS (a0 : YBs) (a1 : YI) : Option ((YI)) := (T_l_szByteS a0 a1).val
def T_l_szWire (a0 : YWire) (a1 : YI) : Tree ((YI)) :=
  .ob (V_l_szByteS (a0.2.2.2.2.1, ()) a1) fun r1 =>
  .br (decide (r1.1 < (0 : Int))) (
   .leaf ((-1 : Int), ())) (
   .leaf r1)
def V_l_szWire (a0 : YWire) (a1 : YI) : Option ((YI)) := (T_l_szWire a0 a1).val
def B_l_szWireS_5 (x1 : (List YWire) × Int × Int × Unit) : Option (((List YWire) × Int × Int × Unit) ⊕ ((YI) ⊕ (YI))) :=
  Tree.val (α := ((List YWire) × Int × Int × Unit) ⊕ ((YI) ⊕ (YI))) <|
  .br (decide (x1.2.2.1 < (x1.1.length : Int))) (
   .ob (idx x1.1 x1.2.2.1) fun e2 =>
   .ob (V_l_szWire e2 (x1.2.1, ())) fun r3 =>
   .br (decide (r3.1 < (0 : Int))) (
    .leaf (.inr (.inl ((-1 : Int), ())))) (
    .leaf (.inl (x1.1, r3.1, (IntKind.i64.wrap (x1.2.2.1 + (1 : Int))), ())))) (
   .leaf (.inr (.inr (x1.2.1, ()))))
def T_l_szWireS (a0 : (List YWire) × Unit) (a1 : YI) : Tree ((YI)) :=
  .br (decide ((IntKind.i64.wrap (a1.1 - (a0.1.length : Int))) < (0 : Int))) (
   .leaf ((-1 : Int), ())) (
   .ob (iterO B_l_szWireS_5 (a0.1, (IntKind.i64.wrap (a1.1 - (a0.1.length : Int))), (0 : Int), ())) fun o4 =>
   .sm o4 (fun o5 =>
    .leaf o5) (fun o6 =>
    .leaf o6))
def V_l_szWireS (a0 : (List YWire) × Unit) (a1 : YI) : Option ((YI)) := (T_l_szWireS a0 a1).val
def T_l_toAddr (a0 : YAddr) : Tree ((YAddr)) :=
  .leaf a0
def V_l_toAddr (a0 : YAddr) : Option ((YAddr)) := (T_l_toAddr a0).val
def B_l_toByteS_3 (x1 : (List YB) × (List YB) × Int × Unit) : Option (((List YB) × (List YB) × Int × Unit) ⊕ ((YBs))) :=
  Tree.val (α := ((List YB) × (List YB) × Int × Unit) ⊕ ((YBs))) <|
  .br (decide (x1.2.2.1 < (x1.1.length : Int))) (
   .ob (idx x1.1 x1.2.2.1) fun e2 =>
   .ob (idx x1.2.1 x1.2.2.1) fun e3 =>
   let q4 := (x1.2.1.set (x1.2.2.1).toNat e2)
   .leaf (.inl (x1.1, q4, (IntKind.i64.wrap (x1.2.2.1 + (1 : Int))), ()))) (
   .leaf (.inr (x1.2.1, ())))
def T_l_toByteS (a0 : YBs) : Tree ((YBs)) :=
  .chk (decide ((0 : Int) ≤ (a0.1.length : Int))) <|
  .chk (decide ((a0.1.length : Int) ≤ (4294967296 : Int))) <|
  .chk (decide ((a0.1.length : Int) = (a0.1.length : Int))) <|
  .ob (iterO B_l_toByteS_3 (a0.1, (List.replicate ((a0.1.length : Int)).toNat ((0 : Int), ())), (0 : Int), ())) fun o5 =>
  .leaf o5
def V_l_toByteS (a0 : YBs) : Option ((YBs)) := (T_l_toByteS a0).val
def T_l_toWire (a0 : YWire) : Tree ((YWire)) :=
  .ob (V_l_toAddr (a0.1, a0.2.1, ())) fun r1 =>
  .ob (V_l_toAddr (a0.2.2.1, a0.2.2.2.1, ())) fun r2 =>
  .ob (V_l_toByteS (a0.2.2.2.2.1, ())) fun r3 =>
  .leaf (r1.1, r1.2.1, r2.1, r2.2.1, r3.1, ())
def V_l_toWire (a0 : YWire) : Option ((YWire)) := (T_l_toWire a0).val
def B_l_toWireS_3 (x1 : (List YWire) × (List YWire) × Int × Unit) : Option (((List YWire) × (List YWire) × Int × Unit) ⊕ (((List YWire) × Unit))) :=
  Tree.val (α := ((List YWire) × (List YWire) × Int × Unit) ⊕ (((List YWire) × Unit))) <|
  .br (decide (x1.2.2.1 < (x1.1.length : Int))) (
   .ob (idx x1.1 x1.2.2.1) fun e2 =>
   .ob (V_l_toWire e2) fun r3 =>
   .ob (idx x1.2.1 x1.2.2.1) fun e4 =>
   let q5 := (x1.2.1.set (x1.2.2.1).toNat r3)
   .leaf (.inl (x1.1, q5, (IntKind.i64.wrap (x1.2.2.1 + (1 : Int))), ()))) (
   .leaf (.inr (x1.2.1, ())))
def T_l_toWireS (a0 : (List YWire) × Unit) : Tree (((List YWire) × Unit)) :=
  .chk (decide ((0 : Int) ≤ (a0.1.length : Int))) <|
  .chk (decide ((a0.1.length : Int) ≤ (4294967296 : Int))) <|
  .chk (decide ((a0.1.length : Int) = (a0.1.length : Int))) <|
  .ob (iterO B_l_toWireS_3 (a0.1, (List.replicate ((a0.1.length : Int)).toNat ((0 : Int), (0 : Int), (0 : Int), (0 : Int), ([] : List YB), ())), (0 : Int), ())) fun o6 =>
  .leaf o6
def V_l_toWireS (a0 : (List YWire) × Unit) : Option (((List YWire) × Unit)) := (T_l_toWireS a0).val
def B_s_Between_3 (x1 : (List YWire) × (List YWire) × Int × Int × Int × Int × Int × Unit) : Option (((List YWire) × (List YWire) × Int × Int × Int × Int × Int × Unit) ⊕ (((List YWire) × Unit))) :=
  Tree.val (α := ((List YWire) × (List YWire) × Int × Int × Int × Int × Int × Unit) ⊕ (((List YWire) × Unit))) <|
  .br (decide (x1.2.2.1 < (x1.1.length : Int))) (
   .ob (idx x1.1 x1.2.2.1) fun e2 =>
   .br (and (e2.1 == x1.2.2.2.1) (and (e2.2.1 == x1.2.2.2.2.1) true)) (
    .ob (idx x1.1 x1.2.2.1) fun e3 =>
    .br (and (e3.2.2.1 == x1.2.2.2.2.2.1) (and (e3.2.2.2.1 == x1.2.2.2.2.2.2.1) true)) (
     .ob (idx x1.1 x1.2.2.1) fun e4 =>
     .chk (decide (([] : List YB).length + e4.2.2.2.2.1.length ≤ 4294967296)) <|
     .chk (decide (x1.2.1.length + [(x1.2.2.2.1, x1.2.2.2.2.1, x1.2.2.2.2.2.1, x1.2.2.2.2.2.2.1, (([] : List YB) ++ e4.2.2.2.2.1), ())].length ≤ 4294967296)) <|
     .leaf (.inl (x1.1, (x1.2.1 ++ [(x1.2.2.2.1, x1.2.2.2.2.1, x1.2.2.2.2.2.1, x1.2.2.2.2.2.2.1, (([] : List YB) ++ e4.2.2.2.2.1), ())]), (IntKind.i64.wrap (x1.2.2.1 + (1 : Int))), x1.2.2.2.1, x1.2.2.2.2.1, x1.2.2.2.2.2.1, x1.2.2.2.2.2.2.1, ()))) (
     .leaf (.inl (x1.1, x1.2.1, (IntKind.i64.wrap (x1.2.2.1 + (1 : Int))), x1.2.2.2.1, x1.2.2.2.2.1, x1.2.2.2.2.2.1, x1.2.2.2.2.2.2.1, ())))) (
    .leaf (.inl (x1.1, x1.2.1, (IntKind.i64.wrap (x1.2.2.1 + (1 : Int))), x1.2.2.2.1, x1.2.2.2.2.1, x1.2.2.2.2.2.1, x1.2.2.2.2.2.2.1, ())))) (
   .leaf (.inr (x1.2.1, ())))
def T_s_Between (a0 : (List YWire) × Unit) (a1 : YAddr) (a2 : YAddr) : Tree (((List YWire) × Unit)) :=
  .ob (iterO B_s_Between_3 (a0.1, ([] : List YWire), (0 : Int), a1.1, a1.2.1, a2.1, a2.2.1, ())) fun o5 =>
  .leaf o5
def V_s_Between (a0 : (List YWire) × Unit) (a1 : YAddr) (a2 : YAddr) : Option (((List YWire) × Unit)) := (T_s_Between a0 a1 a2).val
def T_i_clone (a0 : YBs) : Tree ((YBs)) :=
  .chk (decide (([] : List YB).length + a0.1.length ≤ 4294967296)) <|
  .leaf ((([] : List YB) ++ a0.1), ())
def V_i_clone (a0 : YBs) : Option ((YBs)) := (T_i_clone a0).val
def B_i_copyWires_3 (x1 : (List YWire) × (List YWire) × Int × Int × Unit) : Option (((List YWire) × (List YWire) × Int × Int × Unit) ⊕ (((List YWire) × Unit))) :=
  Tree.val (α := ((List YWire) × (List YWire) × Int × Int × Unit) ⊕ (((List YWire) × Unit))) <|
  .br (decide (x1.2.2.2.1 < x1.2.2.1)) (
   .ob (idx x1.2.1 x1.2.2.2.1) fun e2 =>
   .ob (V_i_clone (e2.2.2.2.2.1, ())) fun r3 =>
   .chk (decide (x1.1.length + [(e2.1, e2.2.1, e2.2.2.1, e2.2.2.2.1, r3.1, ())].length ≤ 4294967296)) <|
   .leaf (.inl ((x1.1 ++ [(e2.1, e2.2.1, e2.2.2.1, e2.2.2.2.1, r3.1, ())]), x1.2.1, x1.2.2.1, (IntKind.i64.wrap (x1.2.2.2.1 + (1 : Int))), ()))) (
   .leaf (.inr (x1.1, ())))
def T_i_copyWires (a0 : (List YWire) × Unit) : Tree (((List YWire) × Unit)) :=
  .ob (iterO B_i_copyWires_3 (([] : List YWire), a0.1, (a0.1.length : Int), (0 : Int), ())) fun o4 =>
  .leaf o4
def V_i_copyWires (a0 : (List YWire) × Unit) : Option (((List YWire) × Unit)) := (T_i_copyWires a0).val
def B_i_Between_3 (x2 : (List YWire) × (List YWire) × Int × Int × Int × Int × Int × Int × Unit) : Option (((List YWire) × (List YWire) × Int × Int × Int × Int × Int × Int × Unit) ⊕ (((List YWire) × Unit))) :=
  Tree.val (α := ((List YWire) × (List YWire) × Int × Int × Int × Int × Int × Int × Unit) ⊕ (((List YWire) × Unit))) <|
  .br (decide (x2.2.2.2.1 < x2.2.2.1)) (
   .chk (Nat.beq (Int.toNat x2.2.2.2.1) (Int.toNat x2.2.2.2.1)) <|
   .ob (idx x2.2.1 x2.2.2.2.1) fun e3 =>
   .br (and (e3.1 == x2.2.2.2.2.1) (and (e3.2.1 == x2.2.2.2.2.2.1) true)) (
    .br (and (e3.2.2.1 == x2.2.2.2.2.2.2.1) (and (e3.2.2.2.1 == x2.2.2.2.2.2.2.2.1) true)) (
     .chk (decide (x2.1.length + [e3].length ≤ 4294967296)) <|
     .chk (Nat.ble (Int.toNat x2.2.2.2.1 + 1) (Int.toNat (IntKind.i64.wrap (x2.2.2.2.1 + (1 : Int))))) <|
     .leaf (.inl ((x2.1 ++ [e3]), x2.2.1, x2.2.2.1, (IntKind.i64.wrap (x2.2.2.2.1 + (1 : Int))), x2.2.2.2.2.1, x2.2.2.2.2.2.1, x2.2.2.2.2.2.2.1, x2.2.2.2.2.2.2.2.1, ()))) (
     .chk (Nat.ble (Int.toNat x2.2.2.2.1 + 1) (Int.toNat (IntKind.i64.wrap (x2.2.2.2.1 + (1 : Int))))) <|
     .leaf (.inl (x2.1, x2.2.1, x2.2.2.1, (IntKind.i64.wrap (x2.2.2.2.1 + (1 : Int))), x2.2.2.2.2.1, x2.2.2.2.2.2.1, x2.2.2.2.2.2.2.1, x2.2.2.2.2.2.2.2.1, ())))) (
    .chk (Nat.ble (Int.toNat x2.2.2.2.1 + 1) (Int.toNat (IntKind.i64.wrap (x2.2.2.2.1 + (1 : Int))))) <|
    .leaf (.inl (x2.1, x2.2.1, x2.2.2.1, (IntKind.i64.wrap (x2.2.2.2.1 + (1 : Int))), x2.2.2.2.2.1, x2.2.2.2.2.2.1, x2.2.2.2.2.2.2.1, x2.2.2.2.2.2.2.2.1, ())))) (
   .leaf (.inr (x2.1, ())))
def T_i_Between (a0 : (List YWire) × Unit) (a1 : YAddr) (a2 : YAddr) : Tree (((List YWire) × Unit)) :=
  .ob (V_i_copyWires a0) fun r1 =>
  .ob (iterO B_i_Between_3 (([] : List YWire), r1.1, (r1.1.length : Int), (0 : Int), a1.1, a1.2.1, a2.1, a2.2.1, ())) fun o4 =>
  .leaf o4
def V_i_Between (a0 : (List YWire) × Unit) (a1 : YAddr) (a2 : YAddr) : Option (((List YWire) × Unit)) := (T_i_Between a0 a1 a2).val
def T_l_eqAddr (a0 : YAddr) (a1 : YAddr) : Tree ((Bool × Unit)) :=
  .br (a0.1 != a1.1) (
   .leaf (false, ())) (
   .br (a0.2.1 != a1.2.1) (
    .leaf (false, ())) (
    .leaf (true, ())))
def V_l_eqAddr (a0 : YAddr) (a1 : YAddr) : Option ((Bool × Unit)) := (T_l_eqAddr a0 a1).val
def B_l_eqByteS_4 (x1 : (List YB) × (List YB) × Int × Unit) : Option (((List YB) × (List YB) × Int × Unit) ⊕ ((Bool × Unit) ⊕ (Unit))) :=
  Tree.val (α := ((List YB) × (List YB) × Int × Unit) ⊕ ((Bool × Unit) ⊕ (Unit))) <|
  .br (decide (x1.2.2.1 < (x1.1.length : Int))) (
   .ob (idx x1.1 x1.2.2.1) fun e2 =>
   .ob (idx x1.2.1 x1.2.2.1) fun e3 =>
   .br (e2.1 != e3.1) (
    .leaf (.inr (.inl (false, ())))) (
    .leaf (.inl (x1.1, x1.2.1, (IntKind.i64.wrap (x1.2.2.1 + (1 : Int))), ())))) (
   .leaf (.inr (.inr ())))
def T_l_eqByteS (a0 : YBs) (a1 : YBs) : Tree ((Bool × Unit)) :=
  .br ((a0.1.length : Int) != (a1.1.length : Int)) (
   .leaf (false, ())) (
   .ob (iterO B_l_eqByteS_4 (a0.1, a1.1, (0 : Int), ())) fun o4 =>
   .sm o4 (fun o5 =>
    .leaf o5) (fun o6 =>
    .leaf (true, ())))
def V_l_eqByteS (a0 : YBs) (a1 : YBs) : Option ((Bool × Unit)) := (T_l_eqByteS a0 a1).val
def T_l_eqWire (a0 : YWire) (a1 : YWire) : Tree ((Bool × Unit)) :=
  .ob (V_l_eqAddr (a0.1, a0.2.1, ()) (a1.1, a1.2.1, ())) fun r1 =>
  .br (!r1.1) (
   .leaf (false, ())) (
   .ob (V_l_eqAddr (a0.2.2.1, a0.2.2.2.1, ()) (a1.2.2.1, a1.2.2.2.1, ())) fun r2 =>
   .br (!r2.1) (
    .leaf (false, ())) (
    .ob (V_l_eqByteS (a0.2.2.2.2.1, ()) (a1.2.2.2.2.1, ())) fun r3 =>
    .br (!r3.1) (
     .leaf (false, ())) (
     .leaf (true, ()))))
def V_l_eqWire (a0 : YWire) (a1 : YWire) : Option ((Bool × Unit)) := (T_l_eqWire a0 a1).val
def B_l_eqWireS_4 (x1 : (List YWire) × (List YWire) × Int × Unit) : Option (((List YWire) × (List YWire) × Int × Unit) ⊕ ((Bool × Unit) ⊕ (Unit))) :=
  Tree.val (α := ((List YWire) × (List YWire) × Int × Unit) ⊕ ((Bool × Unit) ⊕ (Unit))) <|
  .br (decide (x1.2.2.1 < (x1.1.length : Int))) (
   .ob (idx x1.1 x1.2.2.1) fun e2 =>
   .ob (idx x1.2.1 x1.2.2.1) fun e3 =>
   .ob (V_l_eqWire e2 e3) fun r4 =>
   .br (!r4.1) (
    .leaf (.inr (.inl (false, ())))) (
    .leaf (.inl (x1.1, x1.2.1, (IntKind.i64.wrap (x1.2.2.1 + (1 : Int))), ())))) (
   .leaf (.inr (.inr ())))
def T_l_eqWireS (a0 : (List YWire) × Unit) (a1 : (List YWire) × Unit) : Tree ((Bool × Unit)) :=
  .br ((a0.1.length : Int) != (a1.1.length : Int)) (
   .leaf (false, ())) (
   .ob (iterO B_l_eqWireS_4 (a0.1, a1.1, (0 : Int), ())) fun o5 =>
   .sm o5 (fun o6 =>
    .leaf o6) (fun o7 =>
    .leaf (true, ())))
def V_l_eqWireS (a0 : (List YWire) × Unit) (a1 : (List YWire) × Unit) : Option ((Bool × Unit)) := (T_l_eqWireS a0 a1).val
def B_l_markByteS_2 (x1 : (List YB) × Int × Int × Unit) : Option (((List YB) × Int × Int × Unit) ⊕ (((List YB) × Int × Unit))) :=
  Tree.val (α := ((List YB) × Int × Int × Unit) ⊕ (((List YB) × Int × Unit))) <|
  .br (decide (x1.2.2.1 < (x1.1.length : Int))) (
   .ob (idx x1.1 x1.2.2.1) fun e2 =>
   let q3 := (x1.1.set (x1.2.2.1).toNat ((IntKind.u8.wrap (x1.2.1)), ()))
   .leaf (.inl (q3, (IntKind.i64.wrap (x1.2.1 + (1 : Int))), (IntKind.i64.wrap (x1.2.2.1 + (1 : Int))), ()))) (
   .leaf (.inr (x1.1, x1.2.1, ())))
def T_l_markByteS (a0 : YBs) (a1 : YI) : Tree ((YI) × (YBs)) :=
  .ob (iterO B_l_markByteS_2 (a0.1, a1.1, (0 : Int), ())) fun o4 =>
  .leaf ((o4.2.1, ()), (o4.1, ()))
def V_l_markByteS (a0 : YBs) (a1 : YI) : Option ((YI) × (YBs)) := (T_l_markByteS a0 a1).val
def B_l_markWireS_2 (x1 : (List YWire) × Int × Int × Unit) : Option (((List YWire) × Int × Int × Unit) ⊕ (((List YWire) × Int × Unit))) :=
  Tree.val (α := ((List YWire) × Int × Int × Unit) ⊕ (((List YWire) × Int × Unit))) <|
  .br (decide (x1.2.2.1 < (x1.1.length : Int))) (
   .ob (idx x1.1 x1.2.2.1) fun e2 =>
   let q3 := (x1.1.set (x1.2.2.1).toNat (x1.2.1, e2.2.1, e2.2.2.1, e2.2.2.2.1, e2.2.2.2.2.1, ()))
   .ob (idx q3 x1.2.2.1) fun e4 =>
   let q5 := (q3.set (x1.2.2.1).toNat (e4.1, (IntKind.i64.wrap (x1.2.1 + (1 : Int))), e4.2.2.1, e4.2.2.2.1, e4.2.2.2.2.1, ()))
   .ob (idx q5 x1.2.2.1) fun e6 =>
   let q7 := (q5.set (x1.2.2.1).toNat (e6.1, e6.2.1, (IntKind.i64.wrap ((IntKind.i64.wrap (x1.2.1 + (1 : Int))) + (1 : Int))), e6.2.2.2.1, e6.2.2.2.2.1, ()))
   .ob (idx q7 x1.2.2.1) fun e8 =>
   let q9 := (q7.set (x1.2.2.1).toNat (e8.1, e8.2.1, e8.2.2.1, (IntKind.i64.wrap ((IntKind.i64.wrap ((IntKind.i64.wrap (x1.2.1 + (1 : Int))) + (1 : Int))) + (1 : Int))), e8.2.2.2.2.1, ()))
   .ob (idx q9 x1.2.2.1) fun e10 =>
   .ob (V_l_markByteS (e10.2.2.2.2.1, ()) ((IntKind.i64.wrap ((IntKind.i64.wrap ((IntKind.i64.wrap ((IntKind.i64.wrap (x1.2.1 + (1 : Int))) + (1 : Int))) + (1 : Int))) + (1 : Int))), ())) fun r11 =>
   let q12 := (q9.set (x1.2.2.1).toNat (e10.1, e10.2.1, e10.2.2.1, e10.2.2.2.1, r11.2.1, ()))
   .leaf (.inl (q12, r11.1.1, (IntKind.i64.wrap (x1.2.2.1 + (1 : Int))), ()))) (
   .leaf (.inr (x1.1, x1.2.1, ())))
def T_l_markWireS (a0 : (List YWire) × Unit) (a1 : YI) : Tree ((YI) × ((List YWire) × Unit)) :=
  .ob (iterO B_l_markWireS_2 (a0.1, a1.1, (0 : Int), ())) fun o13 =>
  .leaf ((o13.2.1, ()), (o13.1, ()))
def V_l_markWireS (a0 : (List YWire) × Unit) (a1 : YI) : Option ((YI) × ((List YWire) × Unit)) := (T_l_markWireS a0 a1).val
def B_l_heldByteS_2 (x1 : (List YB) × Int × Int × Unit) : Option (((List YB) × Int × Int × Unit) ⊕ ((YI) ⊕ (YI))) :=
  Tree.val (α := ((List YB) × Int × Int × Unit) ⊕ ((YI) ⊕ (YI))) <|
  .br (decide (x1.2.2.1 < (x1.1.length : Int))) (
   .ob (idx x1.1 x1.2.2.1) fun e2 =>
   .br (e2.1 != (IntKind.u8.wrap (x1.2.1))) (
    .leaf (.inr (.inl ((-1 : Int), ())))) (
    .leaf (.inl (x1.1, (IntKind.i64.wrap (x1.2.1 + (1 : Int))), (IntKind.i64.wrap (x1.2.2.1 + (1 : Int))), ())))) (
   .leaf (.inr (.inr (x1.2.1, ()))))
def T_l_heldByteS (a0 : YBs) (a1 : YI) : Tree ((YI)) :=
  .ob (iterO B_l_heldByteS_2 (a0.1, a1.1, (0 : Int), ())) fun o3 =>
  .sm o3 (fun o4 =>
   .leaf o4) (fun o5 =>
   .leaf o5)
def V_l_heldByteS (a0 : YBs) (a1 : YI) : Option ((YI)) := (T_l_heldByteS a0 a1).val
def B_l_heldWireS_2 (x1 : (List YWire) × Int × Int × Unit) : Option (((List YWire) × Int × Int × Unit) ⊕ ((YI) ⊕ (YI))) :=
  Tree.val (α := ((List YWire) × Int × Int × Unit) ⊕ ((YI) ⊕ (YI))) <|
  .br (decide (x1.2.2.1 < (x1.1.length : Int))) (
   .ob (idx x1.1 x1.2.2.1) fun e2 =>
   .br (e2.1 != x1.2.1) (
    .leaf (.inr (.inl ((-1 : Int), ())))) (
    .ob (idx x1.1 x1.2.2.1) fun e3 =>
    .br (e3.2.1 != (IntKind.i64.wrap (x1.2.1 + (1 : Int)))) (
     .leaf (.inr (.inl ((-1 : Int), ())))) (
     .ob (idx x1.1 x1.2.2.1) fun e4 =>
     .br (e4.2.2.1 != (IntKind.i64.wrap ((IntKind.i64.wrap (x1.2.1 + (1 : Int))) + (1 : Int)))) (
      .leaf (.inr (.inl ((-1 : Int), ())))) (
      .ob (idx x1.1 x1.2.2.1) fun e5 =>
      .br (e5.2.2.2.1 != (IntKind.i64.wrap ((IntKind.i64.wrap ((IntKind.i64.wrap (x1.2.1 + (1 : Int))) + (1 : Int))) + (1 : Int)))) (
       .leaf (.inr (.inl ((-1 : Int), ())))) (
       .ob (idx x1.1 x1.2.2.1) fun e6 =>
       .ob (V_l_heldByteS (e6.2.2.2.2.1, ()) ((IntKind.i64.wrap ((IntKind.i64.wrap ((IntKind.i64.wrap ((IntKind.i64.wrap (x1.2.1 + (1 : Int))) + (1 : Int))) + (1 : Int))) + (1 : Int))), ())) fun r7 =>
       .br (decide (r7.1 < (0 : Int))) (
        .leaf (.inr (.inl ((-1 : Int), ())))) (
        .leaf (.inl (x1.1, r7.1, (IntKind.i64.wrap (x1.2.2.1 + (1 : Int))), ())))))))) (
   .leaf (.inr (.inr (x1.2.1, ()))))
def T_l_heldWireS (a0 : (List YWire) × Unit) (a1 : YI) : Tree ((YI)) :=
  .ob (iterO B_l_heldWireS_2 (a0.1, a1.1, (0 : Int), ())) fun o8 =>
  .sm o8 (fun o9 =>
   .leaf o9) (fun o10 =>
   .leaf o10)
def V_l_heldWireS (a0 : (List YWire) × Unit) (a1 : YI) : Option ((YI)) := (T_l_heldWireS a0 a1).val
def T_l_FnExactBetween (a0 : (List YWire) × Unit) (a1 : YAddr) (a2 : YAddr) : Tree ((Bool × Unit)) :=
  .ob (V_l_szWireS a0 ((1048576 : Int), ())) fun r1 =>
  .br (decide (r1.1 < (0 : Int))) (
   .leaf (true, ())) (
   .ob (V_l_toWireS a0) fun r2 =>
   .ob (V_l_toAddr a1) fun r3 =>
   .ob (V_l_toAddr a2) fun r4 =>
   .ob (V_s_Between r2 r3 r4) fun r5 =>
   .ob (V_l_toWireS a0) fun r6 =>
   .ob (V_l_toAddr a1) fun r7 =>
   .ob (V_l_toAddr a2) fun r8 =>
   .ob (V_i_Between r6 r7 r8) fun r9 =>
   .ob (V_l_eqWireS r9 r5) fun r10 =>
   .br (!r10.1) (
    .leaf (false, ())) (
    .ob (V_l_toWireS a0) fun r11 =>
    .ob (V_l_eqWireS r6 r11) fun r12 =>
    .br (!r12.1) (
     .leaf (false, ())) (
     .ob (V_l_markWireS r6 ((1 : Int), ())) fun r13 =>
     .br (decide (r13.1.1 < (0 : Int))) (
      .leaf (false, ())) (
      .ob (V_l_eqWireS r9 r5) fun r14 =>
      .br (!r14.1) (
       .leaf (false, ())) (
       .ob (V_l_markWireS r9 ((1 : Int), ())) fun r15 =>
       .ob (V_l_heldWireS r15.2 ((1 : Int), ())) fun r16 =>
       .br (decide (r16.1 < (0 : Int))) (
        .leaf (false, ())) (
        .br (r16.1 != r15.1.1) (
         .leaf (false, ())) (
         .ob (V_l_toWireS a0) fun r17 =>
         .ob (V_l_toAddr a1) fun r18 =>
         .ob (V_l_toAddr a2) fun r19 =>
         .ob (V_i_Between r17 r18 r19) fun r20 =>
         .ob (V_l_eqWireS r20 r5) fun r21 =>
         .br (!r21.1) (
          .leaf (false, ())) (
          .ob (V_l_heldWireS r15.2 ((1 : Int), ())) fun r22 =>
          .br (decide (r22.1 < (0 : Int))) (
           .leaf (false, ())) (
           .br (r22.1 != r15.1.1) (
            .leaf (false, ())) (
            .leaf (true, ())))))))))))
def V_l_FnExactBetween (a0 : (List YWire) × Unit) (a1 : YAddr) (a2 : YAddr) : Option ((Bool × Unit)) := (T_l_FnExactBetween a0 a1 a2).val
def T_l_szIntS (a0 : (List YI) × Unit) (a1 : YI) : Tree ((YI)) :=
  .br (decide ((IntKind.i64.wrap (a1.1 - (a0.1.length : Int))) < (0 : Int))) (
   .leaf ((-1 : Int), ())) (
   .leaf ((IntKind.i64.wrap (a1.1 - (a0.1.length : Int))), ()))
def V_l_szIntS (a0 : (List YI) × Unit) (a1 : YI) : Option ((YI)) := (T_l_szIntS a0 a1).val
def T_l_szWin (a0 : YWin) (a1 : YI) : Tree ((YI)) :=
  .ob (V_l_szIntS (a0.2.1, ()) a1) fun r1 =>
  .br (decide (r1.1 < (0 : Int))) (
   .leaf ((-1 : Int), ())) (
   .leaf r1)
def V_l_szWin (a0 : YWin) (a1 : YI) : Option ((YI)) := (T_l_szWin a0 a1).val
def T_l_szEp (a0 : YEp) (a1 : YI) : Tree ((YI)) :=
  .ob (V_l_szByteS (a0.2.1, ()) a1) fun r1 =>
  .br (decide (r1.1 < (0 : Int))) (
   .leaf ((-1 : Int), ())) (
   .ob (V_l_szWin (a0.2.2.2.1, a0.2.2.2.2.1, ()) r1) fun r2 =>
   .br (decide (r2.1 < (0 : Int))) (
    .leaf ((-1 : Int), ())) (
    .leaf r2))
def V_l_szEp (a0 : YEp) (a1 : YI) : Option ((YI)) := (T_l_szEp a0 a1).val
def T_l_szChan (a0 : YChan) (a1 : YI) : Tree ((YI)) :=
  .ob (V_l_szByteS (a0.2.1, ()) a1) fun r1 =>
  .br (decide (r1.1 < (0 : Int))) (
   .leaf ((-1 : Int), ())) (
   .ob (V_l_szEp (a0.2.2.1, a0.2.2.2.1, a0.2.2.2.2.1, a0.2.2.2.2.2.1, a0.2.2.2.2.2.2.1, ()) r1) fun r2 =>
   .br (decide (r2.1 < (0 : Int))) (
    .leaf ((-1 : Int), ())) (
    .ob (V_l_szEp (a0.2.2.2.2.2.2.2.1, a0.2.2.2.2.2.2.2.2.1, a0.2.2.2.2.2.2.2.2.2.1, a0.2.2.2.2.2.2.2.2.2.2.1, a0.2.2.2.2.2.2.2.2.2.2.2.1, ()) r2) fun r3 =>
    .br (decide (r3.1 < (0 : Int))) (
     .leaf ((-1 : Int), ())) (
     .ob (V_l_szByteS (a0.2.2.2.2.2.2.2.2.2.2.2.2.2.2.1, ()) r3) fun r4 =>
     .br (decide (r4.1 < (0 : Int))) (
      .leaf ((-1 : Int), ())) (
      .leaf r4))))
def V_l_szChan (a0 : YChan) (a1 : YI) : Option ((YI)) := (T_l_szChan a0 a1).val
def T_l_szCand (a0 : YCand) (a1 : YI) : Tree ((YI)) :=
  .ob (V_l_szByteS (a0.2.2.1, ()) a1) fun r1 =>
  .br (decide (r1.1 < (0 : Int))) (
   .leaf ((-1 : Int), ())) (
   .leaf r1)
def V_l_szCand (a0 : YCand) (a1 : YI) : Option ((YI)) := (T_l_szCand a0 a1).val
def B_l_szCandS_5 (x1 : (List YCand) × Int × Int × Unit) : Option (((List YCand) × Int × Int × Unit) ⊕ ((YI) ⊕ (YI))) :=
  Tree.val (α := ((List YCand) × Int × Int × Unit) ⊕ ((YI) ⊕ (YI))) <|
  .br (decide (x1.2.2.1 < (x1.1.length : Int))) (
   .ob (idx x1.1 x1.2.2.1) fun e2 =>
   .ob (V_l_szCand e2 (x1.2.1, ())) fun r3 =>
   .br (decide (r3.1 < (0 : Int))) (
    .leaf (.inr (.inl ((-1 : Int), ())))) (
    .leaf (.inl (x1.1, r3.1, (IntKind.i64.wrap (x1.2.2.1 + (1 : Int))), ())))) (
   .leaf (.inr (.inr (x1.2.1, ()))))
def T_l_szCandS (a0 : (List YCand) × Unit) (a1 : YI) : Tree ((YI)) :=
  .br (decide ((IntKind.i64.wrap (a1.1 - (a0.1.length : Int))) < (0 : Int))) (
   .leaf ((-1 : Int), ())) (
   .ob (iterO B_l_szCandS_5 (a0.1, (IntKind.i64.wrap (a1.1 - (a0.1.length : Int))), (0 : Int), ())) fun o4 =>
   .sm o4 (fun o5 =>
    .leaf o5) (fun o6 =>
    .leaf o6))
def V_l_szCandS (a0 : (List YCand) × Unit) (a1 : YI) : Option ((YI)) := (T_l_szCandS a0 a1).val
def T_l_szPaths (a0 : YPaths) (a1 : YI) : Tree ((YI)) :=
  .ob (V_l_szCandS (a0.2.2.1, ()) a1) fun r1 =>
  .br (decide (r1.1 < (0 : Int))) (
   .leaf ((-1 : Int), ())) (
   .leaf r1)
def V_l_szPaths (a0 : YPaths) (a1 : YI) : Option ((YI)) := (T_l_szPaths a0 a1).val
def T_l_szSess (a0 : YSess) (a1 : YI) : Tree ((YI)) :=
  .ob (V_l_szByteS (a0.2.1, ()) a1) fun r1 =>
  .br (decide (r1.1 < (0 : Int))) (
   .leaf ((-1 : Int), ())) (
   .ob (V_l_szByteS (a0.2.2.1, ()) r1) fun r2 =>
   .br (decide (r2.1 < (0 : Int))) (
    .leaf ((-1 : Int), ())) (
    .ob (V_l_szChan (a0.2.2.2.1, a0.2.2.2.2.1, a0.2.2.2.2.2.1, a0.2.2.2.2.2.2.1, a0.2.2.2.2.2.2.2.1, a0.2.2.2.2.2.2.2.2.1, a0.2.2.2.2.2.2.2.2.2.1, a0.2.2.2.2.2.2.2.2.2.2.1, a0.2.2.2.2.2.2.2.2.2.2.2.1, a0.2.2.2.2.2.2.2.2.2.2.2.2.1, a0.2.2.2.2.2.2.2.2.2.2.2.2.2.1, a0.2.2.2.2.2.2.2.2.2.2.2.2.2.2.1, a0.2.2.2.2.2.2.2.2.2.2.2.2.2.2.2.1, a0.2.2.2.2.2.2.2.2.2.2.2.2.2.2.2.2.1, a0.2.2.2.2.2.2.2.2.2.2.2.2.2.2.2.2.2.1, ()) r2) fun r3 =>
    .br (decide (r3.1 < (0 : Int))) (
     .leaf ((-1 : Int), ())) (
     .ob (V_l_szPaths (a0.2.2.2.2.2.2.2.2.2.2.2.2.2.2.2.2.2.2.1, a0.2.2.2.2.2.2.2.2.2.2.2.2.2.2.2.2.2.2.2.1, a0.2.2.2.2.2.2.2.2.2.2.2.2.2.2.2.2.2.2.2.2.1, ()) r3) fun r4 =>
     .br (decide (r4.1 < (0 : Int))) (
      .leaf ((-1 : Int), ())) (
      .leaf r4))))
def V_l_szSess (a0 : YSess) (a1 : YI) : Option ((YI)) := (T_l_szSess a0 a1).val
def B_l_toIntS_3 (x1 : (List YI) × (List YI) × Int × Unit) : Option (((List YI) × (List YI) × Int × Unit) ⊕ (((List YI) × Unit))) :=
  Tree.val (α := ((List YI) × (List YI) × Int × Unit) ⊕ (((List YI) × Unit))) <|
  .br (decide (x1.2.2.1 < (x1.1.length : Int))) (
   .ob (idx x1.1 x1.2.2.1) fun e2 =>
   .ob (idx x1.2.1 x1.2.2.1) fun e3 =>
   let q4 := (x1.2.1.set (x1.2.2.1).toNat e2)
   .leaf (.inl (x1.1, q4, (IntKind.i64.wrap (x1.2.2.1 + (1 : Int))), ()))) (
   .leaf (.inr (x1.2.1, ())))
def T_l_toIntS (a0 : (List YI) × Unit) : Tree (((List YI) × Unit)) :=
  .chk (decide ((0 : Int) ≤ (a0.1.length : Int))) <|
  .chk (decide ((a0.1.length : Int) ≤ (4294967296 : Int))) <|
  .chk (decide ((a0.1.length : Int) = (a0.1.length : Int))) <|
  .ob (iterO B_l_toIntS_3 (a0.1, (List.replicate ((a0.1.length : Int)).toNat ((0 : Int), ())), (0 : Int), ())) fun o5 =>
  .leaf o5
def V_l_toIntS (a0 : (List YI) × Unit) : Option (((List YI) × Unit)) := (T_l_toIntS a0).val
def T_l_toWin (a0 : YWin) : Tree ((YWin)) :=
  .ob (V_l_toIntS (a0.2.1, ())) fun r1 =>
  .leaf (a0.1, r1.1, ())
def V_l_toWin (a0 : YWin) : Option ((YWin)) := (T_l_toWin a0).val
def T_l_toEp (a0 : YEp) : Tree ((YEp)) :=
  .ob (V_l_toByteS (a0.2.1, ())) fun r1 =>
  .ob (V_l_toWin (a0.2.2.2.1, a0.2.2.2.2.1, ())) fun r2 =>
  .leaf (a0.1, r1.1, a0.2.2.1, r2.1, r2.2.1, ())
def V_l_toEp (a0 : YEp) : Option ((YEp)) := (T_l_toEp a0).val
def T_l_toChan (a0 : YChan) : Tree ((YChan)) :=
  .ob (V_l_toByteS (a0.2.1, ())) fun r1 =>
  .ob (V_l_toEp (a0.2.2.1, a0.2.2.2.1, a0.2.2.2.2.1, a0.2.2.2.2.2.1, a0.2.2.2.2.2.2.1, ())) fun r2 =>
  .ob (V_l_toEp (a0.2.2.2.2.2.2.2.1, a0.2.2.2.2.2.2.2.2.1, a0.2.2.2.2.2.2.2.2.2.1, a0.2.2.2.2.2.2.2.2.2.2.1, a0.2.2.2.2.2.2.2.2.2.2.2.1, ())) fun r3 =>
  .ob (V_l_toByteS (a0.2.2.2.2.2.2.2.2.2.2.2.2.2.2.1, ())) fun r4 =>
  .leaf (a0.1, r1.1, r2.1, r2.2.1, r2.2.2.1, r2.2.2.2.1, r2.2.2.2.2.1, r3.1, r3.2.1, r3.2.2.1, r3.2.2.2.1, r3.2.2.2.2.1, a0.2.2.2.2.2.2.2.2.2.2.2.2.1, a0.2.2.2.2.2.2.2.2.2.2.2.2.2.1, r4.1, ())
def V_l_toChan (a0 : YChan) : Option ((YChan)) := (T_l_toChan a0).val
def T_l_toCand (a0 : YCand) : Tree ((YCand)) :=
  .ob (V_l_toAddr (a0.1, a0.2.1, ())) fun r1 =>
  .ob (V_l_toByteS (a0.2.2.1, ())) fun r2 =>
  .leaf (r1.1, r1.2.1, r2.1, a0.2.2.2.1, ())
def V_l_toCand (a0 : YCand) : Option ((YCand)) := (T_l_toCand a0).val
def B_l_toCandS_3 (x1 : (List YCand) × (List YCand) × Int × Unit) : Option (((List YCand) × (List YCand) × Int × Unit) ⊕ (((List YCand) × Unit))) :=
  Tree.val (α := ((List YCand) × (List YCand) × Int × Unit) ⊕ (((List YCand) × Unit))) <|
  .br (decide (x1.2.2.1 < (x1.1.length : Int))) (
   .ob (idx x1.1 x1.2.2.1) fun e2 =>
   .ob (V_l_toCand e2) fun r3 =>
   .ob (idx x1.2.1 x1.2.2.1) fun e4 =>
   let q5 := (x1.2.1.set (x1.2.2.1).toNat r3)
   .leaf (.inl (x1.1, q5, (IntKind.i64.wrap (x1.2.2.1 + (1 : Int))), ()))) (
   .leaf (.inr (x1.2.1, ())))
def T_l_toCandS (a0 : (List YCand) × Unit) : Tree (((List YCand) × Unit)) :=
  .chk (decide ((0 : Int) ≤ (a0.1.length : Int))) <|
  .chk (decide ((a0.1.length : Int) ≤ (4294967296 : Int))) <|
  .chk (decide ((a0.1.length : Int) = (a0.1.length : Int))) <|
  .ob (iterO B_l_toCandS_3 (a0.1, (List.replicate ((a0.1.length : Int)).toNat ((0 : Int), (0 : Int), ([] : List YB), (0 : Int), ())), (0 : Int), ())) fun o6 =>
  .leaf o6
def V_l_toCandS (a0 : (List YCand) × Unit) : Option (((List YCand) × Unit)) := (T_l_toCandS a0).val
def T_l_toPaths (a0 : YPaths) : Tree ((YPaths)) :=
  .ob (V_l_toAddr (a0.1, a0.2.1, ())) fun r1 =>
  .ob (V_l_toCandS (a0.2.2.1, ())) fun r2 =>
  .leaf (r1.1, r1.2.1, r2.1, ())
def V_l_toPaths (a0 : YPaths) : Option ((YPaths)) := (T_l_toPaths a0).val
def T_l_toSess (a0 : YSess) : Tree ((YSess)) :=
  .ob (V_l_toByteS (a0.2.1, ())) fun r1 =>
  .ob (V_l_toByteS (a0.2.2.1, ())) fun r2 =>
  .ob (V_l_toChan (a0.2.2.2.1, a0.2.2.2.2.1, a0.2.2.2.2.2.1, a0.2.2.2.2.2.2.1, a0.2.2.2.2.2.2.2.1, a0.2.2.2.2.2.2.2.2.1, a0.2.2.2.2.2.2.2.2.2.1, a0.2.2.2.2.2.2.2.2.2.2.1, a0.2.2.2.2.2.2.2.2.2.2.2.1, a0.2.2.2.2.2.2.2.2.2.2.2.2.1, a0.2.2.2.2.2.2.2.2.2.2.2.2.2.1, a0.2.2.2.2.2.2.2.2.2.2.2.2.2.2.1, a0.2.2.2.2.2.2.2.2.2.2.2.2.2.2.2.1, a0.2.2.2.2.2.2.2.2.2.2.2.2.2.2.2.2.1, a0.2.2.2.2.2.2.2.2.2.2.2.2.2.2.2.2.2.1, ())) fun r3 =>
  .ob (V_l_toPaths (a0.2.2.2.2.2.2.2.2.2.2.2.2.2.2.2.2.2.2.1, a0.2.2.2.2.2.2.2.2.2.2.2.2.2.2.2.2.2.2.2.1, a0.2.2.2.2.2.2.2.2.2.2.2.2.2.2.2.2.2.2.2.2.1, ())) fun r4 =>
  .leaf (a0.1, r1.1, r2.1, r3.1, r3.2.1, r3.2.2.1, r3.2.2.2.1, r3.2.2.2.2.1, r3.2.2.2.2.2.1, r3.2.2.2.2.2.2.1, r3.2.2.2.2.2.2.2.1, r3.2.2.2.2.2.2.2.2.1, r3.2.2.2.2.2.2.2.2.2.1, r3.2.2.2.2.2.2.2.2.2.2.1, r3.2.2.2.2.2.2.2.2.2.2.2.1, r3.2.2.2.2.2.2.2.2.2.2.2.2.1, r3.2.2.2.2.2.2.2.2.2.2.2.2.2.1, r3.2.2.2.2.2.2.2.2.2.2.2.2.2.2.1, r4.1, r4.2.1, r4.2.2.1, a0.2.2.2.2.2.2.2.2.2.2.2.2.2.2.2.2.2.2.2.2.2.1, a0.2.2.2.2.2.2.2.2.2.2.2.2.2.2.2.2.2.2.2.2.2.2.1, a0.2.2.2.2.2.2.2.2.2.2.2.2.2.2.2.2.2.2.2.2.2.2.2.1, ())
def V_l_toSess (a0 : YSess) : Option ((YSess)) := (T_l_toSess a0).val
def T_s_l8Copy (a0 : YWin) : Tree ((YWin)) :=
  .chk (decide (([] : List YI).length + a0.2.1.length ≤ 4294967296)) <|
  .leaf (a0.1, (([] : List YI) ++ a0.2.1), ())
def V_s_l8Copy (a0 : YWin) : Option ((YWin)) := (T_s_l8Copy a0).val
def T_s_l9Copy (a0 : YEp) : Tree ((YEp)) :=
  .chk (decide (([] : List YB).length + a0.2.1.length ≤ 4294967296)) <|
  .ob (V_s_l8Copy (a0.2.2.2.1, a0.2.2.2.2.1, ())) fun r1 =>
  .leaf (a0.1, (([] : List YB) ++ a0.2.1), a0.2.2.1, r1.1, r1.2.1, ())
def V_s_l9Copy (a0 : YEp) : Option ((YEp)) := (T_s_l9Copy a0).val
def T_s_l14Ep (a0 : YEp) (a1 : Bool × Unit) : Tree ((YEp)) :=
  .br (!a1.1) (
   .chk (decide (([] : List YB).length + a0.2.1.length ≤ 4294967296)) <|
   .chk (decide (([] : List YI).length + a0.2.2.2.2.1.length ≤ 4294967296)) <|
   .leaf (a0.1, (([] : List YB) ++ a0.2.1), a0.2.2.1, a0.2.2.2.1, (([] : List YI) ++ a0.2.2.2.2.1), ())) (
   .ob (V_s_l9Copy a0) fun r1 =>
   .leaf r1)
def V_s_l14Ep (a0 : YEp) (a1 : Bool × Unit) : Option ((YEp)) := (T_s_l14Ep a0 a1).val
def T_s_l14Copy (a0 : YChan) : Tree ((YChan)) :=
  .chk (decide (([] : List YB).length + a0.2.1.length ≤ 4294967296)) <|
  .ob (V_s_l9Copy (a0.2.2.1, a0.2.2.2.1, a0.2.2.2.2.1, a0.2.2.2.2.2.1, a0.2.2.2.2.2.2.1, ())) fun r1 =>
  .ob (V_s_l14Ep (a0.2.2.2.2.2.2.2.1, a0.2.2.2.2.2.2.2.2.1, a0.2.2.2.2.2.2.2.2.2.1, a0.2.2.2.2.2.2.2.2.2.2.1, a0.2.2.2.2.2.2.2.2.2.2.2.1, ()) (a0.2.2.2.2.2.2.2.2.2.2.2.2.1, ())) fun r2 =>
  .chk (decide (([] : List YB).length + a0.2.2.2.2.2.2.2.2.2.2.2.2.2.2.1.length ≤ 4294967296)) <|
  .leaf (a0.1, (([] : List YB) ++ a0.2.1), r1.1, r1.2.1, r1.2.2.1, r1.2.2.2.1, r1.2.2.2.2.1, r2.1, r2.2.1, r2.2.2.1, r2.2.2.2.1, r2.2.2.2.2.1, a0.2.2.2.2.2.2.2.2.2.2.2.2.1, a0.2.2.2.2.2.2.2.2.2.2.2.2.2.1, (([] : List YB) ++ a0.2.2.2.2.2.2.2.2.2.2.2.2.2.2.1), ())
def V_s_l14Copy (a0 : YChan) : Option ((YChan)) := (T_s_l14Copy a0).val
def T_s_l16Cand (a0 : YCand) : Tree ((YCand)) :=
  .chk (decide (([] : List YB).length + a0.2.2.1.length ≤ 4294967296)) <|
  .leaf (a0.1, a0.2.1, (([] : List YB) ++ a0.2.2.1), a0.2.2.2.1, ())
def V_s_l16Cand (a0 : YCand) : Option ((YCand)) := (T_s_l16Cand a0).val
def B_s_l16Copy_3 (x1 : Int × Int × Int × (List YCand) × Int × Int × (List YCand) × Int × Int × (List YCand) × Unit) : Option ((Int × Int × Int × (List YCand) × Int × Int × (List YCand) × Int × Int × (List YCand) × Unit) ⊕ ((Int × Int × (List YCand) × Int × Int × (List YCand) × Unit))) :=
  Tree.val (α := (Int × Int × Int × (List YCand) × Int × Int × (List YCand) × Int × Int × (List YCand) × Unit) ⊕ ((Int × Int × (List YCand) × Int × Int × (List YCand) × Unit))) <|
  .br (decide (x1.1 < (x1.2.2.2.1.length : Int))) (
   .ob (idx x1.2.2.2.1 x1.1) fun e2 =>
   .ob (V_s_l16Cand e2) fun r3 =>
   .chk (decide (x1.2.2.2.2.2.2.2.2.2.1.length + [r3].length ≤ 4294967296)) <|
   .leaf (.inl ((IntKind.i64.wrap (x1.1 + (1 : Int))), x1.2.1, x1.2.2.1, x1.2.2.2.1, x1.2.2.2.2.1, x1.2.2.2.2.2.1, x1.2.2.2.2.2.2.1, x1.2.2.2.2.2.2.2.1, x1.2.2.2.2.2.2.2.2.1, (x1.2.2.2.2.2.2.2.2.2.1 ++ [r3]), ()))) (
   .leaf (.inr (x1.2.2.2.2.1, x1.2.2.2.2.2.1, x1.2.2.2.2.2.2.1, x1.2.2.2.2.2.2.2.1, x1.2.2.2.2.2.2.2.2.1, x1.2.2.2.2.2.2.2.2.2.1, ())))
def T_s_l16Copy (a0 : YPaths) : Tree ((YPaths)) :=
  .ob (iterO B_s_l16Copy_3 ((0 : Int), a0.1, a0.2.1, a0.2.2.1, (0 : Int), (0 : Int), ([] : List YCand), a0.1, a0.2.1, ([] : List YCand), ())) fun o4 =>
  .leaf (o4.2.2.2.1, o4.2.2.2.2.1, o4.2.2.2.2.2.1, ())
def V_s_l16Copy (a0 : YPaths) : Option ((YPaths)) := (T_s_l16Copy a0).val
def T_s_l20Copy (a0 : YSess) : Tree ((YSess)) :=
  .chk (decide (([] : List YB).length + a0.2.1.length ≤ 4294967296)) <|
  .chk (decide (([] : List YB).length + a0.2.2.1.length ≤ 4294967296)) <|
  .ob (V_s_l14Copy (a0.2.2.2.1, a0.2.2.2.2.1, a0.2.2.2.2.2.1, a0.2.2.2.2.2.2.1, a0.2.2.2.2.2.2.2.1, a0.2.2.2.2.2.2.2.2.1, a0.2.2.2.2.2.2.2.2.2.1, a0.2.2.2.2.2.2.2.2.2.2.1, a0.2.2.2.2.2.2.2.2.2.2.2.1, a0.2.2.2.2.2.2.2.2.2.2.2.2.1, a0.2.2.2.2.2.2.2.2.2.2.2.2.2.1, a0.2.2.2.2.2.2.2.2.2.2.2.2.2.2.1, a0.2.2.2.2.2.2.2.2.2.2.2.2.2.2.2.1, a0.2.2.2.2.2.2.2.2.2.2.2.2.2.2.2.2.1, a0.2.2.2.2.2.2.2.2.2.2.2.2.2.2.2.2.2.1, ())) fun r1 =>
  .ob (V_s_l16Copy (a0.2.2.2.2.2.2.2.2.2.2.2.2.2.2.2.2.2.2.1, a0.2.2.2.2.2.2.2.2.2.2.2.2.2.2.2.2.2.2.2.1, a0.2.2.2.2.2.2.2.2.2.2.2.2.2.2.2.2.2.2.2.2.1, ())) fun r2 =>
  .leaf (a0.1, (([] : List YB) ++ a0.2.1), (([] : List YB) ++ a0.2.2.1), r1.1, r1.2.1, r1.2.2.1, r1.2.2.2.1, r1.2.2.2.2.1, r1.2.2.2.2.2.1, r1.2.2.2.2.2.2.1, r1.2.2.2.2.2.2.2.1, r1.2.2.2.2.2.2.2.2.1, r1.2.2.2.2.2.2.2.2.2.1, r1.2.2.2.2.2.2.2.2.2.2.1, r1.2.2.2.2.2.2.2.2.2.2.2.1, r1.2.2.2.2.2.2.2.2.2.2.2.2.1, r1.2.2.2.2.2.2.2.2.2.2.2.2.2.1, r1.2.2.2.2.2.2.2.2.2.2.2.2.2.2.1, r2.1, r2.2.1, r2.2.2.1, a0.2.2.2.2.2.2.2.2.2.2.2.2.2.2.2.2.2.2.2.2.2.1, a0.2.2.2.2.2.2.2.2.2.2.2.2.2.2.2.2.2.2.2.2.2.2.1, a0.2.2.2.2.2.2.2.2.2.2.2.2.2.2.2.2.2.2.2.2.2.2.2.1, ())
def V_s_l20Copy (a0 : YSess) : Option ((YSess)) := (T_s_l20Copy a0).val
def T_s_l1In (a0 : YI) (a1 : YI) (a2 : YI) : Tree ((Bool × Unit)) :=
  .br (decide (a0.1 ≥ a1.1)) (
   .leaf ((decide (a0.1 ≤ a2.1)), ())) (
   .leaf (false, ()))
def V_s_l1In (a0 : YI) (a1 : YI) (a2 : YI) : Option ((Bool × Unit)) := (T_s_l1In a0 a1 a2).val
def T_s_l14None (a0 : YEp) : Tree ((Bool × Unit)) :=
  .br (a0.1 == (0 : Int)) (
   .br ((a0.2.1.length : Int) == (0 : Int)) (
    .br (a0.2.2.1 == (0 : Int)) (
     .br (a0.2.2.2.1 == (0 : Int)) (
      .leaf (((a0.2.2.2.2.1.length : Int) == (0 : Int)), ())) (
      .leaf (false, ()))) (
     .leaf (false, ()))) (
    .leaf (false, ()))) (
   .leaf (false, ()))
def V_s_l14None (a0 : YEp) : Option ((Bool × Unit)) := (T_s_l14None a0).val
def T_s_l19NoChan (a0 : YChan) : Tree ((Bool × Unit)) :=
  .br (a0.1 == (0 : Int)) (
   .br ((a0.2.1.length : Int) == (0 : Int)) (
    .ob (V_s_l14None (a0.2.2.1, a0.2.2.2.1, a0.2.2.2.2.1, a0.2.2.2.2.2.1, a0.2.2.2.2.2.2.1, ())) fun r1 =>
    .br r1.1 (
     .ob (V_s_l14None (a0.2.2.2.2.2.2.2.1, a0.2.2.2.2.2.2.2.2.1, a0.2.2.2.2.2.2.2.2.2.1, a0.2.2.2.2.2.2.2.2.2.2.1, a0.2.2.2.2.2.2.2.2.2.2.2.1, ())) fun r2 =>
     .br r2.1 (
      .br (!a0.2.2.2.2.2.2.2.2.2.2.2.2.1) (
       .br (a0.2.2.2.2.2.2.2.2.2.2.2.2.2.1 == (0 : Int)) (
        .leaf (((a0.2.2.2.2.2.2.2.2.2.2.2.2.2.2.1.length : Int) == (0 : Int)), ())) (
        .leaf (false, ()))) (
       .leaf (false, ()))) (
      .leaf (false, ()))) (
     .leaf (false, ()))) (
    .leaf (false, ()))) (
   .leaf (false, ()))
def V_s_l19NoChan (a0 : YChan) : Option ((Bool × Unit)) := (T_s_l19NoChan a0).val
def T_s_Near (a0 : YI) : Tree ((YAddr)) :=
  .ob (V_s_l1In a0 ((0 : Int), ()) ((255 : Int), ())) fun r1 =>
  .br (!r1.1) (
   .leaf ((0 : Int), (0 : Int), ())) (
   .leaf ((IntKind.i64.wrap ((167772160 : Int) + a0.1)), (IntKind.i64.wrap ((7000 : Int) + a0.1)), ()))
def V_s_Near (a0 : YI) : Option ((YAddr)) := (T_s_Near a0).val
def T_s_l8Bit (a0 : YWin) (a1 : YI) : Tree ((Bool × Unit)) :=
  .chk (decide ((0 : Int) ≤ a1.1)) <|
  .chk (decide ((0 : Int) ≤ (a1.1 % (1024 : Int)))) <|
  .ob (idx a0.2.1 ((a1.1 % (1024 : Int)) / (32 : Int))) fun e1 =>
  .chk (decide ((0 : Int) ≤ (a1.1 % (1024 : Int)))) <|
  .chk (decide ((0 : Int) ≤ ((a1.1 % (1024 : Int)) % (32 : Int)))) <|
  .leaf (((IntKind.i64.wrap ((BitVec.ofInt (IntKind.i64.bits) ((Int.fdiv e1.1 (2 ^ (min (((a1.1 % (1024 : Int)) % (32 : Int))).toNat IntKind.i64.bits)))) &&& BitVec.ofInt (IntKind.i64.bits) ((1 : Int))).toNat : Nat)) == (1 : Int)), ())
def V_s_l8Bit (a0 : YWin) (a1 : YI) : Option ((Bool × Unit)) := (T_s_l8Bit a0 a1).val
def B_s_WinOk_4 (x2 : Int × Int × (List YI) × Unit) : Option ((Int × Int × (List YI) × Unit) ⊕ ((Bool × Unit) ⊕ (YWin))) :=
  Tree.val (α := (Int × Int × (List YI) × Unit) ⊕ ((Bool × Unit) ⊕ (YWin))) <|
  .br (decide (x2.1 < (32 : Int))) (
   .ob (idx x2.2.2.1 x2.1) fun e3 =>
   .ob (V_s_l1In e3 ((0 : Int), ()) ((4294967295 : Int), ())) fun r4 =>
   .br (!r4.1) (
    .leaf (.inr (.inl (false, ())))) (
    .leaf (.inl ((IntKind.i64.wrap (x2.1 + (1 : Int))), x2.2.1, x2.2.2.1, ())))) (
   .leaf (.inr (.inr (x2.2.1, x2.2.2.1, ()))))
def B_s_WinOk_11 (x9 : Int × Int × (List YI) × Unit) : Option ((Int × Int × (List YI) × Unit) ⊕ ((Bool × Unit) ⊕ (Unit))) :=
  Tree.val (α := (Int × Int × (List YI) × Unit) ⊕ ((Bool × Unit) ⊕ (Unit))) <|
  .br (decide (x9.1 < (1024 : Int))) (
   .ob (V_s_l8Bit (x9.2.1, x9.2.2.1, ()) (x9.1, ())) fun r10 =>
   .br r10.1 (
    .leaf (.inr (.inl (false, ())))) (
    .leaf (.inl ((IntKind.i64.wrap (x9.1 + (1 : Int))), x9.2.1, x9.2.2.1, ())))) (
   .leaf (.inr (.inr ())))
def T_s_WinOk (a0 : YWin) : Tree ((Bool × Unit)) :=
  .br ((a0.2.1.length : Int) != (32 : Int)) (
   .leaf (false, ())) (
   .ob (V_s_l1In (a0.1, ()) ((-1 : Int), ()) ((281474976710655 : Int), ())) fun r1 =>
   .br (!r1.1) (
    .leaf (false, ())) (
    .ob (iterO B_s_WinOk_4 ((0 : Int), a0.1, a0.2.1, ())) fun o5 =>
    .sm o5 (fun o6 =>
     .leaf o6) (fun o7 =>
     .br (decide (o7.1 ≥ (0 : Int))) (
      .ob (V_s_l8Bit o7 (o7.1, ())) fun r8 =>
      .br (!r8.1) (
       .leaf (false, ())) (
       .ob (iterO B_s_WinOk_11 ((IntKind.i64.wrap (o7.1 + (1 : Int))), o7.1, o7.2.1, ())) fun o11 =>
       .sm o11 (fun o12 =>
        .leaf o12) (fun o13 =>
        .leaf (true, ())))) (
      .ob (iterO B_s_WinOk_11 ((IntKind.i64.wrap (o7.1 + (1 : Int))), o7.1, o7.2.1, ())) fun o14 =>
      .sm o14 (fun o15 =>
       .leaf o15) (fun o16 =>
       .leaf (true, ()))))))
def V_s_WinOk (a0 : YWin) : Option ((Bool × Unit)) := (T_s_WinOk a0).val
def T_s_EpOk (a0 : YEp) : Tree ((Bool × Unit)) :=
  .ob (V_s_l1In (a0.1, ()) ((0 : Int), ()) ((4294967295 : Int), ())) fun r1 =>
  .br r1.1 (
   .br ((a0.2.1.length : Int) == (32 : Int)) (
    .ob (V_s_l1In (a0.2.2.1, ()) ((0 : Int), ()) ((281474976710656 : Int), ())) fun r2 =>
    .br r2.1 (
     .ob (V_s_WinOk (a0.2.2.2.1, a0.2.2.2.2.1, ())) fun r3 =>
     .leaf r3) (
     .leaf (false, ()))) (
    .leaf (false, ()))) (
   .leaf (false, ()))
def V_s_EpOk (a0 : YEp) : Option ((Bool × Unit)) := (T_s_EpOk a0).val
def T_s_ChanOk (a0 : YChan) : Tree ((Bool × Unit)) :=
  .ob (V_s_l1In (a0.1, ()) ((0 : Int), ()) ((1 : Int), ())) fun r1 =>
  .br (!r1.1) (
   .leaf (false, ())) (
   .br ((a0.2.1.length : Int) != (12 : Int)) (
    .leaf (false, ())) (
    .ob (V_s_EpOk (a0.2.2.1, a0.2.2.2.1, a0.2.2.2.2.1, a0.2.2.2.2.2.1, a0.2.2.2.2.2.2.1, ())) fun r2 =>
    .br (!r2.1) (
     .leaf (false, ())) (
     .br a0.2.2.2.2.2.2.2.2.2.2.2.2.1 (
      .br (a0.1 == (0 : Int)) (
       .ob (V_s_EpOk (a0.2.2.2.2.2.2.2.1, a0.2.2.2.2.2.2.2.2.1, a0.2.2.2.2.2.2.2.2.2.1, a0.2.2.2.2.2.2.2.2.2.2.1, a0.2.2.2.2.2.2.2.2.2.2.2.1, ())) fun r3 =>
       .br (!r3.1) (
        .leaf (false, ())) (
        .br (a0.2.2.2.2.2.2.2.1 != (IntKind.i64.wrap (a0.2.2.1 - (1 : Int)))) (
         .leaf (false, ())) (
         .ob (V_s_l1In (a0.2.2.2.2.2.2.2.2.2.2.2.2.2.1, ()) ((0 : Int), ()) ((1000005 : Int), ())) fun r4 =>
         .br (!r4.1) (
          .leaf (false, ())) (
          .br ((a0.2.2.2.2.2.2.2.2.2.2.2.2.2.2.1.length : Int) == (0 : Int)) (
           .leaf (true, ())) (
           .br (a0.1 == (0 : Int)) (
            .br ((a0.2.2.2.2.2.2.2.2.2.2.2.2.2.2.1.length : Int) == (32 : Int)) (
             .leaf ((decide (a0.2.2.1 < (4294967295 : Int))), ())) (
             .leaf (false, ()))) (
            .leaf (false, ()))))))) (
       .ob (V_s_EpOk (a0.2.2.2.2.2.2.2.1, a0.2.2.2.2.2.2.2.2.1, a0.2.2.2.2.2.2.2.2.2.1, a0.2.2.2.2.2.2.2.2.2.2.1, a0.2.2.2.2.2.2.2.2.2.2.2.1, ())) fun r5 =>
       .br (!r5.1) (
        .leaf (false, ())) (
        .br (a0.2.2.2.2.2.2.2.1 != (IntKind.i64.wrap (a0.2.2.1 - (1 : Int)))) (
         .leaf (false, ())) (
         .ob (V_s_l1In (a0.2.2.2.2.2.2.2.2.2.2.2.2.2.1, ()) ((-1 : Int), ()) ((1000005 : Int), ())) fun r6 =>
         .br (!r6.1) (
          .leaf (false, ())) (
          .br ((a0.2.2.2.2.2.2.2.2.2.2.2.2.2.2.1.length : Int) == (0 : Int)) (
           .leaf (true, ())) (
           .br (a0.1 == (0 : Int)) (
            .br ((a0.2.2.2.2.2.2.2.2.2.2.2.2.2.2.1.length : Int) == (32 : Int)) (
             .leaf ((decide (a0.2.2.1 < (4294967295 : Int))), ())) (
             .leaf (false, ()))) (
            .leaf (false, ())))))))) (
      .ob (V_s_l14None (a0.2.2.2.2.2.2.2.1, a0.2.2.2.2.2.2.2.2.1, a0.2.2.2.2.2.2.2.2.2.1, a0.2.2.2.2.2.2.2.2.2.2.1, a0.2.2.2.2.2.2.2.2.2.2.2.1, ())) fun r7 =>
      .br (!r7.1) (
       .leaf (false, ())) (
       .br (a0.2.2.2.2.2.2.2.2.2.2.2.2.2.1 != (0 : Int)) (
        .leaf (false, ())) (
        .br ((a0.2.2.2.2.2.2.2.2.2.2.2.2.2.2.1.length : Int) == (0 : Int)) (
         .leaf (true, ())) (
         .br (a0.1 == (0 : Int)) (
          .br ((a0.2.2.2.2.2.2.2.2.2.2.2.2.2.2.1.length : Int) == (32 : Int)) (
           .leaf ((decide (a0.2.2.1 < (4294967295 : Int))), ())) (
           .leaf (false, ()))) (
          .leaf (false, ())))))))))
def V_s_ChanOk (a0 : YChan) : Option ((Bool × Unit)) := (T_s_ChanOk a0).val
def T_s_l1Same (a0 : YBs) (a1 : YBs) : Tree ((Bool × Unit)) :=
  .leaf ((decide ((bstr a0.1) = (bstr a1.1))), ())
def V_s_l1Same (a0 : YBs) (a1 : YBs) : Option ((Bool × Unit)) := (T_s_l1Same a0 a1).val
def T_s_AddrOk (a0 : YAddr) : Tree ((Bool × Unit)) :=
  .ob (V_s_l1In (a0.1, ()) ((0 : Int), ()) ((4294967295 : Int), ())) fun r1 =>
  .br r1.1 (
   .ob (V_s_l1In (a0.2.1, ()) ((0 : Int), ()) ((65535 : Int), ())) fun r2 =>
   .leaf r2) (
   .leaf (false, ()))
def V_s_AddrOk (a0 : YAddr) : Option ((Bool × Unit)) := (T_s_AddrOk a0).val
def B_s_PathsOk_10 (x6 : Int × Int × Int × Int × (List YCand) × Int × Int × (List YB) × Int × Unit) : Option ((Int × Int × Int × Int × (List YCand) × Int × Int × (List YB) × Int × Unit) ⊕ ((Bool × Unit) ⊕ (Int × Int × Int × (List YCand) × Unit))) :=
  Tree.val (α := (Int × Int × Int × Int × (List YCand) × Int × Int × (List YB) × Int × Unit) ⊕ ((Bool × Unit) ⊕ (Int × Int × Int × (List YCand) × Unit))) <|
  .br (decide (x6.2.1 < x6.1)) (
   .ob (idx x6.2.2.2.2.1 x6.2.1) fun e7 =>
   .br (and (e7.1 == x6.2.2.2.2.2.1) (and (e7.2.1 == x6.2.2.2.2.2.2.1) true)) (
    .leaf (.inr (.inl (false, ())))) (
    .leaf (.inl (x6.1, (IntKind.i64.wrap (x6.2.1 + (1 : Int))), x6.2.2.1, x6.2.2.2.1, x6.2.2.2.2.1, x6.2.2.2.2.2.1, x6.2.2.2.2.2.2.1, x6.2.2.2.2.2.2.2.1, x6.2.2.2.2.2.2.2.2.1, ())))) (
   .leaf (.inr (.inr (x6.1, x6.2.2.1, x6.2.2.2.1, x6.2.2.2.2.1, ()))))
def B_s_PathsOk_4 (x2 : Int × Int × Int × (List YCand) × Unit) : Option ((Int × Int × Int × (List YCand) × Unit) ⊕ ((Bool × Unit) ⊕ (Unit))) :=
  Tree.val (α := (Int × Int × Int × (List YCand) × Unit) ⊕ ((Bool × Unit) ⊕ (Unit))) <|
  .br (decide (x2.1 < (x2.2.2.2.1.length : Int))) (
   .ob (idx x2.2.2.2.1 x2.1) fun e3 =>
   .ob (V_s_AddrOk (e3.1, e3.2.1, ())) fun r4 =>
   .br (!r4.1) (
    .leaf (.inr (.inl (false, ())))) (
    .br ((e3.2.2.1.length : Int) != (12 : Int)) (
     .leaf (.inr (.inl (false, ())))) (
     .ob (V_s_l1In (e3.2.2.2.1, ()) ((0 : Int), ()) ((1000006 : Int), ())) fun r5 =>
     .br (!r5.1) (
      .leaf (.inr (.inl (false, ())))) (
      .br (and (e3.1 == x2.2.1) (and (e3.2.1 == x2.2.2.1) true)) (
       .leaf (.inr (.inl (false, ())))) (
       .ob (iterO B_s_PathsOk_10 (x2.1, (0 : Int), x2.2.1, x2.2.2.1, x2.2.2.2.1, e3.1, e3.2.1, e3.2.2.1, e3.2.2.2.1, ())) fun o8 =>
       .sm o8 (fun o9 =>
        .leaf (.inr (.inl o9))) (fun o10 =>
        .leaf (.inl ((IntKind.i64.wrap (o10.1 + (1 : Int))), o10.2.1, o10.2.2.1, o10.2.2.2.1, ())))))))) (
   .leaf (.inr (.inr ())))
def T_s_PathsOk (a0 : YPaths) : Tree ((Bool × Unit)) :=
  .ob (V_s_AddrOk (a0.1, a0.2.1, ())) fun r1 =>
  .br (!r1.1) (
   .leaf (false, ())) (
   .br (decide ((a0.2.2.1.length : Int) > (3 : Int))) (
    .leaf (false, ())) (
    .ob (iterO B_s_PathsOk_4 ((0 : Int), a0.1, a0.2.1, a0.2.2.1, ())) fun o11 =>
    .sm o11 (fun o12 =>
     .leaf o12) (fun o13 =>
     .leaf (true, ()))))
def V_s_PathsOk (a0 : YPaths) : Option ((Bool × Unit)) := (T_s_PathsOk a0).val
def T_s_SessOk (a0 : YSess) : Tree ((Bool × Unit)) :=
  .ob (V_s_l1In (a0.1, ()) ((1 : Int), ()) ((9 : Int), ())) fun r1 =>
  .br (!r1.1) (
   .leaf (false, ())) (
   .br ((a0.2.1.length : Int) != (12 : Int)) (
    .leaf (false, ())) (
    .br ((a0.2.2.1.length : Int) != (12 : Int)) (
     .leaf (false, ())) (
     .ob (V_s_l1In (a0.2.2.2.2.2.2.2.2.2.2.2.2.2.2.2.2.2.2.2.2.2.1, ()) ((0 : Int), ()) ((1000000 : Int), ())) fun r2 =>
     .br (!r2.1) (
      .leaf (false, ())) (
      .ob (V_s_l1In (a0.2.2.2.2.2.2.2.2.2.2.2.2.2.2.2.2.2.2.2.2.2.2.1, ()) ((0 : Int), ()) ((1000000 : Int), ())) fun r3 =>
      .br (!r3.1) (
       .leaf (false, ())) (
       .br a0.2.2.2.2.2.2.2.2.2.2.2.2.2.2.2.2.2.2.2.2.2.2.2.1 (
        .ob (V_s_l19NoChan (a0.2.2.2.1, a0.2.2.2.2.1, a0.2.2.2.2.2.1, a0.2.2.2.2.2.2.1, a0.2.2.2.2.2.2.2.1, a0.2.2.2.2.2.2.2.2.1, a0.2.2.2.2.2.2.2.2.2.1, a0.2.2.2.2.2.2.2.2.2.2.1, a0.2.2.2.2.2.2.2.2.2.2.2.1, a0.2.2.2.2.2.2.2.2.2.2.2.2.1, a0.2.2.2.2.2.2.2.2.2.2.2.2.2.1, a0.2.2.2.2.2.2.2.2.2.2.2.2.2.2.1, a0.2.2.2.2.2.2.2.2.2.2.2.2.2.2.2.1, a0.2.2.2.2.2.2.2.2.2.2.2.2.2.2.2.2.1, a0.2.2.2.2.2.2.2.2.2.2.2.2.2.2.2.2.2.1, ())) fun r4 =>
        .br r4.1 (
         .ob (V_s_Near ((-1 : Int), ())) fun r5 =>
         .br (and (a0.2.2.2.2.2.2.2.2.2.2.2.2.2.2.2.2.2.2.1 == r5.1) (and (a0.2.2.2.2.2.2.2.2.2.2.2.2.2.2.2.2.2.2.2.1 == r5.2.1) true)) (
          .br ((a0.2.2.2.2.2.2.2.2.2.2.2.2.2.2.2.2.2.2.2.2.1.length : Int) == (0 : Int)) (
           .leaf ((a0.2.2.2.2.2.2.2.2.2.2.2.2.2.2.2.2.2.2.2.2.2.2.1 == (0 : Int)), ())) (
           .leaf (false, ()))) (
          .leaf (false, ()))) (
         .leaf (false, ()))) (
        .ob (V_s_ChanOk (a0.2.2.2.1, a0.2.2.2.2.1, a0.2.2.2.2.2.1, a0.2.2.2.2.2.2.1, a0.2.2.2.2.2.2.2.1, a0.2.2.2.2.2.2.2.2.1, a0.2.2.2.2.2.2.2.2.2.1, a0.2.2.2.2.2.2.2.2.2.2.1, a0.2.2.2.2.2.2.2.2.2.2.2.1, a0.2.2.2.2.2.2.2.2.2.2.2.2.1, a0.2.2.2.2.2.2.2.2.2.2.2.2.2.1, a0.2.2.2.2.2.2.2.2.2.2.2.2.2.2.1, a0.2.2.2.2.2.2.2.2.2.2.2.2.2.2.2.1, a0.2.2.2.2.2.2.2.2.2.2.2.2.2.2.2.2.1, a0.2.2.2.2.2.2.2.2.2.2.2.2.2.2.2.2.2.1, ())) fun r6 =>
        .br r6.1 (
         .br (a0.2.2.2.1 == (1 : Int)) (
          .ob (V_s_l1Same (a0.2.2.2.2.1, ()) (a0.2.2.1, ())) fun r7 =>
          .br r7.1 (
           .ob (V_s_PathsOk (a0.2.2.2.2.2.2.2.2.2.2.2.2.2.2.2.2.2.2.1, a0.2.2.2.2.2.2.2.2.2.2.2.2.2.2.2.2.2.2.2.1, a0.2.2.2.2.2.2.2.2.2.2.2.2.2.2.2.2.2.2.2.2.1, ())) fun r8 =>
           .leaf r8) (
           .leaf (false, ()))) (
          .leaf (false, ()))) (
         .leaf (false, ()))))))))
def V_s_SessOk (a0 : YSess) : Option ((Bool × Unit)) := (T_s_SessOk a0).val
def T_s_Bury (a0 : YSess) : Tree ((YSess)) :=
  .ob (V_s_SessOk a0) fun r1 =>
  .br (!r1.1) (
   .ob (V_s_l20Copy a0) fun r2 =>
   .leaf r2) (
   .chk (decide (([] : List YB).length + a0.2.1.length ≤ 4294967296)) <|
   .chk (decide (([] : List YB).length + a0.2.2.1.length ≤ 4294967296)) <|
   .leaf (a0.1, (([] : List YB) ++ a0.2.1), (([] : List YB) ++ a0.2.2.1), (0 : Int), ([] : List YB), (0 : Int), ([] : List YB), (0 : Int), (0 : Int), ([] : List YI), (0 : Int), ([] : List YB), (0 : Int), (0 : Int), ([] : List YI), false, (0 : Int), ([] : List YB), (0 : Int), (0 : Int), ([] : List YCand), a0.2.2.2.2.2.2.2.2.2.2.2.2.2.2.2.2.2.2.2.2.2.1, (0 : Int), true, ()))
def V_s_Bury (a0 : YSess) : Option ((YSess)) := (T_s_Bury a0).val
def T_s_ChanTick (a0 : YChan) (a1 : YI) : Tree ((YChan)) :=
  .ob (V_s_l14Copy a0) fun r1 =>
  .ob (V_s_ChanOk a0) fun r2 =>
  .br r2.1 (
   .ob (V_s_l1In a1 ((0 : Int), ()) ((1000000 : Int), ())) fun r3 =>
   .br r3.1 (
    .br a0.2.2.2.2.2.2.2.2.2.2.2.2.1 (
     .br (a0.2.2.2.2.2.2.2.2.2.2.2.2.2.1 != (-1 : Int)) (
      .br (decide (a1.1 > a0.2.2.2.2.2.2.2.2.2.2.2.2.2.1)) (
       .leaf (r1.1, r1.2.1, r1.2.2.1, r1.2.2.2.1, r1.2.2.2.2.1, r1.2.2.2.2.2.1, r1.2.2.2.2.2.2.1, (0 : Int), ([] : List YB), (0 : Int), (0 : Int), ([] : List YI), false, (0 : Int), r1.2.2.2.2.2.2.2.2.2.2.2.2.2.2.1, ())) (
       .leaf r1)) (
      .leaf r1)) (
     .leaf r1)) (
    .leaf r1)) (
   .leaf r1)
def V_s_ChanTick (a0 : YChan) (a1 : YI) : Option ((YChan)) := (T_s_ChanTick a0 a1).val
def B_s_PathTick_5 (x5 : Int × Int × Int × Int × (List YCand) × Int × Int × (List YCand) × Int × Int × (List YCand) × Unit) : Option ((Int × Int × Int × Int × (List YCand) × Int × Int × (List YCand) × Int × Int × (List YCand) × Unit) ⊕ ((Int × Int × (List YCand) × Int × Int × (List YCand) × Unit))) :=
  Tree.val (α := (Int × Int × Int × Int × (List YCand) × Int × Int × (List YCand) × Int × Int × (List YCand) × Unit) ⊕ ((Int × Int × (List YCand) × Int × Int × (List YCand) × Unit))) <|
  .br (decide (x5.2.1 < (x5.2.2.2.2.1.length : Int))) (
   .ob (idx x5.2.2.2.2.1 x5.2.1) fun e6 =>
   .br (decide (e6.2.2.2.1 ≥ x5.1)) (
    .ob (idx x5.2.2.2.2.1 x5.2.1) fun e7 =>
    .ob (V_s_l16Cand e7) fun r8 =>
    .chk (decide (x5.2.2.2.2.2.2.2.2.2.2.1.length + [r8].length ≤ 4294967296)) <|
    .leaf (.inl (x5.1, (IntKind.i64.wrap (x5.2.1 + (1 : Int))), x5.2.2.1, x5.2.2.2.1, x5.2.2.2.2.1, x5.2.2.2.2.2.1, x5.2.2.2.2.2.2.1, x5.2.2.2.2.2.2.2.1, x5.2.2.2.2.2.2.2.2.1, x5.2.2.2.2.2.2.2.2.2.1, (x5.2.2.2.2.2.2.2.2.2.2.1 ++ [r8]), ()))) (
    .leaf (.inl (x5.1, (IntKind.i64.wrap (x5.2.1 + (1 : Int))), x5.2.2.1, x5.2.2.2.1, x5.2.2.2.2.1, x5.2.2.2.2.2.1, x5.2.2.2.2.2.2.1, x5.2.2.2.2.2.2.2.1, x5.2.2.2.2.2.2.2.2.1, x5.2.2.2.2.2.2.2.2.2.1, x5.2.2.2.2.2.2.2.2.2.2.1, ())))) (
   .leaf (.inr (x5.2.2.2.2.2.1, x5.2.2.2.2.2.2.1, x5.2.2.2.2.2.2.2.1, x5.2.2.2.2.2.2.2.2.1, x5.2.2.2.2.2.2.2.2.2.1, x5.2.2.2.2.2.2.2.2.2.2.1, ())))
def T_s_PathTick (a0 : YPaths) (a1 : YI) : Tree ((YPaths)) :=
  .ob (V_s_PathsOk a0) fun r1 =>
  .br (!r1.1) (
   .ob (V_s_l16Copy a0) fun r2 =>
   .leaf r2) (
   .ob (V_s_l1In a1 ((0 : Int), ()) ((1000000 : Int), ())) fun r3 =>
   .br (!r3.1) (
    .ob (V_s_l16Copy a0) fun r4 =>
    .leaf r4) (
    .ob (iterO B_s_PathTick_5 (a1.1, (0 : Int), a0.1, a0.2.1, a0.2.2.1, (0 : Int), (0 : Int), ([] : List YCand), a0.1, a0.2.1, ([] : List YCand), ())) fun o9 =>
    .leaf (o9.2.2.2.1, o9.2.2.2.2.1, o9.2.2.2.2.2.1, ())))
def V_s_PathTick (a0 : YPaths) (a1 : YI) : Option ((YPaths)) := (T_s_PathTick a0 a1).val
def T_s_SessTick (a0 : YSess) (a1 : YI) : Tree ((YSess)) :=
  .ob (V_s_l20Copy a0) fun r1 =>
  .ob (V_s_SessOk a0) fun r2 =>
  .br (!r2.1) (
   .leaf r1) (
   .br a0.2.2.2.2.2.2.2.2.2.2.2.2.2.2.2.2.2.2.2.2.2.2.2.1 (
    .leaf r1) (
    .ob (V_s_l1In a1 ((0 : Int), ()) ((1000000 : Int), ())) fun r3 =>
    .br (!r3.1) (
     .leaf r1) (
     .br (decide ((IntKind.i64.wrap (a1.1 - a0.2.2.2.2.2.2.2.2.2.2.2.2.2.2.2.2.2.2.2.2.2.2.1)) > (60 : Int))) (
      .ob (V_s_Bury a0) fun r4 =>
      .leaf r4) (
      .ob (V_s_ChanTick (a0.2.2.2.1, a0.2.2.2.2.1, a0.2.2.2.2.2.1, a0.2.2.2.2.2.2.1, a0.2.2.2.2.2.2.2.1, a0.2.2.2.2.2.2.2.2.1, a0.2.2.2.2.2.2.2.2.2.1, a0.2.2.2.2.2.2.2.2.2.2.1, a0.2.2.2.2.2.2.2.2.2.2.2.1, a0.2.2.2.2.2.2.2.2.2.2.2.2.1, a0.2.2.2.2.2.2.2.2.2.2.2.2.2.1, a0.2.2.2.2.2.2.2.2.2.2.2.2.2.2.1, a0.2.2.2.2.2.2.2.2.2.2.2.2.2.2.2.1, a0.2.2.2.2.2.2.2.2.2.2.2.2.2.2.2.2.1, a0.2.2.2.2.2.2.2.2.2.2.2.2.2.2.2.2.2.1, ()) a1) fun r5 =>
      .ob (V_s_PathTick (a0.2.2.2.2.2.2.2.2.2.2.2.2.2.2.2.2.2.2.1, a0.2.2.2.2.2.2.2.2.2.2.2.2.2.2.2.2.2.2.2.1, a0.2.2.2.2.2.2.2.2.2.2.2.2.2.2.2.2.2.2.2.2.1, ()) a1) fun r6 =>
      .leaf (r1.1, r1.2.1, r1.2.2.1, r5.1, r5.2.1, r5.2.2.1, r5.2.2.2.1, r5.2.2.2.2.1, r5.2.2.2.2.2.1, r5.2.2.2.2.2.2.1, r5.2.2.2.2.2.2.2.1, r5.2.2.2.2.2.2.2.2.1, r5.2.2.2.2.2.2.2.2.2.1, r5.2.2.2.2.2.2.2.2.2.2.1, r5.2.2.2.2.2.2.2.2.2.2.2.1, r5.2.2.2.2.2.2.2.2.2.2.2.2.1, r5.2.2.2.2.2.2.2.2.2.2.2.2.2.1, r5.2.2.2.2.2.2.2.2.2.2.2.2.2.2.1, r6.1, r6.2.1, r6.2.2.1, r1.2.2.2.2.2.2.2.2.2.2.2.2.2.2.2.2.2.2.2.2.2.1, r1.2.2.2.2.2.2.2.2.2.2.2.2.2.2.2.2.2.2.2.2.2.2.1, r1.2.2.2.2.2.2.2.2.2.2.2.2.2.2.2.2.2.2.2.2.2.2.2.1, ())))))
def V_s_SessTick (a0 : YSess) (a1 : YI) : Option ((YSess)) := (T_s_SessTick a0 a1).val
def T_i_copyWin (a0 : YWin) : Tree ((YWin)) :=
  .chk (decide (([] : List YI).length + a0.2.1.length ≤ 4294967296)) <|
  .leaf (a0.1, (([] : List YI) ++ a0.2.1), ())
def V_i_copyWin (a0 : YWin) : Option ((YWin)) := (T_i_copyWin a0).val
def T_i_copyEp (a0 : YEp) : Tree ((YEp)) :=
  .ob (V_i_clone (a0.2.1, ())) fun r1 =>
  .ob (V_i_copyWin (a0.2.2.2.1, a0.2.2.2.2.1, ())) fun r2 =>
  .leaf (a0.1, r1.1, a0.2.2.1, r2.1, r2.2.1, ())
def V_i_copyEp (a0 : YEp) : Option ((YEp)) := (T_i_copyEp a0).val
def T_i_copyChan (a0 : YChan) : Tree ((YChan)) :=
  .ob (V_i_clone (a0.2.1, ())) fun r1 =>
  .ob (V_i_clone (a0.2.2.2.2.2.2.2.2.2.2.2.2.2.2.1, ())) fun r2 =>
  .ob (V_i_copyEp (a0.2.2.1, a0.2.2.2.1, a0.2.2.2.2.1, a0.2.2.2.2.2.1, a0.2.2.2.2.2.2.1, ())) fun r3 =>
  .ob (V_i_copyEp (a0.2.2.2.2.2.2.2.1, a0.2.2.2.2.2.2.2.2.1, a0.2.2.2.2.2.2.2.2.2.1, a0.2.2.2.2.2.2.2.2.2.2.1, a0.2.2.2.2.2.2.2.2.2.2.2.1, ())) fun r4 =>
  .leaf (a0.1, r1.1, r3.1, r3.2.1, r3.2.2.1, r3.2.2.2.1, r3.2.2.2.2.1, r4.1, r4.2.1, r4.2.2.1, r4.2.2.2.1, r4.2.2.2.2.1, a0.2.2.2.2.2.2.2.2.2.2.2.2.1, a0.2.2.2.2.2.2.2.2.2.2.2.2.2.1, r2.1, ())
def V_i_copyChan (a0 : YChan) : Option ((YChan)) := (T_i_copyChan a0).val
def B_i_copyPaths_3 (x1 : (List YCand) × Int × Int × Int × Int × (List YCand) × Int × Int × (List YCand) × Unit) : Option (((List YCand) × Int × Int × Int × Int × (List YCand) × Int × Int × (List YCand) × Unit) ⊕ ((Int × Int × (List YCand) × Int × Int × (List YCand) × Unit))) :=
  Tree.val (α := ((List YCand) × Int × Int × Int × Int × (List YCand) × Int × Int × (List YCand) × Unit) ⊕ ((Int × Int × (List YCand) × Int × Int × (List YCand) × Unit))) <|
  .br (decide (x1.2.2.1 < x1.2.1)) (
   .ob (idx x1.1 x1.2.2.1) fun e2 =>
   .ob (V_i_clone (e2.2.2.1, ())) fun r3 =>
   .chk (decide (x1.2.2.2.2.2.2.2.2.1.length + [(e2.1, e2.2.1, r3.1, e2.2.2.2.1, ())].length ≤ 4294967296)) <|
   .leaf (.inl (x1.1, x1.2.1, (IntKind.i64.wrap (x1.2.2.1 + (1 : Int))), x1.2.2.2.1, x1.2.2.2.2.1, x1.2.2.2.2.2.1, x1.2.2.2.2.2.2.1, x1.2.2.2.2.2.2.2.1, (x1.2.2.2.2.2.2.2.2.1 ++ [(e2.1, e2.2.1, r3.1, e2.2.2.2.1, ())]), ()))) (
   .leaf (.inr (x1.2.2.2.1, x1.2.2.2.2.1, x1.2.2.2.2.2.1, x1.2.2.2.2.2.2.1, x1.2.2.2.2.2.2.2.1, x1.2.2.2.2.2.2.2.2.1, ())))
def T_i_copyPaths (a0 : YPaths) : Tree ((YPaths)) :=
  .ob (iterO B_i_copyPaths_3 (a0.2.2.1, (a0.2.2.1.length : Int), (0 : Int), (0 : Int), (0 : Int), ([] : List YCand), a0.1, a0.2.1, ([] : List YCand), ())) fun o4 =>
  .leaf (o4.2.2.2.1, o4.2.2.2.2.1, o4.2.2.2.2.2.1, ())
def V_i_copyPaths (a0 : YPaths) : Option ((YPaths)) := (T_i_copyPaths a0).val
def T_i_copySess (a0 : YSess) : Tree ((YSess)) :=
  .ob (V_i_clone (a0.2.1, ())) fun r1 =>
  .ob (V_i_clone (a0.2.2.1, ())) fun r2 =>
  .ob (V_i_copyChan (a0.2.2.2.1, a0.2.2.2.2.1, a0.2.2.2.2.2.1, a0.2.2.2.2.2.2.1, a0.2.2.2.2.2.2.2.1, a0.2.2.2.2.2.2.2.2.1, a0.2.2.2.2.2.2.2.2.2.1, a0.2.2.2.2.2.2.2.2.2.2.1, a0.2.2.2.2.2.2.2.2.2.2.2.1, a0.2.2.2.2.2.2.2.2.2.2.2.2.1, a0.2.2.2.2.2.2.2.2.2.2.2.2.2.1, a0.2.2.2.2.2.2.2.2.2.2.2.2.2.2.1, a0.2.2.2.2.2.2.2.2.2.2.2.2.2.2.2.1, a0.2.2.2.2.2.2.2.2.2.2.2.2.2.2.2.2.1, a0.2.2.2.2.2.2.2.2.2.2.2.2.2.2.2.2.2.1, ())) fun r3 =>
  .ob (V_i_copyPaths (a0.2.2.2.2.2.2.2.2.2.2.2.2.2.2.2.2.2.2.1, a0.2.2.2.2.2.2.2.2.2.2.2.2.2.2.2.2.2.2.2.1, a0.2.2.2.2.2.2.2.2.2.2.2.2.2.2.2.2.2.2.2.2.1, ())) fun r4 =>
  .leaf (a0.1, r1.1, r2.1, r3.1, r3.2.1, r3.2.2.1, r3.2.2.2.1, r3.2.2.2.2.1, r3.2.2.2.2.2.1, r3.2.2.2.2.2.2.1, r3.2.2.2.2.2.2.2.1, r3.2.2.2.2.2.2.2.2.1, r3.2.2.2.2.2.2.2.2.2.1, r3.2.2.2.2.2.2.2.2.2.2.1, r3.2.2.2.2.2.2.2.2.2.2.2.1, r3.2.2.2.2.2.2.2.2.2.2.2.2.1, r3.2.2.2.2.2.2.2.2.2.2.2.2.2.1, r3.2.2.2.2.2.2.2.2.2.2.2.2.2.2.1, r4.1, r4.2.1, r4.2.2.1, a0.2.2.2.2.2.2.2.2.2.2.2.2.2.2.2.2.2.2.2.2.2.1, a0.2.2.2.2.2.2.2.2.2.2.2.2.2.2.2.2.2.2.2.2.2.2.1, a0.2.2.2.2.2.2.2.2.2.2.2.2.2.2.2.2.2.2.2.2.2.2.2.1, ())
def V_i_copySess (a0 : YSess) : Option ((YSess)) := (T_i_copySess a0).val
def T_i_within (a0 : YI) (a1 : YI) (a2 : YI) : Tree ((Bool × Unit)) :=
  .br (decide (a0.1 ≥ a1.1)) (
   .leaf ((decide (a0.1 ≤ a2.1)), ())) (
   .leaf (false, ()))
def V_i_within (a0 : YI) (a1 : YI) (a2 : YI) : Option ((Bool × Unit)) := (T_i_within a0 a1 a2).val
def T_i_isNonce (a0 : YBs) : Tree ((Bool × Unit)) :=
  .leaf (((a0.1.length : Int) == (12 : Int)), ())
def V_i_isNonce (a0 : YBs) : Option ((Bool × Unit)) := (T_i_isNonce a0).val
def T_bytes_Equal (a0 : YBs) (a1 : YBs) : Tree ((Bool × Unit)) :=
  .leaf ((decide ((bstr a0.1) = (bstr a1.1))), ())
def V_bytes_Equal (a0 : YBs) (a1 : YBs) : Option ((Bool × Unit)) := (T_bytes_Equal a0 a1).val
def B_i_sameInts_4 (x1 : (List YI) × (List YI) × Int × Int × Unit) : Option (((List YI) × (List YI) × Int × Int × Unit) ⊕ ((Bool × Unit) ⊕ (Unit))) :=
  Tree.val (α := ((List YI) × (List YI) × Int × Int × Unit) ⊕ ((Bool × Unit) ⊕ (Unit))) <|
  .br (decide (x1.2.2.2.1 < x1.2.2.1)) (
   .ob (idx x1.2.1 x1.2.2.2.1) fun e2 =>
   .ob (idx x1.1 x1.2.2.2.1) fun e3 =>
   .br (e2.1 != e3.1) (
    .leaf (.inr (.inl (false, ())))) (
    .leaf (.inl (x1.1, x1.2.1, x1.2.2.1, (IntKind.i64.wrap (x1.2.2.2.1 + (1 : Int))), ())))) (
   .leaf (.inr (.inr ())))
def T_i_sameInts (a0 : (List YI) × Unit) (a1 : (List YI) × Unit) : Tree ((Bool × Unit)) :=
  .br ((a0.1.length : Int) != (a1.1.length : Int)) (
   .leaf (false, ())) (
   .ob (iterO B_i_sameInts_4 (a1.1, a0.1, (a0.1.length : Int), (0 : Int), ())) fun o4 =>
   .sm o4 (fun o5 =>
    .leaf o5) (fun o6 =>
    .leaf (true, ())))
def V_i_sameInts (a0 : (List YI) × Unit) (a1 : (List YI) × Unit) : Option ((Bool × Unit)) := (T_i_sameInts a0 a1).val
def T_i_sameEp (a0 : YEp) (a1 : YEp) : Tree ((Bool × Unit)) :=
  .br (a0.1 == a1.1) (
   .ob (V_bytes_Equal (a0.2.1, ()) (a1.2.1, ())) fun r1 =>
   .br r1.1 (
    .br (a0.2.2.1 == a1.2.2.1) (
     .br (a0.2.2.2.1 == a1.2.2.2.1) (
      .ob (V_i_sameInts (a0.2.2.2.2.1, ()) (a1.2.2.2.2.1, ())) fun r2 =>
      .leaf r2) (
      .leaf (false, ()))) (
     .leaf (false, ()))) (
    .leaf (false, ()))) (
   .leaf (false, ()))
def V_i_sameEp (a0 : YEp) (a1 : YEp) : Option ((Bool × Unit)) := (T_i_sameEp a0 a1).val
def T_i_isZeroChan (a0 : YChan) : Tree ((Bool × Unit)) :=
  .br (a0.1 == (0 : Int)) (
   .br ((a0.2.1.length : Int) == (0 : Int)) (
    .ob (V_i_sameEp (a0.2.2.1, a0.2.2.2.1, a0.2.2.2.2.1, a0.2.2.2.2.2.1, a0.2.2.2.2.2.2.1, ()) ((0 : Int), ([] : List YB), (0 : Int), (0 : Int), ([] : List YI), ())) fun r1 =>
    .br r1.1 (
     .ob (V_i_sameEp (a0.2.2.2.2.2.2.2.1, a0.2.2.2.2.2.2.2.2.1, a0.2.2.2.2.2.2.2.2.2.1, a0.2.2.2.2.2.2.2.2.2.2.1, a0.2.2.2.2.2.2.2.2.2.2.2.1, ()) ((0 : Int), ([] : List YB), (0 : Int), (0 : Int), ([] : List YI), ())) fun r2 =>
     .br r2.1 (
      .br (!a0.2.2.2.2.2.2.2.2.2.2.2.2.1) (
       .br (a0.2.2.2.2.2.2.2.2.2.2.2.2.2.1 == (0 : Int)) (
        .leaf (((a0.2.2.2.2.2.2.2.2.2.2.2.2.2.2.1.length : Int) == (0 : Int)), ())) (
        .leaf (false, ()))) (
       .leaf (false, ()))) (
      .leaf (false, ()))) (
     .leaf (false, ()))) (
    .leaf (false, ()))) (
   .leaf (false, ()))
def V_i_isZeroChan (a0 : YChan) : Option ((Bool × Unit)) := (T_i_isZeroChan a0).val
def T_i_isRole (a0 : YI) : Tree ((Bool × Unit)) :=
  .br (a0.1 == (0 : Int)) (
   .leaf (true, ())) (
   .leaf ((a0.1 == (1 : Int)), ()))
def V_i_isRole (a0 : YI) : Option ((Bool × Unit)) := (T_i_isRole a0).val
def B_i_areWords_2 (x1 : (List YI) × Int × (List YI) × Int × Int × Unit) : Option (((List YI) × Int × (List YI) × Int × Int × Unit) ⊕ ((Bool × Unit) ⊕ ((List YI) × Int × Unit))) :=
  Tree.val (α := ((List YI) × Int × (List YI) × Int × Int × Unit) ⊕ ((Bool × Unit) ⊕ ((List YI) × Int × Unit))) <|
  .br (decide (x1.2.2.2.2.1 < x1.2.2.2.1)) (
   .ob (idx x1.2.2.1 x1.2.2.2.2.1) fun e2 =>
   .ob (V_i_within e2 ((0 : Int), ()) ((4294967295 : Int), ())) fun r3 =>
   .br (!r3.1) (
    .leaf (.inr (.inl (false, ())))) (
    .leaf (.inl (x1.1, x1.2.1, x1.2.2.1, x1.2.2.2.1, (IntKind.i64.wrap (x1.2.2.2.2.1 + (1 : Int))), ())))) (
   .leaf (.inr (.inr (x1.1, x1.2.1, ()))))
def T_i_areWords (a0 : (List YI) × Unit) (a1 : YI) : Tree ((Bool × Unit)) :=
  .ob (iterO B_i_areWords_2 (a0.1, a1.1, a0.1, (a0.1.length : Int), (0 : Int), ())) fun o4 =>
  .sm o4 (fun o5 =>
   .leaf o5) (fun o6 =>
   .leaf (((o6.1.length : Int) == o6.2.1), ()))
def V_i_areWords (a0 : (List YI) × Unit) (a1 : YI) : Option ((Bool × Unit)) := (T_i_areWords a0 a1).val
def T_i_hasBit (a0 : YWin) (a1 : YI) : Tree ((Bool × Unit)) :=
  .chk (decide ((0 : Int) ≤ a1.1)) <|
  .chk (decide ((0 : Int) ≤ (a1.1 % (1024 : Int)))) <|
  .ob (idx a0.2.1 ((a1.1 % (1024 : Int)) / (32 : Int))) fun e1 =>
  .chk (decide ((0 : Int) ≤ a1.1)) <|
  .chk (decide ((0 : Int) ≤ (a1.1 % (32 : Int)))) <|
  .leaf (((IntKind.i64.wrap ((BitVec.ofInt (IntKind.i64.bits) ((Int.fdiv e1.1 (2 ^ (min ((a1.1 % (32 : Int))).toNat IntKind.i64.bits)))) &&& BitVec.ofInt (IntKind.i64.bits) ((1 : Int))).toNat : Nat)) == (1 : Int)), ())
def V_i_hasBit (a0 : YWin) (a1 : YI) : Option ((Bool × Unit)) := (T_i_hasBit a0 a1).val
def B_i_WinOk_4 (x3 : Int × Int × (List YI) × Unit) : Option ((Int × Int × (List YI) × Unit) ⊕ ((Bool × Unit) ⊕ (YWin))) :=
  Tree.val (α := (Int × Int × (List YI) × Unit) ⊕ ((Bool × Unit) ⊕ (YWin))) <|
  .br (decide (x3.1 < (1024 : Int))) (
   .ob (V_i_hasBit (x3.2.1, x3.2.2.1, ()) (x3.1, ())) fun r4 =>
   .br r4.1 (
    .leaf (.inr (.inl (false, ())))) (
    .leaf (.inl ((IntKind.i64.wrap (x3.1 + (1 : Int))), x3.2.1, x3.2.2.1, ())))) (
   .leaf (.inr (.inr (x3.2.1, x3.2.2.1, ()))))
def T_i_WinOk (a0 : YWin) : Tree ((Bool × Unit)) :=
  .ob (V_i_within (a0.1, ()) ((-1 : Int), ()) ((281474976710655 : Int), ())) fun r1 =>
  .br (!r1.1) (
   .leaf (false, ())) (
   .ob (V_i_areWords (a0.2.1, ()) ((32 : Int), ())) fun r2 =>
   .br (!r2.1) (
    .leaf (false, ())) (
    .ob (iterO B_i_WinOk_4 ((IntKind.i64.wrap (a0.1 + (1 : Int))), a0.1, a0.2.1, ())) fun o5 =>
    .sm o5 (fun o6 =>
     .leaf o6) (fun o7 =>
     .br (o7.1 == (-1 : Int)) (
      .leaf (true, ())) (
      .ob (V_i_hasBit o7 (o7.1, ())) fun r8 =>
      .leaf r8))))
def V_i_WinOk (a0 : YWin) : Option ((Bool × Unit)) := (T_i_WinOk a0).val
def T_i_EpOk (a0 : YEp) : Tree ((Bool × Unit)) :=
  .ob (V_i_within (a0.1, ()) ((0 : Int), ()) ((4294967295 : Int), ())) fun r1 =>
  .br r1.1 (
   .br ((a0.2.1.length : Int) == (32 : Int)) (
    .ob (V_i_within (a0.2.2.1, ()) ((0 : Int), ()) ((281474976710656 : Int), ())) fun r2 =>
    .br r2.1 (
     .ob (V_i_WinOk (a0.2.2.2.1, a0.2.2.2.2.1, ())) fun r3 =>
     .leaf r3) (
     .leaf (false, ()))) (
    .leaf (false, ()))) (
   .leaf (false, ()))
def V_i_EpOk (a0 : YEp) : Option ((Bool × Unit)) := (T_i_EpOk a0).val
def T_i_oldOk (a0 : YChan) : Tree ((Bool × Unit)) :=
  .br (!a0.2.2.2.2.2.2.2.2.2.2.2.2.1) (
   .ob (V_i_sameEp (a0.2.2.2.2.2.2.2.1, a0.2.2.2.2.2.2.2.2.1, a0.2.2.2.2.2.2.2.2.2.1, a0.2.2.2.2.2.2.2.2.2.2.1, a0.2.2.2.2.2.2.2.2.2.2.2.1, ()) ((0 : Int), ([] : List YB), (0 : Int), (0 : Int), ([] : List YI), ())) fun r1 =>
   .br r1.1 (
    .leaf ((a0.2.2.2.2.2.2.2.2.2.2.2.2.2.1 == (0 : Int)), ())) (
    .leaf (false, ()))) (
   .ob (V_i_EpOk (a0.2.2.2.2.2.2.2.1, a0.2.2.2.2.2.2.2.2.1, a0.2.2.2.2.2.2.2.2.2.1, a0.2.2.2.2.2.2.2.2.2.2.1, a0.2.2.2.2.2.2.2.2.2.2.2.1, ())) fun r2 =>
   .br (!r2.1) (
    .leaf (false, ())) (
    .br (a0.2.2.2.2.2.2.2.1 != (IntKind.i64.wrap (a0.2.2.1 - (1 : Int)))) (
     .leaf (false, ())) (
     .ob (V_i_within (a0.2.2.2.2.2.2.2.2.2.2.2.2.2.1, ()) ((0 : Int), ()) ((1000005 : Int), ())) fun r3 =>
     .br r3.1 (
      .leaf (true, ())) (
      .br (a0.2.2.2.2.2.2.2.2.2.2.2.2.2.1 == (-1 : Int)) (
       .leaf ((a0.1 == (1 : Int)), ())) (
       .leaf (false, ()))))))
def V_i_oldOk (a0 : YChan) : Option ((Bool × Unit)) := (T_i_oldOk a0).val
def T_i_ChanOk (a0 : YChan) : Tree ((Bool × Unit)) :=
  .ob (V_i_isRole (a0.1, ())) fun r1 =>
  .br (!r1.1) (
   .leaf (false, ())) (
   .ob (V_i_isNonce (a0.2.1, ())) fun r2 =>
   .br (!r2.1) (
    .leaf (false, ())) (
    .ob (V_i_EpOk (a0.2.2.1, a0.2.2.2.1, a0.2.2.2.2.1, a0.2.2.2.2.2.1, a0.2.2.2.2.2.2.1, ())) fun r3 =>
    .br (!r3.1) (
     .leaf (false, ())) (
     .ob (V_i_oldOk a0) fun r4 =>
     .br (!r4.1) (
      .leaf (false, ())) (
      .br ((a0.2.2.2.2.2.2.2.2.2.2.2.2.2.2.1.length : Int) == (0 : Int)) (
       .leaf (true, ())) (
       .br (a0.1 == (0 : Int)) (
        .br ((a0.2.2.2.2.2.2.2.2.2.2.2.2.2.2.1.length : Int) == (32 : Int)) (
         .leaf ((decide (a0.2.2.1 < (4294967295 : Int))), ())) (
         .leaf (false, ()))) (
        .leaf (false, ())))))))
def V_i_ChanOk (a0 : YChan) : Option ((Bool × Unit)) := (T_i_ChanOk a0).val
def T_i_AddrOk (a0 : YAddr) : Tree ((Bool × Unit)) :=
  .ob (V_i_within (a0.1, ()) ((0 : Int), ()) ((4294967295 : Int), ())) fun r1 =>
  .br r1.1 (
   .ob (V_i_within (a0.2.1, ()) ((0 : Int), ()) ((65535 : Int), ())) fun r2 =>
   .leaf r2) (
   .leaf (false, ()))
def V_i_AddrOk (a0 : YAddr) : Option ((Bool × Unit)) := (T_i_AddrOk a0).val
def B_i_PathsOk_9 (x7 : (List YCand) × Int × Int × (List YCand) × Int × Int × Int × Int × (List YCand) × Int × Int × (List YB) × Int × Unit) : Option (((List YCand) × Int × Int × (List YCand) × Int × Int × Int × Int × (List YCand) × Int × Int × (List YB) × Int × Unit) ⊕ ((Bool × Unit) ⊕ ((List YCand) × Int × Int × Int × Int × (List YCand) × Unit))) :=
  Tree.val (α := ((List YCand) × Int × Int × (List YCand) × Int × Int × Int × Int × (List YCand) × Int × Int × (List YB) × Int × Unit) ⊕ ((Bool × Unit) ⊕ ((List YCand) × Int × Int × Int × Int × (List YCand) × Unit))) <|
  .br (decide (x7.2.2.2.2.2.1 < x7.2.2.2.2.1)) (
   .ob (idx x7.2.2.2.1 x7.2.2.2.2.2.1) fun e8 =>
   .br (and (e8.1 == x7.2.2.2.2.2.2.2.2.2.1) (and (e8.2.1 == x7.2.2.2.2.2.2.2.2.2.2.1) true)) (
    .leaf (.inr (.inl (false, ())))) (
    .leaf (.inl (x7.1, x7.2.1, x7.2.2.1, x7.2.2.2.1, x7.2.2.2.2.1, (IntKind.i64.wrap (x7.2.2.2.2.2.1 + (1 : Int))), x7.2.2.2.2.2.2.1, x7.2.2.2.2.2.2.2.1, x7.2.2.2.2.2.2.2.2.1, x7.2.2.2.2.2.2.2.2.2.1, x7.2.2.2.2.2.2.2.2.2.2.1, x7.2.2.2.2.2.2.2.2.2.2.2.1, x7.2.2.2.2.2.2.2.2.2.2.2.2.1, ())))) (
   .leaf (.inr (.inr (x7.1, x7.2.1, x7.2.2.1, x7.2.2.2.2.2.2.1, x7.2.2.2.2.2.2.2.1, x7.2.2.2.2.2.2.2.2.1, ()))))
def B_i_PathsOk_4 (x2 : (List YCand) × Int × Int × Int × Int × (List YCand) × Unit) : Option (((List YCand) × Int × Int × Int × Int × (List YCand) × Unit) ⊕ ((Bool × Unit) ⊕ (Unit))) :=
  Tree.val (α := ((List YCand) × Int × Int × Int × Int × (List YCand) × Unit) ⊕ ((Bool × Unit) ⊕ (Unit))) <|
  .br (decide (x2.2.2.1 < x2.2.1)) (
   .ob (idx x2.1 x2.2.2.1) fun e3 =>
   .ob (V_i_AddrOk (e3.1, e3.2.1, ())) fun r4 =>
   .br (!r4.1) (
    .leaf (.inr (.inl (false, ())))) (
    .br (and (e3.1 == x2.2.2.2.1) (and (e3.2.1 == x2.2.2.2.2.1) true)) (
     .leaf (.inr (.inl (false, ())))) (
     .ob (V_i_isNonce (e3.2.2.1, ())) fun r5 =>
     .br (!r5.1) (
      .leaf (.inr (.inl (false, ())))) (
      .ob (V_i_within (e3.2.2.2.1, ()) ((0 : Int), ()) ((1000006 : Int), ())) fun r6 =>
      .br (!r6.1) (
       .leaf (.inr (.inl (false, ())))) (
       .chk (decide ((0 : Int) ≤ x2.2.2.1)) <|
       .chk (decide (x2.2.2.1 ≤ (x2.2.2.2.2.2.1.length : Int))) <|
       .ob (iterO B_i_PathsOk_9 (x2.1, x2.2.1, x2.2.2.1, ((x2.2.2.2.2.2.1.take (x2.2.2.1).toNat).drop ((0 : Int)).toNat), (((x2.2.2.2.2.2.1.take (x2.2.2.1).toNat).drop ((0 : Int)).toNat).length : Int), (0 : Int), x2.2.2.2.1, x2.2.2.2.2.1, x2.2.2.2.2.2.1, e3.1, e3.2.1, e3.2.2.1, e3.2.2.2.1, ())) fun o9 =>
       .sm o9 (fun o10 =>
        .leaf (.inr (.inl o10))) (fun o11 =>
        .leaf (.inl (o11.1, o11.2.1, (IntKind.i64.wrap (o11.2.2.1 + (1 : Int))), o11.2.2.2.1, o11.2.2.2.2.1, o11.2.2.2.2.2.1, ())))))))) (
   .leaf (.inr (.inr ())))
def T_i_PathsOk (a0 : YPaths) : Tree ((Bool × Unit)) :=
  .ob (V_i_AddrOk (a0.1, a0.2.1, ())) fun r1 =>
  .br (!r1.1) (
   .leaf (false, ())) (
   .br (decide ((a0.2.2.1.length : Int) > (3 : Int))) (
    .leaf (false, ())) (
    .ob (iterO B_i_PathsOk_4 (a0.2.2.1, (a0.2.2.1.length : Int), (0 : Int), a0.1, a0.2.1, a0.2.2.1, ())) fun o12 =>
    .sm o12 (fun o13 =>
     .leaf o13) (fun o14 =>
     .leaf (true, ()))))
def V_i_PathsOk (a0 : YPaths) : Option ((Bool × Unit)) := (T_i_PathsOk a0).val
def T_i_SessOk (a0 : YSess) : Tree ((Bool × Unit)) :=
  .ob (V_i_within (a0.1, ()) ((1 : Int), ()) ((9 : Int), ())) fun r1 =>
  .br (!r1.1) (
   .leaf (false, ())) (
   .ob (V_i_isNonce (a0.2.1, ())) fun r2 =>
   .br (!r2.1) (
    .leaf (false, ())) (
    .ob (V_i_isNonce (a0.2.2.1, ())) fun r3 =>
    .br (!r3.1) (
     .leaf (false, ())) (
     .ob (V_i_within (a0.2.2.2.2.2.2.2.2.2.2.2.2.2.2.2.2.2.2.2.2.2.1, ()) ((0 : Int), ()) ((1000000 : Int), ())) fun r4 =>
     .br (!r4.1) (
      .leaf (false, ())) (
      .br a0.2.2.2.2.2.2.2.2.2.2.2.2.2.2.2.2.2.2.2.2.2.2.2.1 (
       .ob (V_i_isZeroChan (a0.2.2.2.1, a0.2.2.2.2.1, a0.2.2.2.2.2.1, a0.2.2.2.2.2.2.1, a0.2.2.2.2.2.2.2.1, a0.2.2.2.2.2.2.2.2.1, a0.2.2.2.2.2.2.2.2.2.1, a0.2.2.2.2.2.2.2.2.2.2.1, a0.2.2.2.2.2.2.2.2.2.2.2.1, a0.2.2.2.2.2.2.2.2.2.2.2.2.1, a0.2.2.2.2.2.2.2.2.2.2.2.2.2.1, a0.2.2.2.2.2.2.2.2.2.2.2.2.2.2.1, a0.2.2.2.2.2.2.2.2.2.2.2.2.2.2.2.1, a0.2.2.2.2.2.2.2.2.2.2.2.2.2.2.2.2.1, a0.2.2.2.2.2.2.2.2.2.2.2.2.2.2.2.2.2.1, ())) fun r5 =>
       .br r5.1 (
        .br (and (a0.2.2.2.2.2.2.2.2.2.2.2.2.2.2.2.2.2.2.1 == (0 : Int)) (and (a0.2.2.2.2.2.2.2.2.2.2.2.2.2.2.2.2.2.2.2.1 == (0 : Int)) true)) (
         .br ((a0.2.2.2.2.2.2.2.2.2.2.2.2.2.2.2.2.2.2.2.2.1.length : Int) == (0 : Int)) (
          .leaf ((a0.2.2.2.2.2.2.2.2.2.2.2.2.2.2.2.2.2.2.2.2.2.2.1 == (0 : Int)), ())) (
          .leaf (false, ()))) (
         .leaf (false, ()))) (
        .leaf (false, ()))) (
       .ob (V_i_ChanOk (a0.2.2.2.1, a0.2.2.2.2.1, a0.2.2.2.2.2.1, a0.2.2.2.2.2.2.1, a0.2.2.2.2.2.2.2.1, a0.2.2.2.2.2.2.2.2.1, a0.2.2.2.2.2.2.2.2.2.1, a0.2.2.2.2.2.2.2.2.2.2.1, a0.2.2.2.2.2.2.2.2.2.2.2.1, a0.2.2.2.2.2.2.2.2.2.2.2.2.1, a0.2.2.2.2.2.2.2.2.2.2.2.2.2.1, a0.2.2.2.2.2.2.2.2.2.2.2.2.2.2.1, a0.2.2.2.2.2.2.2.2.2.2.2.2.2.2.2.1, a0.2.2.2.2.2.2.2.2.2.2.2.2.2.2.2.2.1, a0.2.2.2.2.2.2.2.2.2.2.2.2.2.2.2.2.2.1, ())) fun r6 =>
       .br r6.1 (
        .br (a0.2.2.2.1 == (1 : Int)) (
         .ob (V_bytes_Equal (a0.2.2.2.2.1, ()) (a0.2.2.1, ())) fun r7 =>
         .br r7.1 (
          .ob (V_i_PathsOk (a0.2.2.2.2.2.2.2.2.2.2.2.2.2.2.2.2.2.2.1, a0.2.2.2.2.2.2.2.2.2.2.2.2.2.2.2.2.2.2.2.1, a0.2.2.2.2.2.2.2.2.2.2.2.2.2.2.2.2.2.2.2.2.1, ())) fun r8 =>
          .br r8.1 (
           .ob (V_i_within (a0.2.2.2.2.2.2.2.2.2.2.2.2.2.2.2.2.2.2.2.2.2.2.1, ()) ((0 : Int), ()) ((1000000 : Int), ())) fun r9 =>
           .leaf r9) (
           .leaf (false, ()))) (
          .leaf (false, ()))) (
         .leaf (false, ()))) (
        .leaf (false, ())))))))
def V_i_SessOk (a0 : YSess) : Option ((Bool × Unit)) := (T_i_SessOk a0).val
def T_i_Bury (a0 : YSess) : Tree ((YSess)) :=
  .ob (V_i_SessOk a0) fun r1 =>
  .br (!r1.1) (
   .ob (V_i_copySess a0) fun r2 =>
   .leaf r2) (
   .ob (V_i_clone (a0.2.1, ())) fun r3 =>
   .ob (V_i_clone (a0.2.2.1, ())) fun r4 =>
   .leaf (a0.1, r3.1, r4.1, (0 : Int), ([] : List YB), (0 : Int), ([] : List YB), (0 : Int), (0 : Int), ([] : List YI), (0 : Int), ([] : List YB), (0 : Int), (0 : Int), ([] : List YI), false, (0 : Int), ([] : List YB), (0 : Int), (0 : Int), ([] : List YCand), a0.2.2.2.2.2.2.2.2.2.2.2.2.2.2.2.2.2.2.2.2.2.1, (0 : Int), true, ()))
def V_i_Bury (a0 : YSess) : Option ((YSess)) := (T_i_Bury a0).val
def T_i_ChanTick (a0 : YChan) (a1 : YI) : Tree ((YChan)) :=
  .ob (V_i_copyChan a0) fun r1 =>
  .ob (V_i_ChanOk a0) fun r2 =>
  .br r2.1 (
   .ob (V_i_within a1 ((0 : Int), ()) ((1000000 : Int), ())) fun r3 =>
   .br r3.1 (
    .br a0.2.2.2.2.2.2.2.2.2.2.2.2.1 (
     .br (a0.2.2.2.2.2.2.2.2.2.2.2.2.2.1 != (-1 : Int)) (
      .br (decide (a1.1 > a0.2.2.2.2.2.2.2.2.2.2.2.2.2.1)) (
       .leaf (r1.1, r1.2.1, r1.2.2.1, r1.2.2.2.1, r1.2.2.2.2.1, r1.2.2.2.2.2.1, r1.2.2.2.2.2.2.1, (0 : Int), ([] : List YB), (0 : Int), (0 : Int), ([] : List YI), false, (0 : Int), r1.2.2.2.2.2.2.2.2.2.2.2.2.2.2.1, ())) (
       .leaf r1)) (
      .leaf r1)) (
     .leaf r1)) (
    .leaf r1)) (
   .leaf r1)
def V_i_ChanTick (a0 : YChan) (a1 : YI) : Option ((YChan)) := (T_i_ChanTick a0 a1).val
def B_i_withoutExpired_3 (x2 : Int × (List YCand) × Int × Int × Int × Int × (List YCand) × Int × Int × (List YCand) × Unit) : Option ((Int × (List YCand) × Int × Int × Int × Int × (List YCand) × Int × Int × (List YCand) × Unit) ⊕ ((Int × Int × (List YCand) × Int × Int × (List YCand) × Unit))) :=
  Tree.val (α := (Int × (List YCand) × Int × Int × Int × Int × (List YCand) × Int × Int × (List YCand) × Unit) ⊕ ((Int × Int × (List YCand) × Int × Int × (List YCand) × Unit))) <|
  .br (decide (x2.2.2.2.1 < x2.2.2.1)) (
   .chk (Nat.beq (Int.toNat x2.2.2.2.1) (Int.toNat x2.2.2.2.1)) <|
   .ob (idx x2.2.1 x2.2.2.2.1) fun e3 =>
   .br (decide (e3.2.2.2.1 ≥ x2.1)) (
    .chk (decide (x2.2.2.2.2.2.2.2.2.2.1.length + [e3].length ≤ 4294967296)) <|
    .chk (Nat.ble (Int.toNat x2.2.2.2.1 + 1) (Int.toNat (IntKind.i64.wrap (x2.2.2.2.1 + (1 : Int))))) <|
    .leaf (.inl (x2.1, x2.2.1, x2.2.2.1, (IntKind.i64.wrap (x2.2.2.2.1 + (1 : Int))), x2.2.2.2.2.1, x2.2.2.2.2.2.1, x2.2.2.2.2.2.2.1, x2.2.2.2.2.2.2.2.1, x2.2.2.2.2.2.2.2.2.1, (x2.2.2.2.2.2.2.2.2.2.1 ++ [e3]), ()))) (
    .chk (Nat.ble (Int.toNat x2.2.2.2.1 + 1) (Int.toNat (IntKind.i64.wrap (x2.2.2.2.1 + (1 : Int))))) <|
    .leaf (.inl (x2.1, x2.2.1, x2.2.2.1, (IntKind.i64.wrap (x2.2.2.2.1 + (1 : Int))), x2.2.2.2.2.1, x2.2.2.2.2.2.1, x2.2.2.2.2.2.2.1, x2.2.2.2.2.2.2.2.1, x2.2.2.2.2.2.2.2.2.1, x2.2.2.2.2.2.2.2.2.2.1, ())))) (
   .leaf (.inr (x2.2.2.2.2.1, x2.2.2.2.2.2.1, x2.2.2.2.2.2.2.1, x2.2.2.2.2.2.2.2.1, x2.2.2.2.2.2.2.2.2.1, x2.2.2.2.2.2.2.2.2.2.1, ())))
def T_i_withoutExpired (a0 : YPaths) (a1 : YI) : Tree ((YPaths)) :=
  .ob (V_i_copyPaths a0) fun r1 =>
  .ob (iterO B_i_withoutExpired_3 (a1.1, r1.2.2.1, (r1.2.2.1.length : Int), (0 : Int), (0 : Int), (0 : Int), ([] : List YCand), a0.1, a0.2.1, ([] : List YCand), ())) fun o4 =>
  .leaf (o4.2.2.2.1, o4.2.2.2.2.1, o4.2.2.2.2.2.1, ())
def V_i_withoutExpired (a0 : YPaths) (a1 : YI) : Option ((YPaths)) := (T_i_withoutExpired a0 a1).val
def T_i_PathTick (a0 : YPaths) (a1 : YI) : Tree ((YPaths)) :=
  .ob (V_i_PathsOk a0) fun r1 =>
  .br (!r1.1) (
   .ob (V_i_copyPaths a0) fun r2 =>
   .leaf r2) (
   .ob (V_i_within a1 ((0 : Int), ()) ((1000000 : Int), ())) fun r3 =>
   .br (!r3.1) (
    .ob (V_i_copyPaths a0) fun r4 =>
    .leaf r4) (
    .ob (V_i_withoutExpired a0 a1) fun r5 =>
    .leaf r5))
def V_i_PathTick (a0 : YPaths) (a1 : YI) : Option ((YPaths)) := (T_i_PathTick a0 a1).val
def T_i_SessTick (a0 : YSess) (a1 : YI) : Tree ((YSess)) :=
  .ob (V_i_copySess a0) fun r1 =>
  .ob (V_i_SessOk a0) fun r2 =>
  .br (!r2.1) (
   .leaf r1) (
   .br a0.2.2.2.2.2.2.2.2.2.2.2.2.2.2.2.2.2.2.2.2.2.2.2.1 (
    .leaf r1) (
    .ob (V_i_within a1 ((0 : Int), ()) ((1000000 : Int), ())) fun r3 =>
    .br (!r3.1) (
     .leaf r1) (
     .br (decide ((IntKind.i64.wrap (a1.1 - a0.2.2.2.2.2.2.2.2.2.2.2.2.2.2.2.2.2.2.2.2.2.2.1)) > (60 : Int))) (
      .ob (V_i_Bury a0) fun r4 =>
      .leaf r4) (
      .ob (V_i_ChanTick (a0.2.2.2.1, a0.2.2.2.2.1, a0.2.2.2.2.2.1, a0.2.2.2.2.2.2.1, a0.2.2.2.2.2.2.2.1, a0.2.2.2.2.2.2.2.2.1, a0.2.2.2.2.2.2.2.2.2.1, a0.2.2.2.2.2.2.2.2.2.2.1, a0.2.2.2.2.2.2.2.2.2.2.2.1, a0.2.2.2.2.2.2.2.2.2.2.2.2.1, a0.2.2.2.2.2.2.2.2.2.2.2.2.2.1, a0.2.2.2.2.2.2.2.2.2.2.2.2.2.2.1, a0.2.2.2.2.2.2.2.2.2.2.2.2.2.2.2.1, a0.2.2.2.2.2.2.2.2.2.2.2.2.2.2.2.2.1, a0.2.2.2.2.2.2.2.2.2.2.2.2.2.2.2.2.2.1, ()) a1) fun r5 =>
      .ob (V_i_PathTick (a0.2.2.2.2.2.2.2.2.2.2.2.2.2.2.2.2.2.2.1, a0.2.2.2.2.2.2.2.2.2.2.2.2.2.2.2.2.2.2.2.1, a0.2.2.2.2.2.2.2.2.2.2.2.2.2.2.2.2.2.2.2.2.1, ()) a1) fun r6 =>
      .leaf (r1.1, r1.2.1, r1.2.2.1, r5.1, r5.2.1, r5.2.2.1, r5.2.2.2.1, r5.2.2.2.2.1, r5.2.2.2.2.2.1, r5.2.2.2.2.2.2.1, r5.2.2.2.2.2.2.2.1, r5.2.2.2.2.2.2.2.2.1, r5.2.2.2.2.2.2.2.2.2.1, r5.2.2.2.2.2.2.2.2.2.2.1, r5.2.2.2.2.2.2.2.2.2.2.2.1, r5.2.2.2.2.2.2.2.2.2.2.2.2.1, r5.2.2.2.2.2.2.2.2.2.2.2.2.2.1, r5.2.2.2.2.2.2.2.2.2.2.2.2.2.2.1, r6.1, r6.2.1, r6.2.2.1, r1.2.2.2.2.2.2.2.2.2.2.2.2.2.2.2.2.2.2.2.2.2.1, r1.2.2.2.2.2.2.2.2.2.2.2.2.2.2.2.2.2.2.2.2.2.2.1, r1.2.2.2.2.2.2.2.2.2.2.2.2.2.2.2.2.2.2.2.2.2.2.2.1, ())))))
def V_i_SessTick (a0 : YSess) (a1 : YI) : Option ((YSess)) := (T_i_SessTick a0 a1).val
def B_l_eqIntS_4 (x1 : (List YI) × (List YI) × Int × Unit) : Option (((List YI) × (List YI) × Int × Unit) ⊕ ((Bool × Unit) ⊕ (Unit))) :=
  Tree.val (α := ((List YI) × (List YI) × Int × Unit) ⊕ ((Bool × Unit) ⊕ (Unit))) <|
  .br (decide (x1.2.2.1 < (x1.1.length : Int))) (
   .ob (idx x1.1 x1.2.2.1) fun e2 =>
   .ob (idx x1.2.1 x1.2.2.1) fun e3 =>
   .br (e2.1 != e3.1) (
    .leaf (.inr (.inl (false, ())))) (
    .leaf (.inl (x1.1, x1.2.1, (IntKind.i64.wrap (x1.2.2.1 + (1 : Int))), ())))) (
   .leaf (.inr (.inr ())))
def T_l_eqIntS (a0 : (List YI) × Unit) (a1 : (List YI) × Unit) : Tree ((Bool × Unit)) :=
  .br ((a0.1.length : Int) != (a1.1.length : Int)) (
   .leaf (false, ())) (
   .ob (iterO B_l_eqIntS_4 (a0.1, a1.1, (0 : Int), ())) fun o4 =>
   .sm o4 (fun o5 =>
    .leaf o5) (fun o6 =>
    .leaf (true, ())))
def V_l_eqIntS (a0 : (List YI) × Unit) (a1 : (List YI) × Unit) : Option ((Bool × Unit)) := (T_l_eqIntS a0 a1).val
def T_l_eqWin (a0 : YWin) (a1 : YWin) : Tree ((Bool × Unit)) :=
  .br (a0.1 != a1.1) (
   .leaf (false, ())) (
   .ob (V_l_eqIntS (a0.2.1, ()) (a1.2.1, ())) fun r1 =>
   .br (!r1.1) (
    .leaf (false, ())) (
    .leaf (true, ())))
def V_l_eqWin (a0 : YWin) (a1 : YWin) : Option ((Bool × Unit)) := (T_l_eqWin a0 a1).val
def T_l_eqEp (a0 : YEp) (a1 : YEp) : Tree ((Bool × Unit)) :=
  .br (a0.1 != a1.1) (
   .leaf (false, ())) (
   .ob (V_l_eqByteS (a0.2.1, ()) (a1.2.1, ())) fun r1 =>
   .br (!r1.1) (
    .leaf (false, ())) (
    .br (a0.2.2.1 != a1.2.2.1) (
     .leaf (false, ())) (
     .ob (V_l_eqWin (a0.2.2.2.1, a0.2.2.2.2.1, ()) (a1.2.2.2.1, a1.2.2.2.2.1, ())) fun r2 =>
     .br (!r2.1) (
      .leaf (false, ())) (
      .leaf (true, ())))))
def V_l_eqEp (a0 : YEp) (a1 : YEp) : Option ((Bool × Unit)) := (T_l_eqEp a0 a1).val
def T_l_eqChan (a0 : YChan) (a1 : YChan) : Tree ((Bool × Unit)) :=
  .br (a0.1 != a1.1) (
   .leaf (false, ())) (
   .ob (V_l_eqByteS (a0.2.1, ()) (a1.2.1, ())) fun r1 =>
   .br (!r1.1) (
    .leaf (false, ())) (
    .ob (V_l_eqEp (a0.2.2.1, a0.2.2.2.1, a0.2.2.2.2.1, a0.2.2.2.2.2.1, a0.2.2.2.2.2.2.1, ()) (a1.2.2.1, a1.2.2.2.1, a1.2.2.2.2.1, a1.2.2.2.2.2.1, a1.2.2.2.2.2.2.1, ())) fun r2 =>
    .br (!r2.1) (
     .leaf (false, ())) (
     .ob (V_l_eqEp (a0.2.2.2.2.2.2.2.1, a0.2.2.2.2.2.2.2.2.1, a0.2.2.2.2.2.2.2.2.2.1, a0.2.2.2.2.2.2.2.2.2.2.1, a0.2.2.2.2.2.2.2.2.2.2.2.1, ()) (a1.2.2.2.2.2.2.2.1, a1.2.2.2.2.2.2.2.2.1, a1.2.2.2.2.2.2.2.2.2.1, a1.2.2.2.2.2.2.2.2.2.2.1, a1.2.2.2.2.2.2.2.2.2.2.2.1, ())) fun r3 =>
     .br (!r3.1) (
      .leaf (false, ())) (
      .br (!(a0.2.2.2.2.2.2.2.2.2.2.2.2.1 == a1.2.2.2.2.2.2.2.2.2.2.2.2.1)) (
       .leaf (false, ())) (
       .br (a0.2.2.2.2.2.2.2.2.2.2.2.2.2.1 != a1.2.2.2.2.2.2.2.2.2.2.2.2.2.1) (
        .leaf (false, ())) (
        .ob (V_l_eqByteS (a0.2.2.2.2.2.2.2.2.2.2.2.2.2.2.1, ()) (a1.2.2.2.2.2.2.2.2.2.2.2.2.2.2.1, ())) fun r4 =>
        .br (!r4.1) (
         .leaf (false, ())) (
         .leaf (true, ()))))))))
def V_l_eqChan (a0 : YChan) (a1 : YChan) : Option ((Bool × Unit)) := (T_l_eqChan a0 a1).val
def T_l_eqCand (a0 : YCand) (a1 : YCand) : Tree ((Bool × Unit)) :=
  .ob (V_l_eqAddr (a0.1, a0.2.1, ()) (a1.1, a1.2.1, ())) fun r1 =>
  .br (!r1.1) (
   .leaf (false, ())) (
   .ob (V_l_eqByteS (a0.2.2.1, ()) (a1.2.2.1, ())) fun r2 =>
   .br (!r2.1) (
    .leaf (false, ())) (
    .br (a0.2.2.2.1 != a1.2.2.2.1) (
     .leaf (false, ())) (
     .leaf (true, ()))))
def V_l_eqCand (a0 : YCand) (a1 : YCand) : Option ((Bool × Unit)) := (T_l_eqCand a0 a1).val
def B_l_eqCandS_4 (x1 : (List YCand) × (List YCand) × Int × Unit) : Option (((List YCand) × (List YCand) × Int × Unit) ⊕ ((Bool × Unit) ⊕ (Unit))) :=
  Tree.val (α := ((List YCand) × (List YCand) × Int × Unit) ⊕ ((Bool × Unit) ⊕ (Unit))) <|
  .br (decide (x1.2.2.1 < (x1.1.length : Int))) (
   .ob (idx x1.1 x1.2.2.1) fun e2 =>
   .ob (idx x1.2.1 x1.2.2.1) fun e3 =>
   .ob (V_l_eqCand e2 e3) fun r4 =>
   .br (!r4.1) (
    .leaf (.inr (.inl (false, ())))) (
    .leaf (.inl (x1.1, x1.2.1, (IntKind.i64.wrap (x1.2.2.1 + (1 : Int))), ())))) (
   .leaf (.inr (.inr ())))
def T_l_eqCandS (a0 : (List YCand) × Unit) (a1 : (List YCand) × Unit) : Tree ((Bool × Unit)) :=
  .br ((a0.1.length : Int) != (a1.1.length : Int)) (
   .leaf (false, ())) (
   .ob (iterO B_l_eqCandS_4 (a0.1, a1.1, (0 : Int), ())) fun o5 =>
   .sm o5 (fun o6 =>
    .leaf o6) (fun o7 =>
    .leaf (true, ())))
def V_l_eqCandS (a0 : (List YCand) × Unit) (a1 : (List YCand) × Unit) : Option ((Bool × Unit)) := (T_l_eqCandS a0 a1).val
def T_l_eqPaths (a0 : YPaths) (a1 : YPaths) : Tree ((Bool × Unit)) :=
  .ob (V_l_eqAddr (a0.1, a0.2.1, ()) (a1.1, a1.2.1, ())) fun r1 =>
  .br (!r1.1) (
   .leaf (false, ())) (
   .ob (V_l_eqCandS (a0.2.2.1, ()) (a1.2.2.1, ())) fun r2 =>
   .br (!r2.1) (
    .leaf (false, ())) (
    .leaf (true, ())))
def V_l_eqPaths (a0 : YPaths) (a1 : YPaths) : Option ((Bool × Unit)) := (T_l_eqPaths a0 a1).val
def T_l_eqSess (a0 : YSess) (a1 : YSess) : Tree ((Bool × Unit)) :=
  .br (a0.1 != a1.1) (
   .leaf (false, ())) (
   .ob (V_l_eqByteS (a0.2.1, ()) (a1.2.1, ())) fun r1 =>
   .br (!r1.1) (
    .leaf (false, ())) (
    .ob (V_l_eqByteS (a0.2.2.1, ()) (a1.2.2.1, ())) fun r2 =>
    .br (!r2.1) (
     .leaf (false, ())) (
     .ob (V_l_eqChan (a0.2.2.2.1, a0.2.2.2.2.1, a0.2.2.2.2.2.1, a0.2.2.2.2.2.2.1, a0.2.2.2.2.2.2.2.1, a0.2.2.2.2.2.2.2.2.1, a0.2.2.2.2.2.2.2.2.2.1, a0.2.2.2.2.2.2.2.2.2.2.1, a0.2.2.2.2.2.2.2.2.2.2.2.1, a0.2.2.2.2.2.2.2.2.2.2.2.2.1, a0.2.2.2.2.2.2.2.2.2.2.2.2.2.1, a0.2.2.2.2.2.2.2.2.2.2.2.2.2.2.1, a0.2.2.2.2.2.2.2.2.2.2.2.2.2.2.2.1, a0.2.2.2.2.2.2.2.2.2.2.2.2.2.2.2.2.1, a0.2.2.2.2.2.2.2.2.2.2.2.2.2.2.2.2.2.1, ()) (a1.2.2.2.1, a1.2.2.2.2.1, a1.2.2.2.2.2.1, a1.2.2.2.2.2.2.1, a1.2.2.2.2.2.2.2.1, a1.2.2.2.2.2.2.2.2.1, a1.2.2.2.2.2.2.2.2.2.1, a1.2.2.2.2.2.2.2.2.2.2.1, a1.2.2.2.2.2.2.2.2.2.2.2.1, a1.2.2.2.2.2.2.2.2.2.2.2.2.1, a1.2.2.2.2.2.2.2.2.2.2.2.2.2.1, a1.2.2.2.2.2.2.2.2.2.2.2.2.2.2.1, a1.2.2.2.2.2.2.2.2.2.2.2.2.2.2.2.1, a1.2.2.2.2.2.2.2.2.2.2.2.2.2.2.2.2.1, a1.2.2.2.2.2.2.2.2.2.2.2.2.2.2.2.2.2.1, ())) fun r3 =>
     .br (!r3.1) (
      .leaf (false, ())) (
      .ob (V_l_eqPaths (a0.2.2.2.2.2.2.2.2.2.2.2.2.2.2.2.2.2.2.1, a0.2.2.2.2.2.2.2.2.2.2.2.2.2.2.2.2.2.2.2.1, a0.2.2.2.2.2.2.2.2.2.2.2.2.2.2.2.2.2.2.2.2.1, ()) (a1.2.2.2.2.2.2.2.2.2.2.2.2.2.2.2.2.2.2.1, a1.2.2.2.2.2.2.2.2.2.2.2.2.2.2.2.2.2.2.2.1, a1.2.2.2.2.2.2.2.2.2.2.2.2.2.2.2.2.2.2.2.2.1, ())) fun r4 =>
      .br (!r4.1) (
       .leaf (false, ())) (
       .br (a0.2.2.2.2.2.2.2.2.2.2.2.2.2.2.2.2.2.2.2.2.2.1 != a1.2.2.2.2.2.2.2.2.2.2.2.2.2.2.2.2.2.2.2.2.2.1) (
        .leaf (false, ())) (
        .br (a0.2.2.2.2.2.2.2.2.2.2.2.2.2.2.2.2.2.2.2.2.2.2.1 != a1.2.2.2.2.2.2.2.2.2.2.2.2.2.2.2.2.2.2.2.2.2.2.1) (
         .leaf (false, ())) (
         .br (!(a0.2.2.2.2.2.2.2.2.2.2.2.2.2.2.2.2.2.2.2.2.2.2.2.1 == a1.2.2.2.2.2.2.2.2.2.2.2.2.2.2.2.2.2.2.2.2.2.2.2.1)) (
          .leaf (false, ())) (
          .leaf (true, ())))))))))
def V_l_eqSess (a0 : YSess) (a1 : YSess) : Option ((Bool × Unit)) := (T_l_eqSess a0 a1).val
def B_l_markIntS_2 (x1 : (List YI) × Int × Int × Unit) : Option (((List YI) × Int × Int × Unit) ⊕ (((List YI) × Int × Unit))) :=
  Tree.val (α := ((List YI) × Int × Int × Unit) ⊕ (((List YI) × Int × Unit))) <|
  .br (decide (x1.2.2.1 < (x1.1.length : Int))) (
   .ob (idx x1.1 x1.2.2.1) fun e2 =>
   let q3 := (x1.1.set (x1.2.2.1).toNat (x1.2.1, ()))
   .leaf (.inl (q3, (IntKind.i64.wrap (x1.2.1 + (1 : Int))), (IntKind.i64.wrap (x1.2.2.1 + (1 : Int))), ()))) (
   .leaf (.inr (x1.1, x1.2.1, ())))
def T_l_markIntS (a0 : (List YI) × Unit) (a1 : YI) : Tree ((YI) × ((List YI) × Unit)) :=
  .ob (iterO B_l_markIntS_2 (a0.1, a1.1, (0 : Int), ())) fun o4 =>
  .leaf ((o4.2.1, ()), (o4.1, ()))
def V_l_markIntS (a0 : (List YI) × Unit) (a1 : YI) : Option ((YI) × ((List YI) × Unit)) := (T_l_markIntS a0 a1).val
def T_l_markWin (a0 : YWin) (a1 : YI) : Tree ((YI) × (YWin)) :=
  .ob (V_l_markIntS (a0.2.1, ()) a1) fun r1 =>
  .leaf (r1.1, (a0.1, r1.2.1, ()))
def V_l_markWin (a0 : YWin) (a1 : YI) : Option ((YI) × (YWin)) := (T_l_markWin a0 a1).val
def T_l_markEp (a0 : YEp) (a1 : YI) : Tree ((YI) × (YEp)) :=
  .ob (V_l_markByteS (a0.2.1, ()) a1) fun r1 =>
  .ob (V_l_markWin (a0.2.2.2.1, a0.2.2.2.2.1, ()) r1.1) fun r2 =>
  .leaf (r2.1, (a0.1, r1.2.1, a0.2.2.1, a0.2.2.2.1, r2.2.2.1, ()))
def V_l_markEp (a0 : YEp) (a1 : YI) : Option ((YI) × (YEp)) := (T_l_markEp a0 a1).val
def T_l_markChan (a0 : YChan) (a1 : YI) : Tree ((YI) × (YChan)) :=
  .ob (V_l_markByteS (a0.2.1, ()) a1) fun r1 =>
  .ob (V_l_markEp (a0.2.2.1, a0.2.2.2.1, a0.2.2.2.2.1, a0.2.2.2.2.2.1, a0.2.2.2.2.2.2.1, ()) r1.1) fun r2 =>
  .ob (V_l_markEp (a0.2.2.2.2.2.2.2.1, a0.2.2.2.2.2.2.2.2.1, a0.2.2.2.2.2.2.2.2.2.1, a0.2.2.2.2.2.2.2.2.2.2.1, a0.2.2.2.2.2.2.2.2.2.2.2.1, ()) r2.1) fun r3 =>
  .ob (V_l_markByteS (a0.2.2.2.2.2.2.2.2.2.2.2.2.2.2.1, ()) r3.1) fun r4 =>
  .leaf (r4.1, (a0.1, r1.2.1, a0.2.2.1, r2.2.2.1, a0.2.2.2.2.1, a0.2.2.2.2.2.1, r2.2.2.2.2.2.1, a0.2.2.2.2.2.2.2.1, r3.2.2.1, a0.2.2.2.2.2.2.2.2.2.1, a0.2.2.2.2.2.2.2.2.2.2.1, r3.2.2.2.2.2.1, a0.2.2.2.2.2.2.2.2.2.2.2.2.1, a0.2.2.2.2.2.2.2.2.2.2.2.2.2.1, r4.2.1, ()))
def V_l_markChan (a0 : YChan) (a1 : YI) : Option ((YI) × (YChan)) := (T_l_markChan a0 a1).val
def B_l_markCandS_2 (x1 : (List YCand) × Int × Int × Unit) : Option (((List YCand) × Int × Int × Unit) ⊕ (((List YCand) × Int × Unit))) :=
  Tree.val (α := ((List YCand) × Int × Int × Unit) ⊕ (((List YCand) × Int × Unit))) <|
  .br (decide (x1.2.2.1 < (x1.1.length : Int))) (
   .ob (idx x1.1 x1.2.2.1) fun e2 =>
   let q3 := (x1.1.set (x1.2.2.1).toNat (x1.2.1, e2.2.1, e2.2.2.1, e2.2.2.2.1, ()))
   .ob (idx q3 x1.2.2.1) fun e4 =>
   let q5 := (q3.set (x1.2.2.1).toNat (e4.1, (IntKind.i64.wrap (x1.2.1 + (1 : Int))), e4.2.2.1, e4.2.2.2.1, ()))
   .ob (idx q5 x1.2.2.1) fun e6 =>
   .ob (V_l_markByteS (e6.2.2.1, ()) ((IntKind.i64.wrap ((IntKind.i64.wrap (x1.2.1 + (1 : Int))) + (1 : Int))), ())) fun r7 =>
   let q8 := (q5.set (x1.2.2.1).toNat (e6.1, e6.2.1, r7.2.1, e6.2.2.2.1, ()))
   .ob (idx q8 x1.2.2.1) fun e9 =>
   let q10 := (q8.set (x1.2.2.1).toNat (e9.1, e9.2.1, e9.2.2.1, r7.1.1, ()))
   .leaf (.inl (q10, (IntKind.i64.wrap (r7.1.1 + (1 : Int))), (IntKind.i64.wrap (x1.2.2.1 + (1 : Int))), ()))) (
   .leaf (.inr (x1.1, x1.2.1, ())))
def T_l_markCandS (a0 : (List YCand) × Unit) (a1 : YI) : Tree ((YI) × ((List YCand) × Unit)) :=
  .ob (iterO B_l_markCandS_2 (a0.1, a1.1, (0 : Int), ())) fun o11 =>
  .leaf ((o11.2.1, ()), (o11.1, ()))
def V_l_markCandS (a0 : (List YCand) × Unit) (a1 : YI) : Option ((YI) × ((List YCand) × Unit)) := (T_l_markCandS a0 a1).val
def T_l_markPaths (a0 : YPaths) (a1 : YI) : Tree ((YI) × (YPaths)) :=
  .ob (V_l_markCandS (a0.2.2.1, ()) a1) fun r1 =>
  .leaf (r1.1, (a0.1, a0.2.1, r1.2.1, ()))
def V_l_markPaths (a0 : YPaths) (a1 : YI) : Option ((YI) × (YPaths)) := (T_l_markPaths a0 a1).val
def T_l_markSess (a0 : YSess) (a1 : YI) : Tree ((YI) × (YSess)) :=
  .ob (V_l_markByteS (a0.2.1, ()) a1) fun r1 =>
  .ob (V_l_markByteS (a0.2.2.1, ()) r1.1) fun r2 =>
  .ob (V_l_markChan (a0.2.2.2.1, a0.2.2.2.2.1, a0.2.2.2.2.2.1, a0.2.2.2.2.2.2.1, a0.2.2.2.2.2.2.2.1, a0.2.2.2.2.2.2.2.2.1, a0.2.2.2.2.2.2.2.2.2.1, a0.2.2.2.2.2.2.2.2.2.2.1, a0.2.2.2.2.2.2.2.2.2.2.2.1, a0.2.2.2.2.2.2.2.2.2.2.2.2.1, a0.2.2.2.2.2.2.2.2.2.2.2.2.2.1, a0.2.2.2.2.2.2.2.2.2.2.2.2.2.2.1, a0.2.2.2.2.2.2.2.2.2.2.2.2.2.2.2.1, a0.2.2.2.2.2.2.2.2.2.2.2.2.2.2.2.2.1, a0.2.2.2.2.2.2.2.2.2.2.2.2.2.2.2.2.2.1, ()) r2.1) fun r3 =>
  .ob (V_l_markPaths (a0.2.2.2.2.2.2.2.2.2.2.2.2.2.2.2.2.2.2.1, a0.2.2.2.2.2.2.2.2.2.2.2.2.2.2.2.2.2.2.2.1, a0.2.2.2.2.2.2.2.2.2.2.2.2.2.2.2.2.2.2.2.2.1, ()) r3.1) fun r4 =>
  .leaf (r4.1, (a0.1, r1.2.1, r2.2.1, a0.2.2.2.1, r3.2.2.1, a0.2.2.2.2.2.1, r3.2.2.2.2.1, a0.2.2.2.2.2.2.2.1, a0.2.2.2.2.2.2.2.2.1, r3.2.2.2.2.2.2.2.1, a0.2.2.2.2.2.2.2.2.2.2.1, r3.2.2.2.2.2.2.2.2.2.1, a0.2.2.2.2.2.2.2.2.2.2.2.2.1, a0.2.2.2.2.2.2.2.2.2.2.2.2.2.1, r3.2.2.2.2.2.2.2.2.2.2.2.2.1, a0.2.2.2.2.2.2.2.2.2.2.2.2.2.2.2.1, a0.2.2.2.2.2.2.2.2.2.2.2.2.2.2.2.2.1, r3.2.2.2.2.2.2.2.2.2.2.2.2.2.2.2.1, a0.2.2.2.2.2.2.2.2.2.2.2.2.2.2.2.2.2.2.1, a0.2.2.2.2.2.2.2.2.2.2.2.2.2.2.2.2.2.2.2.1, r4.2.2.2.1, a0.2.2.2.2.2.2.2.2.2.2.2.2.2.2.2.2.2.2.2.2.2.1, a0.2.2.2.2.2.2.2.2.2.2.2.2.2.2.2.2.2.2.2.2.2.2.1, a0.2.2.2.2.2.2.2.2.2.2.2.2.2.2.2.2.2.2.2.2.2.2.2.1, ()))
def V_l_markSess (a0 : YSess) (a1 : YI) : Option ((YI) × (YSess)) := (T_l_markSess a0 a1).val
def B_l_heldIntS_2 (x1 : (List YI) × Int × Int × Unit) : Option (((List YI) × Int × Int × Unit) ⊕ ((YI) ⊕ (YI))) :=
  Tree.val (α := ((List YI) × Int × Int × Unit) ⊕ ((YI) ⊕ (YI))) <|
  .br (decide (x1.2.2.1 < (x1.1.length : Int))) (
   .ob (idx x1.1 x1.2.2.1) fun e2 =>
   .br (e2.1 != x1.2.1) (
    .leaf (.inr (.inl ((-1 : Int), ())))) (
    .leaf (.inl (x1.1, (IntKind.i64.wrap (x1.2.1 + (1 : Int))), (IntKind.i64.wrap (x1.2.2.1 + (1 : Int))), ())))) (
   .leaf (.inr (.inr (x1.2.1, ()))))
def T_l_heldIntS (a0 : (List YI) × Unit) (a1 : YI) : Tree ((YI)) :=
  .ob (iterO B_l_heldIntS_2 (a0.1, a1.1, (0 : Int), ())) fun o3 =>
  .sm o3 (fun o4 =>
   .leaf o4) (fun o5 =>
   .leaf o5)
def V_l_heldIntS (a0 : (List YI) × Unit) (a1 : YI) : Option ((YI)) := (T_l_heldIntS a0 a1).val
def T_l_heldWin (a0 : YWin) (a1 : YI) : Tree ((YI)) :=
  .ob (V_l_heldIntS (a0.2.1, ()) a1) fun r1 =>
  .br (decide (r1.1 < (0 : Int))) (
   .leaf ((-1 : Int), ())) (
   .leaf r1)
def V_l_heldWin (a0 : YWin) (a1 : YI) : Option ((YI)) := (T_l_heldWin a0 a1).val
def T_l_heldEp (a0 : YEp) (a1 : YI) : Tree ((YI)) :=
  .ob (V_l_heldByteS (a0.2.1, ()) a1) fun r1 =>
  .br (decide (r1.1 < (0 : Int))) (
   .leaf ((-1 : Int), ())) (
   .ob (V_l_heldWin (a0.2.2.2.1, a0.2.2.2.2.1, ()) r1) fun r2 =>
   .br (decide (r2.1 < (0 : Int))) (
    .leaf ((-1 : Int), ())) (
    .leaf r2))
def V_l_heldEp (a0 : YEp) (a1 : YI) : Option ((YI)) := (T_l_heldEp a0 a1).val
def T_l_heldChan (a0 : YChan) (a1 : YI) : Tree ((YI)) :=
  .ob (V_l_heldByteS (a0.2.1, ()) a1) fun r1 =>
  .br (decide (r1.1 < (0 : Int))) (
   .leaf ((-1 : Int), ())) (
   .ob (V_l_heldEp (a0.2.2.1, a0.2.2.2.1, a0.2.2.2.2.1, a0.2.2.2.2.2.1, a0.2.2.2.2.2.2.1, ()) r1) fun r2 =>
   .br (decide (r2.1 < (0 : Int))) (
    .leaf ((-1 : Int), ())) (
    .ob (V_l_heldEp (a0.2.2.2.2.2.2.2.1, a0.2.2.2.2.2.2.2.2.1, a0.2.2.2.2.2.2.2.2.2.1, a0.2.2.2.2.2.2.2.2.2.2.1, a0.2.2.2.2.2.2.2.2.2.2.2.1, ()) r2) fun r3 =>
    .br (decide (r3.1 < (0 : Int))) (
     .leaf ((-1 : Int), ())) (
     .ob (V_l_heldByteS (a0.2.2.2.2.2.2.2.2.2.2.2.2.2.2.1, ()) r3) fun r4 =>
     .br (decide (r4.1 < (0 : Int))) (
      .leaf ((-1 : Int), ())) (
      .leaf r4))))
def V_l_heldChan (a0 : YChan) (a1 : YI) : Option ((YI)) := (T_l_heldChan a0 a1).val
def B_l_heldCandS_2 (x1 : (List YCand) × Int × Int × Unit) : Option (((List YCand) × Int × Int × Unit) ⊕ ((YI) ⊕ (YI))) :=
  Tree.val (α := ((List YCand) × Int × Int × Unit) ⊕ ((YI) ⊕ (YI))) <|
  .br (decide (x1.2.2.1 < (x1.1.length : Int))) (
   .ob (idx x1.1 x1.2.2.1) fun e2 =>
   .br (e2.1 != x1.2.1) (
    .leaf (.inr (.inl ((-1 : Int), ())))) (
    .ob (idx x1.1 x1.2.2.1) fun e3 =>
    .br (e3.2.1 != (IntKind.i64.wrap (x1.2.1 + (1 : Int)))) (
     .leaf (.inr (.inl ((-1 : Int), ())))) (
     .ob (idx x1.1 x1.2.2.1) fun e4 =>
     .ob (V_l_heldByteS (e4.2.2.1, ()) ((IntKind.i64.wrap ((IntKind.i64.wrap (x1.2.1 + (1 : Int))) + (1 : Int))), ())) fun r5 =>
     .br (decide (r5.1 < (0 : Int))) (
      .leaf (.inr (.inl ((-1 : Int), ())))) (
      .ob (idx x1.1 x1.2.2.1) fun e6 =>
      .br (e6.2.2.2.1 != r5.1) (
       .leaf (.inr (.inl ((-1 : Int), ())))) (
       .leaf (.inl (x1.1, (IntKind.i64.wrap (r5.1 + (1 : Int))), (IntKind.i64.wrap (x1.2.2.1 + (1 : Int))), ()))))))) (
   .leaf (.inr (.inr (x1.2.1, ()))))
def T_l_heldCandS (a0 : (List YCand) × Unit) (a1 : YI) : Tree ((YI)) :=
  .ob (iterO B_l_heldCandS_2 (a0.1, a1.1, (0 : Int), ())) fun o7 =>
  .sm o7 (fun o8 =>
   .leaf o8) (fun o9 =>
   .leaf o9)
def V_l_heldCandS (a0 : (List YCand) × Unit) (a1 : YI) : Option ((YI)) := (T_l_heldCandS a0 a1).val
def T_l_heldPaths (a0 : YPaths) (a1 : YI) : Tree ((YI)) :=
  .ob (V_l_heldCandS (a0.2.2.1, ()) a1) fun r1 =>
  .br (decide (r1.1 < (0 : Int))) (
   .leaf ((-1 : Int), ())) (
   .leaf r1)
def V_l_heldPaths (a0 : YPaths) (a1 : YI) : Option ((YI)) := (T_l_heldPaths a0 a1).val
def T_l_heldSess (a0 : YSess) (a1 : YI) : Tree ((YI)) :=
  .ob (V_l_heldByteS (a0.2.1, ()) a1) fun r1 =>
  .br (decide (r1.1 < (0 : Int))) (
   .leaf ((-1 : Int), ())) (
   .ob (V_l_heldByteS (a0.2.2.1, ()) r1) fun r2 =>
   .br (decide (r2.1 < (0 : Int))) (
    .leaf ((-1 : Int), ())) (
    .ob (V_l_heldChan (a0.2.2.2.1, a0.2.2.2.2.1, a0.2.2.2.2.2.1, a0.2.2.2.2.2.2.1, a0.2.2.2.2.2.2.2.1, a0.2.2.2.2.2.2.2.2.1, a0.2.2.2.2.2.2.2.2.2.1, a0.2.2.2.2.2.2.2.2.2.2.1, a0.2.2.2.2.2.2.2.2.2.2.2.1, a0.2.2.2.2.2.2.2.2.2.2.2.2.1, a0.2.2.2.2.2.2.2.2.2.2.2.2.2.1, a0.2.2.2.2.2.2.2.2.2.2.2.2.2.2.1, a0.2.2.2.2.2.2.2.2.2.2.2.2.2.2.2.1, a0.2.2.2.2.2.2.2.2.2.2.2.2.2.2.2.2.1, a0.2.2.2.2.2.2.2.2.2.2.2.2.2.2.2.2.2.1, ()) r2) fun r3 =>
    .br (decide (r3.1 < (0 : Int))) (
     .leaf ((-1 : Int), ())) (
     .ob (V_l_heldPaths (a0.2.2.2.2.2.2.2.2.2.2.2.2.2.2.2.2.2.2.1, a0.2.2.2.2.2.2.2.2.2.2.2.2.2.2.2.2.2.2.2.1, a0.2.2.2.2.2.2.2.2.2.2.2.2.2.2.2.2.2.2.2.2.1, ()) r3) fun r4 =>
     .br (decide (r4.1 < (0 : Int))) (
      .leaf ((-1 : Int), ())) (
      .leaf r4))))
def V_l_heldSess (a0 : YSess) (a1 : YI) : Option ((YI)) := (T_l_heldSess a0 a1).val
def T_l_FnExactSessTick (a0 : YSess) (a1 : YI) : Tree ((Bool × Unit)) :=
  .ob (V_l_szSess a0 ((1048576 : Int), ())) fun r1 =>
  .br (decide (r1.1 < (0 : Int))) (
   .leaf (true, ())) (
   .ob (V_l_toSess a0) fun r2 =>
   .ob (V_s_SessTick r2 a1) fun r3 =>
   .ob (V_l_toSess a0) fun r4 =>
   .ob (V_i_SessTick r4 a1) fun r5 =>
   .ob (V_l_eqSess r5 r3) fun r6 =>
   .br (!r6.1) (
    .leaf (false, ())) (
    .ob (V_l_toSess a0) fun r7 =>
    .ob (V_l_eqSess r4 r7) fun r8 =>
    .br (!r8.1) (
     .leaf (false, ())) (
     .ob (V_l_markSess r4 ((1 : Int), ())) fun r9 =>
     .br (decide (r9.1.1 < (0 : Int))) (
      .leaf (false, ())) (
      .ob (V_l_eqSess r5 r3) fun r10 =>
      .br (!r10.1) (
       .leaf (false, ())) (
       .ob (V_l_markSess r5 ((1 : Int), ())) fun r11 =>
       .ob (V_l_heldSess (r5.1, r11.2.2.1, r11.2.2.2.1, r5.2.2.2.1, r11.2.2.2.2.2.1, r5.2.2.2.2.2.1, r11.2.2.2.2.2.2.2.1, r5.2.2.2.2.2.2.2.1, r5.2.2.2.2.2.2.2.2.1, r11.2.2.2.2.2.2.2.2.2.2.1, r5.2.2.2.2.2.2.2.2.2.2.1, r11.2.2.2.2.2.2.2.2.2.2.2.2.1, r5.2.2.2.2.2.2.2.2.2.2.2.2.1, r5.2.2.2.2.2.2.2.2.2.2.2.2.2.1, r11.2.2.2.2.2.2.2.2.2.2.2.2.2.2.2.1, r5.2.2.2.2.2.2.2.2.2.2.2.2.2.2.2.1, r5.2.2.2.2.2.2.2.2.2.2.2.2.2.2.2.2.1, r11.2.2.2.2.2.2.2.2.2.2.2.2.2.2.2.2.2.2.1, r5.2.2.2.2.2.2.2.2.2.2.2.2.2.2.2.2.2.2.1, r5.2.2.2.2.2.2.2.2.2.2.2.2.2.2.2.2.2.2.2.1, r11.2.2.2.2.2.2.2.2.2.2.2.2.2.2.2.2.2.2.2.2.2.1, r5.2.2.2.2.2.2.2.2.2.2.2.2.2.2.2.2.2.2.2.2.2.1, r5.2.2.2.2.2.2.2.2.2.2.2.2.2.2.2.2.2.2.2.2.2.2.1, r5.2.2.2.2.2.2.2.2.2.2.2.2.2.2.2.2.2.2.2.2.2.2.2.1, ()) ((1 : Int), ())) fun r12 =>
       .br (decide (r12.1 < (0 : Int))) (
        .leaf (false, ())) (
        .br (r12.1 != r11.1.1) (
         .leaf (false, ())) (
         .ob (V_l_toSess a0) fun r13 =>
         .ob (V_i_SessTick r13 a1) fun r14 =>
         .ob (V_l_eqSess r14 r3) fun r15 =>
         .br (!r15.1) (
          .leaf (false, ())) (
          .ob (V_l_heldSess (r5.1, r11.2.2.1, r11.2.2.2.1, r5.2.2.2.1, r11.2.2.2.2.2.1, r5.2.2.2.2.2.1, r11.2.2.2.2.2.2.2.1, r5.2.2.2.2.2.2.2.1, r5.2.2.2.2.2.2.2.2.1, r11.2.2.2.2.2.2.2.2.2.2.1, r5.2.2.2.2.2.2.2.2.2.2.1, r11.2.2.2.2.2.2.2.2.2.2.2.2.1, r5.2.2.2.2.2.2.2.2.2.2.2.2.1, r5.2.2.2.2.2.2.2.2.2.2.2.2.2.1, r11.2.2.2.2.2.2.2.2.2.2.2.2.2.2.2.1, r5.2.2.2.2.2.2.2.2.2.2.2.2.2.2.2.1, r5.2.2.2.2.2.2.2.2.2.2.2.2.2.2.2.2.1, r11.2.2.2.2.2.2.2.2.2.2.2.2.2.2.2.2.2.2.1, r5.2.2.2.2.2.2.2.2.2.2.2.2.2.2.2.2.2.2.1, r5.2.2.2.2.2.2.2.2.2.2.2.2.2.2.2.2.2.2.2.1, r11.2.2.2.2.2.2.2.2.2.2.2.2.2.2.2.2.2.2.2.2.2.1, r5.2.2.2.2.2.2.2.2.2.2.2.2.2.2.2.2.2.2.2.2.2.1, r5.2.2.2.2.2.2.2.2.2.2.2.2.2.2.2.2.2.2.2.2.2.2.1, r5.2.2.2.2.2.2.2.2.2.2.2.2.2.2.2.2.2.2.2.2.2.2.2.1, ()) ((1 : Int), ())) fun r16 =>
          .br (decide (r16.1 < (0 : Int))) (
           .leaf (false, ())) (
           .br (r16.1 != r11.1.1) (
            .leaf (false, ())) (
            .leaf (true, ())))))))))))
def V_l_FnExactSessTick (a0 : YSess) (a1 : YI) : Option ((Bool × Unit)) := (T_l_FnExactSessTick a0 a1).val
end
end Go.Proofs.Ytndbndcibmfgdaa

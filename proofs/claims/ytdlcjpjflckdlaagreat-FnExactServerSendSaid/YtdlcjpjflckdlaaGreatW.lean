/-
  What the functions of the seat answer, as plain terms (printed by a program, proved in the texts P); nothing is assumed.
-/
import Derived.Test.YtdlcjpjflckdlaaGreatEv2
namespace Go.Proofs.YtdlcjpjflckdlaaGreat
open Go.RowKit
set_option linter.unusedVariables false
set_option maxRecDepth 100000
set_option maxHeartbeats 4000000
noncomputable section
abbrev YB : Type := Int × Unit
abbrev YI : Type := Int × Unit
abbrev YBs : Type := List YB × Unit
abbrev YerrorAddressString : Type := ByteArray × Int × Unit
abbrev YAddr : Type := Int × Int × Unit
abbrev YDice : Type := (List YB) × Int × Unit
abbrev YWin : Type := Int × (List YI) × Unit
abbrev YboundsError : Type := Int × Int × Bool × Int × Unit
abbrev YTimer : Type := Bool × Int × Int × Int × Unit
abbrev YCredit : Type := Int × Int × Int × Int × Unit
abbrev YHash : Type := (List YI) × (List YB) × Int × Unit
abbrev YCand : Type := Int × Int × (List YB) × Int × Unit
abbrev YEp : Type := Int × (List YB) × Int × Int × (List YI) × Unit
abbrev YPaths : Type := Int × Int × (List YCand) × Unit
abbrev YNote : Type := Int × Int × Int × (List YB) × (List YB) × Int × Int × (List YB) × (List YB) × Int × Int × Int × Unit
abbrev YFrame : Type := Int × Int × (List YB) × (List YB) × Int × (List YB) × (List YB) × Int × Int × (List YB) × (List YB) × Unit
abbrev YOut : Type := Int × Int × Int × Int × (List YB) × (List YB) × Int × (List YB) × (List YB) × Int × Int × (List YB) × (List YB) × Unit
abbrev YChan : Type := Int × (List YB) × Int × (List YB) × Int × Int × (List YI) × Int × (List YB) × Int × Int × (List YI) × Bool × Int × (List YB) × Unit
abbrev YSess : Type := Int × (List YB) × (List YB) × Int × (List YB) × Int × (List YB) × Int × Int × (List YI) × Int × (List YB) × Int × Int × (List YI) × Bool × Int × (List YB) × Int × Int × (List YCand) × Int × Int × Bool × Unit
abbrev YTab : Type := Int × (List YSess) × Unit
abbrev YServer : Type := (List YBs) × (List YB) × (List YB) × Int × Int × (List YSess) × (List YCredit) × Unit
abbrev YClient : Type := Int × (List YB) × Int × Int × Int × (List YB) × Int × Int × (List YB) × (List YB) × Int × (List YB) × (List YB) × Int × Int × (List YB) × (List YB) × Int × (List YB) × Int × (List YB) × Int × Int × (List YI) × Int × (List YB) × Int × Int × (List YI) × Bool × Int × (List YB) × Bool × Int × Int × Int × Bool × Int × Int × Int × Int × Unit
def T_l_szByteS (a0 : YBs) (a1 : YI) : Tree ((YI)) :=
  .br (decide ((IntKind.i64.wrap (a1.1 - (a0.1.length : Int))) < (0 : Int))) (
   .leaf ((-1 : Int), ())) (
   .leaf ((IntKind.i64.wrap (a1.1 - (a0.1.length : Int))), ()))
def V_l_szByteS (a0 : YBs) (a1 : YI) : Option ((YI)) := (T_l_szByteS a0 a1).val
def B_l_szByteSS_5 (x1 : (List YBs) × Int × Int × Unit) : Option (((List YBs) × Int × Int × Unit) ⊕ ((YI) ⊕ (YI))) :=
  Tree.val (α := ((List YBs) × Int × Int × Unit) ⊕ ((YI) ⊕ (YI))) <|
  .br (decide (x1.2.2.1 < (x1.1.length : Int))) (
   .ob (idx x1.1 x1.2.2.1) fun e2 =>
   .ob (V_l_szByteS e2 (x1.2.1, ())) fun r3 =>
   .br (decide (r3.1 < (0 : Int))) (
    .leaf (.inr (.inl ((-1 : Int), ())))) (
    .leaf (.inl (x1.1, r3.1, (IntKind.i64.wrap (x1.2.2.1 + (1 : Int))), ())))) (
   .leaf (.inr (.inr (x1.2.1, ()))))
def T_l_szByteSS (a0 : (List YBs) × Unit) (a1 : YI) : Tree ((YI)) :=
  .br (decide ((IntKind.i64.wrap (a1.1 - (a0.1.length : Int))) < (0 : Int))) (
   .leaf ((-1 : Int), ())) (
   .ob (iterO B_l_szByteSS_5 (a0.1, (IntKind.i64.wrap (a1.1 - (a0.1.length : Int))), (0 : Int), ())) fun o4 =>
   .sm o4 (fun o5 =>
    .leaf o5) (fun o6 =>
    .leaf o6))
def V_l_szByteSS (a0 : (List YBs) × Unit) (a1 : YI) : Option ((YI)) := (T_l_szByteSS a0 a1).val
def T_l_szJar (a0 : YBs) (a1 : YI) : Tree ((YI)) :=
  .ob (V_l_szByteS a0 a1) fun r1 =>
  .br (decide (r1.1 < (0 : Int))) (
   .leaf ((-1 : Int), ())) (
   .leaf r1)
def V_l_szJar (a0 : YBs) (a1 : YI) : Option ((YI)) := (T_l_szJar a0 a1).val
def T_l_szDice (a0 : YDice) (a1 : YI) : Tree ((YI)) :=
  .ob (V_l_szByteS (a0.1, ()) a1) fun r1 =>
  .br (decide (r1.1 < (0 : Int))) (
   .leaf ((-1 : Int), ())) (
   .leaf r1)
def V_l_szDice (a0 : YDice) (a1 : YI) : Option ((YI)) := (T_l_szDice a0 a1).val
def T_l_szIntS (a0 : (List YI) × Unit) (a1 : YI) : Tree ((YI)) :=
  .br (decide ((IntKind.i64.wrap (a1.1 - (a0.1.length : Int))) < (0 : Int))) (
   .leaf ((-1 : Int), ())) (
   .leaf ((IntKind.i64.wrap (a1.1 - (a0.1.length : Int))), ()))
def V_l_szIntS (a0 : (List YI) × Unit) (a1 : YI) : Option ((YI)) := (T_l_szIntS a0 a1).val
def T_l_szWin (a0 : YWin) (a1 : YI) : Tree ((YI)) :=
  .ob (V_l_szIntS (a0.2.1, ()) a1) fun r1 =>
  .br (decide (r1.1 < (0 : Int))) (
   .leaf ((-1 : Int), ())) (
   .leaf r1)
def V_l_szWin (a0 : YWin) (a1 : YI) : Option ((YI)) := (T_l_szWin a0 a1).val
def T_l_szEp (a0 : YEp) (a1 : YI) : Tree ((YI)) :=
  .ob (V_l_szByteS (a0.2.1, ()) a1) fun r1 =>
  .br (decide (r1.1 < (0 : Int))) (
   .leaf ((-1 : Int), ())) (
   .ob (V_l_szWin (a0.2.2.2.1, a0.2.2.2.2.1, ()) r1) fun r2 =>
   .br (decide (r2.1 < (0 : Int))) (
    .leaf ((-1 : Int), ())) (
    .leaf r2))
def V_l_szEp (a0 : YEp) (a1 : YI) : Option ((YI)) := (T_l_szEp a0 a1).val
def T_l_szChan (a0 : YChan) (a1 : YI) : Tree ((YI)) :=
  .ob (V_l_szByteS (a0.2.1, ()) a1) fun r1 =>
  .br (decide (r1.1 < (0 : Int))) (
   .leaf ((-1 : Int), ())) (
   .ob (V_l_szEp (a0.2.2.1, a0.2.2.2.1, a0.2.2.2.2.1, a0.2.2.2.2.2.1, a0.2.2.2.2.2.2.1, ()) r1) fun r2 =>
   .br (decide (r2.1 < (0 : Int))) (
    .leaf ((-1 : Int), ())) (
    .ob (V_l_szEp (a0.2.2.2.2.2.2.2.1, a0.2.2.2.2.2.2.2.2.1, a0.2.2.2.2.2.2.2.2.2.1, a0.2.2.2.2.2.2.2.2.2.2.1, a0.2.2.2.2.2.2.2.2.2.2.2.1, ()) r2) fun r3 =>
    .br (decide (r3.1 < (0 : Int))) (
     .leaf ((-1 : Int), ())) (
     .ob (V_l_szByteS (a0.2.2.2.2.2.2.2.2.2.2.2.2.2.2.1, ()) r3) fun r4 =>
     .br (decide (r4.1 < (0 : Int))) (
      .leaf ((-1 : Int), ())) (
      .leaf r4))))
def V_l_szChan (a0 : YChan) (a1 : YI) : Option ((YI)) := (T_l_szChan a0 a1).val
def T_l_szCand (a0 : YCand) (a1 : YI) : Tree ((YI)) :=
  .ob (V_l_szByteS (a0.2.2.1, ()) a1) fun r1 =>
  .br (decide (r1.1 < (0 : Int))) (
   .leaf ((-1 : Int), ())) (
   .leaf r1)
def V_l_szCand (a0 : YCand) (a1 : YI) : Option ((YI)) := (T_l_szCand a0 a1).val
def B_l_szCandS_5 (x1 : (List YCand) × Int × Int × Unit) : Option (((List YCand) × Int × Int × Unit) ⊕ ((YI) ⊕ (YI))) :=
  Tree.val (α := ((List YCand) × Int × Int × Unit) ⊕ ((YI) ⊕ (YI))) <|
  .br (decide (x1.2.2.1 < (x1.1.length : Int))) (
   .ob (idx x1.1 x1.2.2.1) fun e2 =>
   .ob (V_l_szCand e2 (x1.2.1, ())) fun r3 =>
   .br (decide (r3.1 < (0 : Int))) (
    .leaf (.inr (.inl ((-1 : Int), ())))) (
    .leaf (.inl (x1.1, r3.1, (IntKind.i64.wrap (x1.2.2.1 + (1 : Int))), ())))) (
   .leaf (.inr (.inr (x1.2.1, ()))))
def T_l_szCandS (a0 : (List YCand) × Unit) (a1 : YI) : Tree ((YI)) :=
  .br (decide ((IntKind.i64.wrap (a1.1 - (a0.1.length : Int))) < (0 : Int))) (
   .leaf ((-1 : Int), ())) (
   .ob (iterO B_l_szCandS_5 (a0.1, (IntKind.i64.wrap (a1.1 - (a0.1.length : Int))), (0 : Int), ())) fun o4 =>
   .sm o4 (fun o5 =>
    .leaf o5) (fun o6 =>
    .leaf o6))
def V_l_szCandS (a0 : (List YCand) × Unit) (a1 : YI) : Option ((YI)) := (T_l_szCandS a0 a1).val
def T_l_szPaths (a0 : YPaths) (a1 : YI) : Tree ((YI)) :=
  .ob (V_l_szCandS (a0.2.2.1, ()) a1) fun r1 =>
  .br (decide (r1.1 < (0 : Int))) (
   .leaf ((-1 : Int), ())) (
   .leaf r1)
def V_l_szPaths (a0 : YPaths) (a1 : YI) : Option ((YI)) := (T_l_szPaths a0 a1).val
def T_l_szSess (a0 : YSess) (a1 : YI) : Tree ((YI)) :=
  .ob (V_l_szByteS (a0.2.1, ()) a1) fun r1 =>
  .br (decide (r1.1 < (0 : Int))) (
   .leaf ((-1 : Int), ())) (
   .ob (V_l_szByteS (a0.2.2.1, ()) r1) fun r2 =>
   .br (decide (r2.1 < (0 : Int))) (
    .leaf ((-1 : Int), ())) (
    .ob (V_l_szChan (a0.2.2.2.1, a0.2.2.2.2.1, a0.2.2.2.2.2.1, a0.2.2.2.2.2.2.1, a0.2.2.2.2.2.2.2.1, a0.2.2.2.2.2.2.2.2.1, a0.2.2.2.2.2.2.2.2.2.1, a0.2.2.2.2.2.2.2.2.2.2.1, a0.2.2.2.2.2.2.2.2.2.2.2.1, a0.2.2.2.2.2.2.2.2.2.2.2.2.1, a0.2.2.2.2.2.2.2.2.2.2.2.2.2.1, a0.2.2.2.2.2.2.2.2.2.2.2.2.2.2.1, a0.2.2.2.2.2.2.2.2.2.2.2.2.2.2.2.1, a0.2.2.2.2.2.2.2.2.2.2.2.2.2.2.2.2.1, a0.2.2.2.2.2.2.2.2.2.2.2.2.2.2.2.2.2.1, ()) r2) fun r3 =>
    .br (decide (r3.1 < (0 : Int))) (
     .leaf ((-1 : Int), ())) (
     .ob (V_l_szPaths (a0.2.2.2.2.2.2.2.2.2.2.2.2.2.2.2.2.2.2.1, a0.2.2.2.2.2.2.2.2.2.2.2.2.2.2.2.2.2.2.2.1, a0.2.2.2.2.2.2.2.2.2.2.2.2.2.2.2.2.2.2.2.2.1, ()) r3) fun r4 =>
     .br (decide (r4.1 < (0 : Int))) (
      .leaf ((-1 : Int), ())) (
      .leaf r4))))
def V_l_szSess (a0 : YSess) (a1 : YI) : Option ((YI)) := (T_l_szSess a0 a1).val
def B_l_szSessS_5 (x1 : (List YSess) × Int × Int × Unit) : Option (((List YSess) × Int × Int × Unit) ⊕ ((YI) ⊕ (YI))) :=
  Tree.val (α := ((List YSess) × Int × Int × Unit) ⊕ ((YI) ⊕ (YI))) <|
  .br (decide (x1.2.2.1 < (x1.1.length : Int))) (
   .ob (idx x1.1 x1.2.2.1) fun e2 =>
   .ob (V_l_szSess e2 (x1.2.1, ())) fun r3 =>
   .br (decide (r3.1 < (0 : Int))) (
    .leaf (.inr (.inl ((-1 : Int), ())))) (
    .leaf (.inl (x1.1, r3.1, (IntKind.i64.wrap (x1.2.2.1 + (1 : Int))), ())))) (
   .leaf (.inr (.inr (x1.2.1, ()))))
def T_l_szSessS (a0 : (List YSess) × Unit) (a1 : YI) : Tree ((YI)) :=
  .br (decide ((IntKind.i64.wrap (a1.1 - (a0.1.length : Int))) < (0 : Int))) (
   .leaf ((-1 : Int), ())) (
   .ob (iterO B_l_szSessS_5 (a0.1, (IntKind.i64.wrap (a1.1 - (a0.1.length : Int))), (0 : Int), ())) fun o4 =>
   .sm o4 (fun o5 =>
    .leaf o5) (fun o6 =>
    .leaf o6))
def V_l_szSessS (a0 : (List YSess) × Unit) (a1 : YI) : Option ((YI)) := (T_l_szSessS a0 a1).val
def T_l_szTab (a0 : YTab) (a1 : YI) : Tree ((YI)) :=
  .ob (V_l_szSessS (a0.2.1, ()) a1) fun r1 =>
  .br (decide (r1.1 < (0 : Int))) (
   .leaf ((-1 : Int), ())) (
   .leaf r1)
def V_l_szTab (a0 : YTab) (a1 : YI) : Option ((YI)) := (T_l_szTab a0 a1).val
def T_l_szCreditS (a0 : (List YCredit) × Unit) (a1 : YI) : Tree ((YI)) :=
  .br (decide ((IntKind.i64.wrap (a1.1 - (a0.1.length : Int))) < (0 : Int))) (
   .leaf ((-1 : Int), ())) (
   .leaf ((IntKind.i64.wrap (a1.1 - (a0.1.length : Int))), ()))
def V_l_szCreditS (a0 : (List YCredit) × Unit) (a1 : YI) : Option ((YI)) := (T_l_szCreditS a0 a1).val
def T_l_szServer (a0 : YServer) (a1 : YI) : Tree ((YI)) :=
  .ob (V_l_szByteSS (a0.1, ()) a1) fun r1 =>
  .br (decide (r1.1 < (0 : Int))) (
   .leaf ((-1 : Int), ())) (
   .ob (V_l_szJar (a0.2.1, ()) r1) fun r2 =>
   .br (decide (r2.1 < (0 : Int))) (
    .leaf ((-1 : Int), ())) (
    .ob (V_l_szDice (a0.2.2.1, a0.2.2.2.1, ()) r2) fun r3 =>
    .br (decide (r3.1 < (0 : Int))) (
     .leaf ((-1 : Int), ())) (
     .ob (V_l_szTab (a0.2.2.2.2.1, a0.2.2.2.2.2.1, ()) r3) fun r4 =>
     .br (decide (r4.1 < (0 : Int))) (
      .leaf ((-1 : Int), ())) (
      .ob (V_l_szCreditS (a0.2.2.2.2.2.2.1, ()) r4) fun r5 =>
      .br (decide (r5.1 < (0 : Int))) (
       .leaf ((-1 : Int), ())) (
       .leaf r5)))))
def V_l_szServer (a0 : YServer) (a1 : YI) : Option ((YI)) := (T_l_szServer a0 a1).val
def B_l_toByteS_3 (x1 : (List YB) × (List YB) × Int × Unit) : Option (((List YB) × (List YB) × Int × Unit) ⊕ ((YBs))) :=
  Tree.val (α := ((List YB) × (List YB) × Int × Unit) ⊕ ((YBs))) <|
  .br (decide (x1.2.2.1 < (x1.1.length : Int))) (
   .ob (idx x1.1 x1.2.2.1) fun e2 =>
   .ob (idx x1.2.1 x1.2.2.1) fun e3 =>
   let q4 := (x1.2.1.set (x1.2.2.1).toNat e2)
   .leaf (.inl (x1.1, q4, (IntKind.i64.wrap (x1.2.2.1 + (1 : Int))), ()))) (
   .leaf (.inr (x1.2.1, ())))
def T_l_toByteS (a0 : YBs) : Tree ((YBs)) :=
  .chk (decide ((0 : Int) ≤ (a0.1.length : Int))) <|
  .chk (decide ((a0.1.length : Int) ≤ (4294967296 : Int))) <|
  .chk (decide ((a0.1.length : Int) = (a0.1.length : Int))) <|
  .ob (iterO B_l_toByteS_3 (a0.1, (List.replicate ((a0.1.length : Int)).toNat ((0 : Int), ())), (0 : Int), ())) fun o5 =>
  .leaf o5
def V_l_toByteS (a0 : YBs) : Option ((YBs)) := (T_l_toByteS a0).val
def B_l_toByteSS_3 (x1 : (List YBs) × (List YBs) × Int × Unit) : Option (((List YBs) × (List YBs) × Int × Unit) ⊕ (((List YBs) × Unit))) :=
  Tree.val (α := ((List YBs) × (List YBs) × Int × Unit) ⊕ (((List YBs) × Unit))) <|
  .br (decide (x1.2.2.1 < (x1.1.length : Int))) (
   .ob (idx x1.1 x1.2.2.1) fun e2 =>
   .ob (V_l_toByteS e2) fun r3 =>
   .ob (idx x1.2.1 x1.2.2.1) fun e4 =>
   let q5 := (x1.2.1.set (x1.2.2.1).toNat r3)
   .leaf (.inl (x1.1, q5, (IntKind.i64.wrap (x1.2.2.1 + (1 : Int))), ()))) (
   .leaf (.inr (x1.2.1, ())))
def T_l_toByteSS (a0 : (List YBs) × Unit) : Tree (((List YBs) × Unit)) :=
  .chk (decide ((0 : Int) ≤ (a0.1.length : Int))) <|
  .chk (decide ((a0.1.length : Int) ≤ (4294967296 : Int))) <|
  .chk (decide ((a0.1.length : Int) = (a0.1.length : Int))) <|
  .ob (iterO B_l_toByteSS_3 (a0.1, (List.replicate ((a0.1.length : Int)).toNat (([] : List YB), ())), (0 : Int), ())) fun o6 =>
  .leaf o6
def V_l_toByteSS (a0 : (List YBs) × Unit) : Option (((List YBs) × Unit)) := (T_l_toByteSS a0).val
def T_l_toJar (a0 : YBs) : Tree ((YBs)) :=
  .ob (V_l_toByteS a0) fun r1 =>
  .leaf r1
def V_l_toJar (a0 : YBs) : Option ((YBs)) := (T_l_toJar a0).val
def T_l_toDice (a0 : YDice) : Tree ((YDice)) :=
  .ob (V_l_toByteS (a0.1, ())) fun r1 =>
  .leaf (r1.1, a0.2.1, ())
def V_l_toDice (a0 : YDice) : Option ((YDice)) := (T_l_toDice a0).val
def B_l_toIntS_3 (x1 : (List YI) × (List YI) × Int × Unit) : Option (((List YI) × (List YI) × Int × Unit) ⊕ (((List YI) × Unit))) :=
  Tree.val (α := ((List YI) × (List YI) × Int × Unit) ⊕ (((List YI) × Unit))) <|
  .br (decide (x1.2.2.1 < (x1.1.length : Int))) (
   .ob (idx x1.1 x1.2.2.1) fun e2 =>
   .ob (idx x1.2.1 x1.2.2.1) fun e3 =>
   let q4 := (x1.2.1.set (x1.2.2.1).toNat e2)
   .leaf (.inl (x1.1, q4, (IntKind.i64.wrap (x1.2.2.1 + (1 : Int))), ()))) (
   .leaf (.inr (x1.2.1, ())))
def T_l_toIntS (a0 : (List YI) × Unit) : Tree (((List YI) × Unit)) :=
  .chk (decide ((0 : Int) ≤ (a0.1.length : Int))) <|
  .chk (decide ((a0.1.length : Int) ≤ (4294967296 : Int))) <|
  .chk (decide ((a0.1.length : Int) = (a0.1.length : Int))) <|
  .ob (iterO B_l_toIntS_3 (a0.1, (List.replicate ((a0.1.length : Int)).toNat ((0 : Int), ())), (0 : Int), ())) fun o5 =>
  .leaf o5
def V_l_toIntS (a0 : (List YI) × Unit) : Option (((List YI) × Unit)) := (T_l_toIntS a0).val
def T_l_toWin (a0 : YWin) : Tree ((YWin)) :=
  .ob (V_l_toIntS (a0.2.1, ())) fun r1 =>
  .leaf (a0.1, r1.1, ())
def V_l_toWin (a0 : YWin) : Option ((YWin)) := (T_l_toWin a0).val
def T_l_toEp (a0 : YEp) : Tree ((YEp)) :=
  .ob (V_l_toByteS (a0.2.1, ())) fun r1 =>
  .ob (V_l_toWin (a0.2.2.2.1, a0.2.2.2.2.1, ())) fun r2 =>
  .leaf (a0.1, r1.1, a0.2.2.1, r2.1, r2.2.1, ())
def V_l_toEp (a0 : YEp) : Option ((YEp)) := (T_l_toEp a0).val
def T_l_toChan (a0 : YChan) : Tree ((YChan)) :=
  .ob (V_l_toByteS (a0.2.1, ())) fun r1 =>
  .ob (V_l_toEp (a0.2.2.1, a0.2.2.2.1, a0.2.2.2.2.1, a0.2.2.2.2.2.1, a0.2.2.2.2.2.2.1, ())) fun r2 =>
  .ob (V_l_toEp (a0.2.2.2.2.2.2.2.1, a0.2.2.2.2.2.2.2.2.1, a0.2.2.2.2.2.2.2.2.2.1, a0.2.2.2.2.2.2.2.2.2.2.1, a0.2.2.2.2.2.2.2.2.2.2.2.1, ())) fun r3 =>
  .ob (V_l_toByteS (a0.2.2.2.2.2.2.2.2.2.2.2.2.2.2.1, ())) fun r4 =>
  .leaf (a0.1, r1.1, r2.1, r2.2.1, r2.2.2.1, r2.2.2.2.1, r2.2.2.2.2.1, r3.1, r3.2.1, r3.2.2.1, r3.2.2.2.1, r3.2.2.2.2.1, a0.2.2.2.2.2.2.2.2.2.2.2.2.1, a0.2.2.2.2.2.2.2.2.2.2.2.2.2.1, r4.1, ())
def V_l_toChan (a0 : YChan) : Option ((YChan)) := (T_l_toChan a0).val
def T_l_toAddr (a0 : YAddr) : Tree ((YAddr)) :=
  .leaf a0
def V_l_toAddr (a0 : YAddr) : Option ((YAddr)) := (T_l_toAddr a0).val
def T_l_toCand (a0 : YCand) : Tree ((YCand)) :=
  .ob (V_l_toAddr (a0.1, a0.2.1, ())) fun r1 =>
  .ob (V_l_toByteS (a0.2.2.1, ())) fun r2 =>
  .leaf (r1.1, r1.2.1, r2.1, a0.2.2.2.1, ())
def V_l_toCand (a0 : YCand) : Option ((YCand)) := (T_l_toCand a0).val
def B_l_toCandS_3 (x1 : (List YCand) × (List YCand) × Int × Unit) : Option (((List YCand) × (List YCand) × Int × Unit) ⊕ (((List YCand) × Unit))) :=
  Tree.val (α := ((List YCand) × (List YCand) × Int × Unit) ⊕ (((List YCand) × Unit))) <|
  .br (decide (x1.2.2.1 < (x1.1.length : Int))) (
   .ob (idx x1.1 x1.2.2.1) fun e2 =>
   .ob (V_l_toCand e2) fun r3 =>
   .ob (idx x1.2.1 x1.2.2.1) fun e4 =>
   let q5 := (x1.2.1.set (x1.2.2.1).toNat r3)
   .leaf (.inl (x1.1, q5, (IntKind.i64.wrap (x1.2.2.1 + (1 : Int))), ()))) (
   .leaf (.inr (x1.2.1, ())))
def T_l_toCandS (a0 : (List YCand) × Unit) : Tree (((List YCand) × Unit)) :=
  .chk (decide ((0 : Int) ≤ (a0.1.length : Int))) <|
  .chk (decide ((a0.1.length : Int) ≤ (4294967296 : Int))) <|
  .chk (decide ((a0.1.length : Int) = (a0.1.length : Int))) <|
  .ob (iterO B_l_toCandS_3 (a0.1, (List.replicate ((a0.1.length : Int)).toNat ((0 : Int), (0 : Int), ([] : List YB), (0 : Int), ())), (0 : Int), ())) fun o6 =>
  .leaf o6
def V_l_toCandS (a0 : (List YCand) × Unit) : Option (((List YCand) × Unit)) := (T_l_toCandS a0).val
def T_l_toPaths (a0 : YPaths) : Tree ((YPaths)) :=
  .ob (V_l_toAddr (a0.1, a0.2.1, ())) fun r1 =>
  .ob (V_l_toCandS (a0.2.2.1, ())) fun r2 =>
  .leaf (r1.1, r1.2.1, r2.1, ())
def V_l_toPaths (a0 : YPaths) : Option ((YPaths)) := (T_l_toPaths a0).val
def T_l_toSess (a0 : YSess) : Tree ((YSess)) :=
  .ob (V_l_toByteS (a0.2.1, ())) fun r1 =>
  .ob (V_l_toByteS (a0.2.2.1, ())) fun r2 =>
  .ob (V_l_toChan (a0.2.2.2.1, a0.2.2.2.2.1, a0.2.2.2.2.2.1, a0.2.2.2.2.2.2.1, a0.2.2.2.2.2.2.2.1, a0.2.2.2.2.2.2.2.2.1, a0.2.2.2.2.2.2.2.2.2.1, a0.2.2.2.2.2.2.2.2.2.2.1, a0.2.2.2.2.2.2.2.2.2.2.2.1, a0.2.2.2.2.2.2.2.2.2.2.2.2.1, a0.2.2.2.2.2.2.2.2.2.2.2.2.2.1, a0.2.2.2.2.2.2.2.2.2.2.2.2.2.2.1, a0.2.2.2.2.2.2.2.2.2.2.2.2.2.2.2.1, a0.2.2.2.2.2.2.2.2.2.2.2.2.2.2.2.2.1, a0.2.2.2.2.2.2.2.2.2.2.2.2.2.2.2.2.2.1, ())) fun r3 =>
  .ob (V_l_toPaths (a0.2.2.2.2.2.2.2.2.2.2.2.2.2.2.2.2.2.2.1, a0.2.2.2.2.2.2.2.2.2.2.2.2.2.2.2.2.2.2.2.1, a0.2.2.2.2.2.2.2.2.2.2.2.2.2.2.2.2.2.2.2.2.1, ())) fun r4 =>
  .leaf (a0.1, r1.1, r2.1, r3.1, r3.2.1, r3.2.2.1, r3.2.2.2.1, r3.2.2.2.2.1, r3.2.2.2.2.2.1, r3.2.2.2.2.2.2.1, r3.2.2.2.2.2.2.2.1, r3.2.2.2.2.2.2.2.2.1, r3.2.2.2.2.2.2.2.2.2.1, r3.2.2.2.2.2.2.2.2.2.2.1, r3.2.2.2.2.2.2.2.2.2.2.2.1, r3.2.2.2.2.2.2.2.2.2.2.2.2.1, r3.2.2.2.2.2.2.2.2.2.2.2.2.2.1, r3.2.2.2.2.2.2.2.2.2.2.2.2.2.2.1, r4.1, r4.2.1, r4.2.2.1, a0.2.2.2.2.2.2.2.2.2.2.2.2.2.2.2.2.2.2.2.2.2.1, a0.2.2.2.2.2.2.2.2.2.2.2.2.2.2.2.2.2.2.2.2.2.2.1, a0.2.2.2.2.2.2.2.2.2.2.2.2.2.2.2.2.2.2.2.2.2.2.2.1, ())
def V_l_toSess (a0 : YSess) : Option ((YSess)) := (T_l_toSess a0).val
def B_l_toSessS_3 (x1 : (List YSess) × (List YSess) × Int × Unit) : Option (((List YSess) × (List YSess) × Int × Unit) ⊕ (((List YSess) × Unit))) :=
  Tree.val (α := ((List YSess) × (List YSess) × Int × Unit) ⊕ (((List YSess) × Unit))) <|
  .br (decide (x1.2.2.1 < (x1.1.length : Int))) (
   .ob (idx x1.1 x1.2.2.1) fun e2 =>
   .ob (V_l_toSess e2) fun r3 =>
   .ob (idx x1.2.1 x1.2.2.1) fun e4 =>
   let q5 := (x1.2.1.set (x1.2.2.1).toNat r3)
   .leaf (.inl (x1.1, q5, (IntKind.i64.wrap (x1.2.2.1 + (1 : Int))), ()))) (
   .leaf (.inr (x1.2.1, ())))
def T_l_toSessS (a0 : (List YSess) × Unit) : Tree (((List YSess) × Unit)) :=
  .chk (decide ((0 : Int) ≤ (a0.1.length : Int))) <|
  .chk (decide ((a0.1.length : Int) ≤ (4294967296 : Int))) <|
  .chk (decide ((a0.1.length : Int) = (a0.1.length : Int))) <|
  .ob (iterO B_l_toSessS_3 (a0.1, (List.replicate ((a0.1.length : Int)).toNat ((0 : Int), ([] : List YB), ([] : List YB), (0 : Int), ([] : List YB), (0 : Int), ([] : List YB), (0 : Int), (0 : Int), ([] : List YI), (0 : Int), ([] : List YB), (0 : Int), (0 : Int), ([] : List YI), false, (0 : Int), ([] : List YB), (0 : Int), (0 : Int), ([] : List YCand), (0 : Int), (0 : Int), false, ())), (0 : Int), ())) fun o6 =>
  .leaf o6
def V_l_toSessS (a0 : (List YSess) × Unit) : Option (((List YSess) × Unit)) := (T_l_toSessS a0).val
def T_l_toTab (a0 : YTab) : Tree ((YTab)) :=
  .ob (V_l_toSessS (a0.2.1, ())) fun r1 =>
  .leaf (a0.1, r1.1, ())
def V_l_toTab (a0 : YTab) : Option ((YTab)) := (T_l_toTab a0).val
def T_l_toCredit (a0 : YCredit) : Tree ((YCredit)) :=
  .ob (V_l_toAddr (a0.1, a0.2.1, ())) fun r1 =>
  .leaf (r1.1, r1.2.1, a0.2.2.1, a0.2.2.2.1, ())
def V_l_toCredit (a0 : YCredit) : Option ((YCredit)) := (T_l_toCredit a0).val
def B_l_toCreditS_3 (x1 : (List YCredit) × (List YCredit) × Int × Unit) : Option (((List YCredit) × (List YCredit) × Int × Unit) ⊕ (((List YCredit) × Unit))) :=
  Tree.val (α := ((List YCredit) × (List YCredit) × Int × Unit) ⊕ (((List YCredit) × Unit))) <|
  .br (decide (x1.2.2.1 < (x1.1.length : Int))) (
   .ob (idx x1.1 x1.2.2.1) fun e2 =>
   .ob (V_l_toCredit e2) fun r3 =>
   .ob (idx x1.2.1 x1.2.2.1) fun e4 =>
   let q5 := (x1.2.1.set (x1.2.2.1).toNat r3)
   .leaf (.inl (x1.1, q5, (IntKind.i64.wrap (x1.2.2.1 + (1 : Int))), ()))) (
   .leaf (.inr (x1.2.1, ())))
def T_l_toCreditS (a0 : (List YCredit) × Unit) : Tree (((List YCredit) × Unit)) :=
  .chk (decide ((0 : Int) ≤ (a0.1.length : Int))) <|
  .chk (decide ((a0.1.length : Int) ≤ (4294967296 : Int))) <|
  .chk (decide ((a0.1.length : Int) = (a0.1.length : Int))) <|
  .ob (iterO B_l_toCreditS_3 (a0.1, (List.replicate ((a0.1.length : Int)).toNat ((0 : Int), (0 : Int), (0 : Int), (0 : Int), ())), (0 : Int), ())) fun o6 =>
  .leaf o6
def V_l_toCreditS (a0 : (List YCredit) × Unit) : Option (((List YCredit) × Unit)) := (T_l_toCreditS a0).val
def T_l_toServer (a0 : YServer) : Tree ((YServer)) :=
  .ob (V_l_toByteSS (a0.1, ())) fun r1 =>
  .ob (V_l_toJar (a0.2.1, ())) fun r2 =>
  .ob (V_l_toDice (a0.2.2.1, a0.2.2.2.1, ())) fun r3 =>
  .ob (V_l_toTab (a0.2.2.2.2.1, a0.2.2.2.2.2.1, ())) fun r4 =>
  .ob (V_l_toCreditS (a0.2.2.2.2.2.2.1, ())) fun r5 =>
  .leaf (r1.1, r2.1, r3.1, r3.2.1, r4.1, r4.2.1, r5.1, ())
def V_l_toServer (a0 : YServer) : Option ((YServer)) := (T_l_toServer a0).val
def T_s_l10Copy (a0 : YDice) : Tree ((YDice)) :=
  .chk (decide (([] : List YB).length + a0.1.length ≤ 4294967296)) <|
  .leaf ((([] : List YB) ++ a0.1), a0.2.1, ())
def V_s_l10Copy (a0 : YDice) : Option ((YDice)) := (T_s_l10Copy a0).val
def T_s_l8Copy (a0 : YWin) : Tree ((YWin)) :=
  .chk (decide (([] : List YI).length + a0.2.1.length ≤ 4294967296)) <|
  .leaf (a0.1, (([] : List YI) ++ a0.2.1), ())
def V_s_l8Copy (a0 : YWin) : Option ((YWin)) := (T_s_l8Copy a0).val
def T_s_l9Copy (a0 : YEp) : Tree ((YEp)) :=
  .chk (decide (([] : List YB).length + a0.2.1.length ≤ 4294967296)) <|
  .ob (V_s_l8Copy (a0.2.2.2.1, a0.2.2.2.2.1, ())) fun r1 =>
  .leaf (a0.1, (([] : List YB) ++ a0.2.1), a0.2.2.1, r1.1, r1.2.1, ())
def V_s_l9Copy (a0 : YEp) : Option ((YEp)) := (T_s_l9Copy a0).val
def T_s_l14Ep (a0 : YEp) (a1 : Bool × Unit) : Tree ((YEp)) :=
  .br (!a1.1) (
   .chk (decide (([] : List YB).length + a0.2.1.length ≤ 4294967296)) <|
   .chk (decide (([] : List YI).length + a0.2.2.2.2.1.length ≤ 4294967296)) <|
   .leaf (a0.1, (([] : List YB) ++ a0.2.1), a0.2.2.1, a0.2.2.2.1, (([] : List YI) ++ a0.2.2.2.2.1), ())) (
   .ob (V_s_l9Copy a0) fun r1 =>
   .leaf r1)
def V_s_l14Ep (a0 : YEp) (a1 : Bool × Unit) : Option ((YEp)) := (T_s_l14Ep a0 a1).val
def T_s_l14Copy (a0 : YChan) : Tree ((YChan)) :=
  .chk (decide (([] : List YB).length + a0.2.1.length ≤ 4294967296)) <|
  .ob (V_s_l9Copy (a0.2.2.1, a0.2.2.2.1, a0.2.2.2.2.1, a0.2.2.2.2.2.1, a0.2.2.2.2.2.2.1, ())) fun r1 =>
  .ob (V_s_l14Ep (a0.2.2.2.2.2.2.2.1, a0.2.2.2.2.2.2.2.2.1, a0.2.2.2.2.2.2.2.2.2.1, a0.2.2.2.2.2.2.2.2.2.2.1, a0.2.2.2.2.2.2.2.2.2.2.2.1, ()) (a0.2.2.2.2.2.2.2.2.2.2.2.2.1, ())) fun r2 =>
  .chk (decide (([] : List YB).length + a0.2.2.2.2.2.2.2.2.2.2.2.2.2.2.1.length ≤ 4294967296)) <|
  .leaf (a0.1, (([] : List YB) ++ a0.2.1), r1.1, r1.2.1, r1.2.2.1, r1.2.2.2.1, r1.2.2.2.2.1, r2.1, r2.2.1, r2.2.2.1, r2.2.2.2.1, r2.2.2.2.2.1, a0.2.2.2.2.2.2.2.2.2.2.2.2.1, a0.2.2.2.2.2.2.2.2.2.2.2.2.2.1, (([] : List YB) ++ a0.2.2.2.2.2.2.2.2.2.2.2.2.2.2.1), ())
def V_s_l14Copy (a0 : YChan) : Option ((YChan)) := (T_s_l14Copy a0).val
def T_s_l16Cand (a0 : YCand) : Tree ((YCand)) :=
  .chk (decide (([] : List YB).length + a0.2.2.1.length ≤ 4294967296)) <|
  .leaf (a0.1, a0.2.1, (([] : List YB) ++ a0.2.2.1), a0.2.2.2.1, ())
def V_s_l16Cand (a0 : YCand) : Option ((YCand)) := (T_s_l16Cand a0).val
def B_s_l16Copy_3 (x1 : Int × Int × Int × (List YCand) × Int × Int × (List YCand) × Int × Int × (List YCand) × Unit) : Option ((Int × Int × Int × (List YCand) × Int × Int × (List YCand) × Int × Int × (List YCand) × Unit) ⊕ ((Int × Int × (List YCand) × Int × Int × (List YCand) × Unit))) :=
  Tree.val (α := (Int × Int × Int × (List YCand) × Int × Int × (List YCand) × Int × Int × (List YCand) × Unit) ⊕ ((Int × Int × (List YCand) × Int × Int × (List YCand) × Unit))) <|
  .br (decide (x1.1 < (x1.2.2.2.1.length : Int))) (
   .ob (idx x1.2.2.2.1 x1.1) fun e2 =>
   .ob (V_s_l16Cand e2) fun r3 =>
   .chk (decide (x1.2.2.2.2.2.2.2.2.2.1.length + [r3].length ≤ 4294967296)) <|
   .leaf (.inl ((IntKind.i64.wrap (x1.1 + (1 : Int))), x1.2.1, x1.2.2.1, x1.2.2.2.1, x1.2.2.2.2.1, x1.2.2.2.2.2.1, x1.2.2.2.2.2.2.1, x1.2.2.2.2.2.2.2.1, x1.2.2.2.2.2.2.2.2.1, (x1.2.2.2.2.2.2.2.2.2.1 ++ [r3]), ()))) (
   .leaf (.inr (x1.2.2.2.2.1, x1.2.2.2.2.2.1, x1.2.2.2.2.2.2.1, x1.2.2.2.2.2.2.2.1, x1.2.2.2.2.2.2.2.2.1, x1.2.2.2.2.2.2.2.2.2.1, ())))
def T_s_l16Copy (a0 : YPaths) : Tree ((YPaths)) :=
  .ob (iterO B_s_l16Copy_3 ((0 : Int), a0.1, a0.2.1, a0.2.2.1, (0 : Int), (0 : Int), ([] : List YCand), a0.1, a0.2.1, ([] : List YCand), ())) fun o4 =>
  .leaf (o4.2.2.2.1, o4.2.2.2.2.1, o4.2.2.2.2.2.1, ())
def V_s_l16Copy (a0 : YPaths) : Option ((YPaths)) := (T_s_l16Copy a0).val
def T_s_l20Copy (a0 : YSess) : Tree ((YSess)) :=
  .chk (decide (([] : List YB).length + a0.2.1.length ≤ 4294967296)) <|
  .chk (decide (([] : List YB).length + a0.2.2.1.length ≤ 4294967296)) <|
  .ob (V_s_l14Copy (a0.2.2.2.1, a0.2.2.2.2.1, a0.2.2.2.2.2.1, a0.2.2.2.2.2.2.1, a0.2.2.2.2.2.2.2.1, a0.2.2.2.2.2.2.2.2.1, a0.2.2.2.2.2.2.2.2.2.1, a0.2.2.2.2.2.2.2.2.2.2.1, a0.2.2.2.2.2.2.2.2.2.2.2.1, a0.2.2.2.2.2.2.2.2.2.2.2.2.1, a0.2.2.2.2.2.2.2.2.2.2.2.2.2.1, a0.2.2.2.2.2.2.2.2.2.2.2.2.2.2.1, a0.2.2.2.2.2.2.2.2.2.2.2.2.2.2.2.1, a0.2.2.2.2.2.2.2.2.2.2.2.2.2.2.2.2.1, a0.2.2.2.2.2.2.2.2.2.2.2.2.2.2.2.2.2.1, ())) fun r1 =>
  .ob (V_s_l16Copy (a0.2.2.2.2.2.2.2.2.2.2.2.2.2.2.2.2.2.2.1, a0.2.2.2.2.2.2.2.2.2.2.2.2.2.2.2.2.2.2.2.1, a0.2.2.2.2.2.2.2.2.2.2.2.2.2.2.2.2.2.2.2.2.1, ())) fun r2 =>
  .leaf (a0.1, (([] : List YB) ++ a0.2.1), (([] : List YB) ++ a0.2.2.1), r1.1, r1.2.1, r1.2.2.1, r1.2.2.2.1, r1.2.2.2.2.1, r1.2.2.2.2.2.1, r1.2.2.2.2.2.2.1, r1.2.2.2.2.2.2.2.1, r1.2.2.2.2.2.2.2.2.1, r1.2.2.2.2.2.2.2.2.2.1, r1.2.2.2.2.2.2.2.2.2.2.1, r1.2.2.2.2.2.2.2.2.2.2.2.1, r1.2.2.2.2.2.2.2.2.2.2.2.2.1, r1.2.2.2.2.2.2.2.2.2.2.2.2.2.1, r1.2.2.2.2.2.2.2.2.2.2.2.2.2.2.1, r2.1, r2.2.1, r2.2.2.1, a0.2.2.2.2.2.2.2.2.2.2.2.2.2.2.2.2.2.2.2.2.2.1, a0.2.2.2.2.2.2.2.2.2.2.2.2.2.2.2.2.2.2.2.2.2.2.1, a0.2.2.2.2.2.2.2.2.2.2.2.2.2.2.2.2.2.2.2.2.2.2.2.1, ())
def V_s_l20Copy (a0 : YSess) : Option ((YSess)) := (T_s_l20Copy a0).val
def B_s_l21Copy_3 (x1 : Int × Int × (List YSess) × Int × (List YSess) × Int × (List YSess) × Unit) : Option ((Int × Int × (List YSess) × Int × (List YSess) × Int × (List YSess) × Unit) ⊕ ((Int × (List YSess) × Int × (List YSess) × Unit))) :=
  Tree.val (α := (Int × Int × (List YSess) × Int × (List YSess) × Int × (List YSess) × Unit) ⊕ ((Int × (List YSess) × Int × (List YSess) × Unit))) <|
  .br (decide (x1.1 < (x1.2.2.1.length : Int))) (
   .ob (idx x1.2.2.1 x1.1) fun e2 =>
   .ob (V_s_l20Copy e2) fun r3 =>
   .chk (decide (x1.2.2.2.2.2.2.1.length + [r3].length ≤ 4294967296)) <|
   .leaf (.inl ((IntKind.i64.wrap (x1.1 + (1 : Int))), x1.2.1, x1.2.2.1, x1.2.2.2.1, x1.2.2.2.2.1, x1.2.2.2.2.2.1, (x1.2.2.2.2.2.2.1 ++ [r3]), ()))) (
   .leaf (.inr (x1.2.2.2.1, x1.2.2.2.2.1, x1.2.2.2.2.2.1, x1.2.2.2.2.2.2.1, ())))
def T_s_l21Copy (a0 : YTab) : Tree ((YTab)) :=
  .ob (iterO B_s_l21Copy_3 ((0 : Int), a0.1, a0.2.1, (0 : Int), ([] : List YSess), a0.1, ([] : List YSess), ())) fun o4 =>
  .leaf (o4.2.2.1, o4.2.2.2.1, ())
def V_s_l21Copy (a0 : YTab) : Option ((YTab)) := (T_s_l21Copy a0).val
def B_s_l22Copy_3 (x3 : Int × (List YBs) × (List YB) × (List YB) × Int × Int × (List YSess) × (List YCredit) × (List YBs) × (List YB) × (List YB) × Int × Int × (List YSess) × (List YCredit) × (List YBs) × (List YB) × (List YB) × Int × Int × (List YSess) × (List YCredit) × Unit) : Option ((Int × (List YBs) × (List YB) × (List YB) × Int × Int × (List YSess) × (List YCredit) × (List YBs) × (List YB) × (List YB) × Int × Int × (List YSess) × (List YCredit) × (List YBs) × (List YB) × (List YB) × Int × Int × (List YSess) × (List YCredit) × Unit) ⊕ (((List YBs) × (List YB) × (List YB) × Int × Int × (List YSess) × (List YCredit) × (List YBs) × (List YB) × (List YB) × Int × Int × (List YSess) × (List YCredit) × Unit))) :=
  Tree.val (α := (Int × (List YBs) × (List YB) × (List YB) × Int × Int × (List YSess) × (List YCredit) × (List YBs) × (List YB) × (List YB) × Int × Int × (List YSess) × (List YCredit) × (List YBs) × (List YB) × (List YB) × Int × Int × (List YSess) × (List YCredit) × Unit) ⊕ (((List YBs) × (List YB) × (List YB) × Int × Int × (List YSess) × (List YCredit) × (List YBs) × (List YB) × (List YB) × Int × Int × (List YSess) × (List YCredit) × Unit))) <|
  .br (decide (x3.1 < (x3.2.1.length : Int))) (
   .ob (idx x3.2.1 x3.1) fun e4 =>
   .chk (decide (([] : List YB).length + e4.1.length ≤ 4294967296)) <|
   .chk (decide (x3.2.2.2.2.2.2.2.2.2.2.2.2.2.2.2.1.length + [((([] : List YB) ++ e4.1), ())].length ≤ 4294967296)) <|
   .leaf (.inl ((IntKind.i64.wrap (x3.1 + (1 : Int))), x3.2.1, x3.2.2.1, x3.2.2.2.1, x3.2.2.2.2.1, x3.2.2.2.2.2.1, x3.2.2.2.2.2.2.1, x3.2.2.2.2.2.2.2.1, x3.2.2.2.2.2.2.2.2.1, x3.2.2.2.2.2.2.2.2.2.1, x3.2.2.2.2.2.2.2.2.2.2.1, x3.2.2.2.2.2.2.2.2.2.2.2.1, x3.2.2.2.2.2.2.2.2.2.2.2.2.1, x3.2.2.2.2.2.2.2.2.2.2.2.2.2.1, x3.2.2.2.2.2.2.2.2.2.2.2.2.2.2.1, (x3.2.2.2.2.2.2.2.2.2.2.2.2.2.2.2.1 ++ [((([] : List YB) ++ e4.1), ())]), x3.2.2.2.2.2.2.2.2.2.2.2.2.2.2.2.2.1, x3.2.2.2.2.2.2.2.2.2.2.2.2.2.2.2.2.2.1, x3.2.2.2.2.2.2.2.2.2.2.2.2.2.2.2.2.2.2.1, x3.2.2.2.2.2.2.2.2.2.2.2.2.2.2.2.2.2.2.2.1, x3.2.2.2.2.2.2.2.2.2.2.2.2.2.2.2.2.2.2.2.2.1, x3.2.2.2.2.2.2.2.2.2.2.2.2.2.2.2.2.2.2.2.2.2.1, ()))) (
   .leaf (.inr (x3.2.2.2.2.2.2.2.2.1, x3.2.2.2.2.2.2.2.2.2.1, x3.2.2.2.2.2.2.2.2.2.2.1, x3.2.2.2.2.2.2.2.2.2.2.2.1, x3.2.2.2.2.2.2.2.2.2.2.2.2.1, x3.2.2.2.2.2.2.2.2.2.2.2.2.2.1, x3.2.2.2.2.2.2.2.2.2.2.2.2.2.2.1, x3.2.2.2.2.2.2.2.2.2.2.2.2.2.2.2.1, x3.2.2.2.2.2.2.2.2.2.2.2.2.2.2.2.2.1, x3.2.2.2.2.2.2.2.2.2.2.2.2.2.2.2.2.2.1, x3.2.2.2.2.2.2.2.2.2.2.2.2.2.2.2.2.2.2.1, x3.2.2.2.2.2.2.2.2.2.2.2.2.2.2.2.2.2.2.2.1, x3.2.2.2.2.2.2.2.2.2.2.2.2.2.2.2.2.2.2.2.2.1, x3.2.2.2.2.2.2.2.2.2.2.2.2.2.2.2.2.2.2.2.2.2.1, ())))
def T_s_l22Copy (a0 : YServer) : Tree ((YServer)) :=
  .chk (decide (([] : List YB).length + a0.2.1.length ≤ 4294967296)) <|
  .ob (V_s_l10Copy (a0.2.2.1, a0.2.2.2.1, ())) fun r1 =>
  .ob (V_s_l21Copy (a0.2.2.2.2.1, a0.2.2.2.2.2.1, ())) fun r2 =>
  .chk (decide (([] : List YCredit).length + a0.2.2.2.2.2.2.1.length ≤ 4294967296)) <|
  .ob (iterO B_s_l22Copy_3 ((0 : Int), a0.1, a0.2.1, a0.2.2.1, a0.2.2.2.1, a0.2.2.2.2.1, a0.2.2.2.2.2.1, a0.2.2.2.2.2.2.1, ([] : List YBs), ([] : List YB), ([] : List YB), (0 : Int), (0 : Int), ([] : List YSess), ([] : List YCredit), ([] : List YBs), (([] : List YB) ++ a0.2.1), r1.1, r1.2.1, r2.1, r2.2.1, (([] : List YCredit) ++ a0.2.2.2.2.2.2.1), ())) fun o5 =>
  .leaf (o5.2.2.2.2.2.2.2.1, o5.2.2.2.2.2.2.2.2.1, o5.2.2.2.2.2.2.2.2.2.1, o5.2.2.2.2.2.2.2.2.2.2.1, o5.2.2.2.2.2.2.2.2.2.2.2.1, o5.2.2.2.2.2.2.2.2.2.2.2.2.1, o5.2.2.2.2.2.2.2.2.2.2.2.2.2.1, ())
def V_s_l22Copy (a0 : YServer) : Option ((YServer)) := (T_s_l22Copy a0).val
def T_s_l1In (a0 : YI) (a1 : YI) (a2 : YI) : Tree ((Bool × Unit)) :=
  .br (decide (a0.1 ≥ a1.1)) (
   .leaf ((decide (a0.1 ≤ a2.1)), ())) (
   .leaf (false, ()))
def V_s_l1In (a0 : YI) (a1 : YI) (a2 : YI) : Option ((Bool × Unit)) := (T_s_l1In a0 a1 a2).val
def T_s_JarOk (a0 : YBs) : Tree ((Bool × Unit)) :=
  .leaf (((a0.1.length : Int) == (32 : Int)), ())
def V_s_JarOk (a0 : YBs) : Option ((Bool × Unit)) := (T_s_JarOk a0).val
def T_s_DiceOk (a0 : YDice) : Tree ((Bool × Unit)) :=
  .ob (V_s_l1In ((a0.1.length : Int), ()) ((1 : Int), ()) ((32 : Int), ())) fun r1 =>
  .br r1.1 (
   .ob (V_s_l1In (a0.2.1, ()) ((0 : Int), ()) ((10000 : Int), ())) fun r2 =>
   .leaf r2) (
   .leaf (false, ()))
def V_s_DiceOk (a0 : YDice) : Option ((Bool × Unit)) := (T_s_DiceOk a0).val
def B_s_Live_3 (x1 : Int × Int × Int × (List YSess) × Unit) : Option ((Int × Int × Int × (List YSess) × Unit) ⊕ ((YI))) :=
  Tree.val (α := (Int × Int × Int × (List YSess) × Unit) ⊕ ((YI))) <|
  .br (decide (x1.2.1 < (x1.2.2.2.1.length : Int))) (
   .ob (idx x1.2.2.2.1 x1.2.1) fun e2 =>
   .br (!e2.2.2.2.2.2.2.2.2.2.2.2.2.2.2.2.2.2.2.2.2.2.2.2.1) (
    .leaf (.inl ((IntKind.i64.wrap (x1.1 + (1 : Int))), (IntKind.i64.wrap (x1.2.1 + (1 : Int))), x1.2.2.1, x1.2.2.2.1, ()))) (
    .leaf (.inl (x1.1, (IntKind.i64.wrap (x1.2.1 + (1 : Int))), x1.2.2.1, x1.2.2.2.1, ())))) (
   .leaf (.inr (x1.1, ())))
def T_s_Live (a0 : YTab) : Tree ((YI)) :=
  .ob (iterO B_s_Live_3 ((0 : Int), (0 : Int), a0.1, a0.2.1, ())) fun o3 =>
  .leaf o3
def V_s_Live (a0 : YTab) : Option ((YI)) := (T_s_Live a0).val
def T_s_l14None (a0 : YEp) : Tree ((Bool × Unit)) :=
  .br (a0.1 == (0 : Int)) (
   .br ((a0.2.1.length : Int) == (0 : Int)) (
    .br (a0.2.2.1 == (0 : Int)) (
     .br (a0.2.2.2.1 == (0 : Int)) (
      .leaf (((a0.2.2.2.2.1.length : Int) == (0 : Int)), ())) (
      .leaf (false, ()))) (
     .leaf (false, ()))) (
    .leaf (false, ()))) (
   .leaf (false, ()))
def V_s_l14None (a0 : YEp) : Option ((Bool × Unit)) := (T_s_l14None a0).val
def T_s_l19NoChan (a0 : YChan) : Tree ((Bool × Unit)) :=
  .br (a0.1 == (0 : Int)) (
   .br ((a0.2.1.length : Int) == (0 : Int)) (
    .ob (V_s_l14None (a0.2.2.1, a0.2.2.2.1, a0.2.2.2.2.1, a0.2.2.2.2.2.1, a0.2.2.2.2.2.2.1, ())) fun r1 =>
    .br r1.1 (
     .ob (V_s_l14None (a0.2.2.2.2.2.2.2.1, a0.2.2.2.2.2.2.2.2.1, a0.2.2.2.2.2.2.2.2.2.1, a0.2.2.2.2.2.2.2.2.2.2.1, a0.2.2.2.2.2.2.2.2.2.2.2.1, ())) fun r2 =>
     .br r2.1 (
      .br (!a0.2.2.2.2.2.2.2.2.2.2.2.2.1) (
       .br (a0.2.2.2.2.2.2.2.2.2.2.2.2.2.1 == (0 : Int)) (
        .leaf (((a0.2.2.2.2.2.2.2.2.2.2.2.2.2.2.1.length : Int) == (0 : Int)), ())) (
        .leaf (false, ()))) (
       .leaf (false, ()))) (
      .leaf (false, ()))) (
     .leaf (false, ()))) (
    .leaf (false, ()))) (
   .leaf (false, ()))
def V_s_l19NoChan (a0 : YChan) : Option ((Bool × Unit)) := (T_s_l19NoChan a0).val
def T_s_Near (a0 : YI) : Tree ((YAddr)) :=
  .ob (V_s_l1In a0 ((0 : Int), ()) ((255 : Int), ())) fun r1 =>
  .br (!r1.1) (
   .leaf ((0 : Int), (0 : Int), ())) (
   .leaf ((IntKind.i64.wrap ((167772160 : Int) + a0.1)), (IntKind.i64.wrap ((7000 : Int) + a0.1)), ()))
def V_s_Near (a0 : YI) : Option ((YAddr)) := (T_s_Near a0).val
def T_s_l8Bit (a0 : YWin) (a1 : YI) : Tree ((Bool × Unit)) :=
  .chk (decide ((0 : Int) ≤ a1.1)) <|
  .chk (decide ((0 : Int) ≤ (a1.1 % (1024 : Int)))) <|
  .ob (idx a0.2.1 ((a1.1 % (1024 : Int)) / (32 : Int))) fun e1 =>
  .chk (decide ((0 : Int) ≤ (a1.1 % (1024 : Int)))) <|
  .chk (decide ((0 : Int) ≤ ((a1.1 % (1024 : Int)) % (32 : Int)))) <|
  .leaf (((IntKind.i64.wrap ((BitVec.ofInt (IntKind.i64.bits) ((Int.fdiv e1.1 (2 ^ (min (((a1.1 % (1024 : Int)) % (32 : Int))).toNat IntKind.i64.bits)))) &&& BitVec.ofInt (IntKind.i64.bits) ((1 : Int))).toNat : Nat)) == (1 : Int)), ())
def V_s_l8Bit (a0 : YWin) (a1 : YI) : Option ((Bool × Unit)) := (T_s_l8Bit a0 a1).val
def B_s_WinOk_4 (x2 : Int × Int × (List YI) × Unit) : Option ((Int × Int × (List YI) × Unit) ⊕ ((Bool × Unit) ⊕ (YWin))) :=
  Tree.val (α := (Int × Int × (List YI) × Unit) ⊕ ((Bool × Unit) ⊕ (YWin))) <|
  .br (decide (x2.1 < (32 : Int))) (
   .ob (idx x2.2.2.1 x2.1) fun e3 =>
   .ob (V_s_l1In e3 ((0 : Int), ()) ((4294967295 : Int), ())) fun r4 =>
   .br (!r4.1) (
    .leaf (.inr (.inl (false, ())))) (
    .leaf (.inl ((IntKind.i64.wrap (x2.1 + (1 : Int))), x2.2.1, x2.2.2.1, ())))) (
   .leaf (.inr (.inr (x2.2.1, x2.2.2.1, ()))))
def B_s_WinOk_11 (x9 : Int × Int × (List YI) × Unit) : Option ((Int × Int × (List YI) × Unit) ⊕ ((Bool × Unit) ⊕ (Unit))) :=
  Tree.val (α := (Int × Int × (List YI) × Unit) ⊕ ((Bool × Unit) ⊕ (Unit))) <|
  .br (decide (x9.1 < (1024 : Int))) (
   .ob (V_s_l8Bit (x9.2.1, x9.2.2.1, ()) (x9.1, ())) fun r10 =>
   .br r10.1 (
    .leaf (.inr (.inl (false, ())))) (
    .leaf (.inl ((IntKind.i64.wrap (x9.1 + (1 : Int))), x9.2.1, x9.2.2.1, ())))) (
   .leaf (.inr (.inr ())))
def T_s_WinOk (a0 : YWin) : Tree ((Bool × Unit)) :=
  .br ((a0.2.1.length : Int) != (32 : Int)) (
   .leaf (false, ())) (
   .ob (V_s_l1In (a0.1, ()) ((-1 : Int), ()) ((281474976710655 : Int), ())) fun r1 =>
   .br (!r1.1) (
    .leaf (false, ())) (
    .ob (iterO B_s_WinOk_4 ((0 : Int), a0.1, a0.2.1, ())) fun o5 =>
    .sm o5 (fun o6 =>
     .leaf o6) (fun o7 =>
     .br (decide (o7.1 ≥ (0 : Int))) (
      .ob (V_s_l8Bit o7 (o7.1, ())) fun r8 =>
      .br (!r8.1) (
       .leaf (false, ())) (
       .ob (iterO B_s_WinOk_11 ((IntKind.i64.wrap (o7.1 + (1 : Int))), o7.1, o7.2.1, ())) fun o11 =>
       .sm o11 (fun o12 =>
        .leaf o12) (fun o13 =>
        .leaf (true, ())))) (
      .ob (iterO B_s_WinOk_11 ((IntKind.i64.wrap (o7.1 + (1 : Int))), o7.1, o7.2.1, ())) fun o14 =>
      .sm o14 (fun o15 =>
       .leaf o15) (fun o16 =>
       .leaf (true, ()))))))
def V_s_WinOk (a0 : YWin) : Option ((Bool × Unit)) := (T_s_WinOk a0).val
def T_s_EpOk (a0 : YEp) : Tree ((Bool × Unit)) :=
  .ob (V_s_l1In (a0.1, ()) ((0 : Int), ()) ((4294967295 : Int), ())) fun r1 =>
  .br r1.1 (
   .br ((a0.2.1.length : Int) == (32 : Int)) (
    .ob (V_s_l1In (a0.2.2.1, ()) ((0 : Int), ()) ((281474976710656 : Int), ())) fun r2 =>
    .br r2.1 (
     .ob (V_s_WinOk (a0.2.2.2.1, a0.2.2.2.2.1, ())) fun r3 =>
     .leaf r3) (
     .leaf (false, ()))) (
    .leaf (false, ()))) (
   .leaf (false, ()))
def V_s_EpOk (a0 : YEp) : Option ((Bool × Unit)) := (T_s_EpOk a0).val
def T_s_ChanOk (a0 : YChan) : Tree ((Bool × Unit)) :=
  .ob (V_s_l1In (a0.1, ()) ((0 : Int), ()) ((1 : Int), ())) fun r1 =>
  .br (!r1.1) (
   .leaf (false, ())) (
   .br ((a0.2.1.length : Int) != (12 : Int)) (
    .leaf (false, ())) (
    .ob (V_s_EpOk (a0.2.2.1, a0.2.2.2.1, a0.2.2.2.2.1, a0.2.2.2.2.2.1, a0.2.2.2.2.2.2.1, ())) fun r2 =>
    .br (!r2.1) (
     .leaf (false, ())) (
     .br a0.2.2.2.2.2.2.2.2.2.2.2.2.1 (
      .br (a0.1 == (0 : Int)) (
       .ob (V_s_EpOk (a0.2.2.2.2.2.2.2.1, a0.2.2.2.2.2.2.2.2.1, a0.2.2.2.2.2.2.2.2.2.1, a0.2.2.2.2.2.2.2.2.2.2.1, a0.2.2.2.2.2.2.2.2.2.2.2.1, ())) fun r3 =>
       .br (!r3.1) (
        .leaf (false, ())) (
        .br (a0.2.2.2.2.2.2.2.1 != (IntKind.i64.wrap (a0.2.2.1 - (1 : Int)))) (
         .leaf (false, ())) (
         .ob (V_s_l1In (a0.2.2.2.2.2.2.2.2.2.2.2.2.2.1, ()) ((0 : Int), ()) ((1000005 : Int), ())) fun r4 =>
         .br (!r4.1) (
          .leaf (false, ())) (
          .br ((a0.2.2.2.2.2.2.2.2.2.2.2.2.2.2.1.length : Int) == (0 : Int)) (
           .leaf (true, ())) (
           .br (a0.1 == (0 : Int)) (
            .br ((a0.2.2.2.2.2.2.2.2.2.2.2.2.2.2.1.length : Int) == (32 : Int)) (
             .leaf ((decide (a0.2.2.1 < (4294967295 : Int))), ())) (
             .leaf (false, ()))) (
            .leaf (false, ()))))))) (
       .ob (V_s_EpOk (a0.2.2.2.2.2.2.2.1, a0.2.2.2.2.2.2.2.2.1, a0.2.2.2.2.2.2.2.2.2.1, a0.2.2.2.2.2.2.2.2.2.2.1, a0.2.2.2.2.2.2.2.2.2.2.2.1, ())) fun r5 =>
       .br (!r5.1) (
        .leaf (false, ())) (
        .br (a0.2.2.2.2.2.2.2.1 != (IntKind.i64.wrap (a0.2.2.1 - (1 : Int)))) (
         .leaf (false, ())) (
         .ob (V_s_l1In (a0.2.2.2.2.2.2.2.2.2.2.2.2.2.1, ()) ((-1 : Int), ()) ((1000005 : Int), ())) fun r6 =>
         .br (!r6.1) (
          .leaf (false, ())) (
          .br ((a0.2.2.2.2.2.2.2.2.2.2.2.2.2.2.1.length : Int) == (0 : Int)) (
           .leaf (true, ())) (
           .br (a0.1 == (0 : Int)) (
            .br ((a0.2.2.2.2.2.2.2.2.2.2.2.2.2.2.1.length : Int) == (32 : Int)) (
             .leaf ((decide (a0.2.2.1 < (4294967295 : Int))), ())) (
             .leaf (false, ()))) (
            .leaf (false, ())))))))) (
      .ob (V_s_l14None (a0.2.2.2.2.2.2.2.1, a0.2.2.2.2.2.2.2.2.1, a0.2.2.2.2.2.2.2.2.2.1, a0.2.2.2.2.2.2.2.2.2.2.1, a0.2.2.2.2.2.2.2.2.2.2.2.1, ())) fun r7 =>
      .br (!r7.1) (
       .leaf (false, ())) (
       .br (a0.2.2.2.2.2.2.2.2.2.2.2.2.2.1 != (0 : Int)) (
        .leaf (false, ())) (
        .br ((a0.2.2.2.2.2.2.2.2.2.2.2.2.2.2.1.length : Int) == (0 : Int)) (
         .leaf (true, ())) (
         .br (a0.1 == (0 : Int)) (
          .br ((a0.2.2.2.2.2.2.2.2.2.2.2.2.2.2.1.length : Int) == (32 : Int)) (
           .leaf ((decide (a0.2.2.1 < (4294967295 : Int))), ())) (
           .leaf (false, ()))) (
          .leaf (false, ())))))))))
def V_s_ChanOk (a0 : YChan) : Option ((Bool × Unit)) := (T_s_ChanOk a0).val
def T_s_l1Same (a0 : YBs) (a1 : YBs) : Tree ((Bool × Unit)) :=
  .leaf ((decide ((bstr a0.1) = (bstr a1.1))), ())
def V_s_l1Same (a0 : YBs) (a1 : YBs) : Option ((Bool × Unit)) := (T_s_l1Same a0 a1).val
def T_s_AddrOk (a0 : YAddr) : Tree ((Bool × Unit)) :=
  .ob (V_s_l1In (a0.1, ()) ((0 : Int), ()) ((4294967295 : Int), ())) fun r1 =>
  .br r1.1 (
   .ob (V_s_l1In (a0.2.1, ()) ((0 : Int), ()) ((65535 : Int), ())) fun r2 =>
   .leaf r2) (
   .leaf (false, ()))
def V_s_AddrOk (a0 : YAddr) : Option ((Bool × Unit)) := (T_s_AddrOk a0).val
def B_s_PathsOk_10 (x6 : Int × Int × Int × Int × (List YCand) × Int × Int × (List YB) × Int × Unit) : Option ((Int × Int × Int × Int × (List YCand) × Int × Int × (List YB) × Int × Unit) ⊕ ((Bool × Unit) ⊕ (Int × Int × Int × (List YCand) × Unit))) :=
  Tree.val (α := (Int × Int × Int × Int × (List YCand) × Int × Int × (List YB) × Int × Unit) ⊕ ((Bool × Unit) ⊕ (Int × Int × Int × (List YCand) × Unit))) <|
  .br (decide (x6.2.1 < x6.1)) (
   .ob (idx x6.2.2.2.2.1 x6.2.1) fun e7 =>
   .br (and (e7.1 == x6.2.2.2.2.2.1) (and (e7.2.1 == x6.2.2.2.2.2.2.1) true)) (
    .leaf (.inr (.inl (false, ())))) (
    .leaf (.inl (x6.1, (IntKind.i64.wrap (x6.2.1 + (1 : Int))), x6.2.2.1, x6.2.2.2.1, x6.2.2.2.2.1, x6.2.2.2.2.2.1, x6.2.2.2.2.2.2.1, x6.2.2.2.2.2.2.2.1, x6.2.2.2.2.2.2.2.2.1, ())))) (
   .leaf (.inr (.inr (x6.1, x6.2.2.1, x6.2.2.2.1, x6.2.2.2.2.1, ()))))
def B_s_PathsOk_4 (x2 : Int × Int × Int × (List YCand) × Unit) : Option ((Int × Int × Int × (List YCand) × Unit) ⊕ ((Bool × Unit) ⊕ (Unit))) :=
  Tree.val (α := (Int × Int × Int × (List YCand) × Unit) ⊕ ((Bool × Unit) ⊕ (Unit))) <|
  .br (decide (x2.1 < (x2.2.2.2.1.length : Int))) (
   .ob (idx x2.2.2.2.1 x2.1) fun e3 =>
   .ob (V_s_AddrOk (e3.1, e3.2.1, ())) fun r4 =>
   .br (!r4.1) (
    .leaf (.inr (.inl (false, ())))) (
    .br ((e3.2.2.1.length : Int) != (12 : Int)) (
     .leaf (.inr (.inl (false, ())))) (
     .ob (V_s_l1In (e3.2.2.2.1, ()) ((0 : Int), ()) ((1000006 : Int), ())) fun r5 =>
     .br (!r5.1) (
      .leaf (.inr (.inl (false, ())))) (
      .br (and (e3.1 == x2.2.1) (and (e3.2.1 == x2.2.2.1) true)) (
       .leaf (.inr (.inl (false, ())))) (
       .ob (iterO B_s_PathsOk_10 (x2.1, (0 : Int), x2.2.1, x2.2.2.1, x2.2.2.2.1, e3.1, e3.2.1, e3.2.2.1, e3.2.2.2.1, ())) fun o8 =>
       .sm o8 (fun o9 =>
        .leaf (.inr (.inl o9))) (fun o10 =>
        .leaf (.inl ((IntKind.i64.wrap (o10.1 + (1 : Int))), o10.2.1, o10.2.2.1, o10.2.2.2.1, ())))))))) (
   .leaf (.inr (.inr ())))
def T_s_PathsOk (a0 : YPaths) : Tree ((Bool × Unit)) :=
  .ob (V_s_AddrOk (a0.1, a0.2.1, ())) fun r1 =>
  .br (!r1.1) (
   .leaf (false, ())) (
   .br (decide ((a0.2.2.1.length : Int) > (3 : Int))) (
    .leaf (false, ())) (
    .ob (iterO B_s_PathsOk_4 ((0 : Int), a0.1, a0.2.1, a0.2.2.1, ())) fun o11 =>
    .sm o11 (fun o12 =>
     .leaf o12) (fun o13 =>
     .leaf (true, ()))))
def V_s_PathsOk (a0 : YPaths) : Option ((Bool × Unit)) := (T_s_PathsOk a0).val
def T_s_SessOk (a0 : YSess) : Tree ((Bool × Unit)) :=
  .ob (V_s_l1In (a0.1, ()) ((1 : Int), ()) ((9 : Int), ())) fun r1 =>
  .br (!r1.1) (
   .leaf (false, ())) (
   .br ((a0.2.1.length : Int) != (12 : Int)) (
    .leaf (false, ())) (
    .br ((a0.2.2.1.length : Int) != (12 : Int)) (
     .leaf (false, ())) (
     .ob (V_s_l1In (a0.2.2.2.2.2.2.2.2.2.2.2.2.2.2.2.2.2.2.2.2.2.1, ()) ((0 : Int), ()) ((1000000 : Int), ())) fun r2 =>
     .br (!r2.1) (
      .leaf (false, ())) (
      .ob (V_s_l1In (a0.2.2.2.2.2.2.2.2.2.2.2.2.2.2.2.2.2.2.2.2.2.2.1, ()) ((0 : Int), ()) ((1000000 : Int), ())) fun r3 =>
      .br (!r3.1) (
       .leaf (false, ())) (
       .br a0.2.2.2.2.2.2.2.2.2.2.2.2.2.2.2.2.2.2.2.2.2.2.2.1 (
        .ob (V_s_l19NoChan (a0.2.2.2.1, a0.2.2.2.2.1, a0.2.2.2.2.2.1, a0.2.2.2.2.2.2.1, a0.2.2.2.2.2.2.2.1, a0.2.2.2.2.2.2.2.2.1, a0.2.2.2.2.2.2.2.2.2.1, a0.2.2.2.2.2.2.2.2.2.2.1, a0.2.2.2.2.2.2.2.2.2.2.2.1, a0.2.2.2.2.2.2.2.2.2.2.2.2.1, a0.2.2.2.2.2.2.2.2.2.2.2.2.2.1, a0.2.2.2.2.2.2.2.2.2.2.2.2.2.2.1, a0.2.2.2.2.2.2.2.2.2.2.2.2.2.2.2.1, a0.2.2.2.2.2.2.2.2.2.2.2.2.2.2.2.2.1, a0.2.2.2.2.2.2.2.2.2.2.2.2.2.2.2.2.2.1, ())) fun r4 =>
        .br r4.1 (
         .ob (V_s_Near ((-1 : Int), ())) fun r5 =>
         .br (and (a0.2.2.2.2.2.2.2.2.2.2.2.2.2.2.2.2.2.2.1 == r5.1) (and (a0.2.2.2.2.2.2.2.2.2.2.2.2.2.2.2.2.2.2.2.1 == r5.2.1) true)) (
          .br ((a0.2.2.2.2.2.2.2.2.2.2.2.2.2.2.2.2.2.2.2.2.1.length : Int) == (0 : Int)) (
           .leaf ((a0.2.2.2.2.2.2.2.2.2.2.2.2.2.2.2.2.2.2.2.2.2.2.1 == (0 : Int)), ())) (
           .leaf (false, ()))) (
          .leaf (false, ()))) (
         .leaf (false, ()))) (
        .ob (V_s_ChanOk (a0.2.2.2.1, a0.2.2.2.2.1, a0.2.2.2.2.2.1, a0.2.2.2.2.2.2.1, a0.2.2.2.2.2.2.2.1, a0.2.2.2.2.2.2.2.2.1, a0.2.2.2.2.2.2.2.2.2.1, a0.2.2.2.2.2.2.2.2.2.2.1, a0.2.2.2.2.2.2.2.2.2.2.2.1, a0.2.2.2.2.2.2.2.2.2.2.2.2.1, a0.2.2.2.2.2.2.2.2.2.2.2.2.2.1, a0.2.2.2.2.2.2.2.2.2.2.2.2.2.2.1, a0.2.2.2.2.2.2.2.2.2.2.2.2.2.2.2.1, a0.2.2.2.2.2.2.2.2.2.2.2.2.2.2.2.2.1, a0.2.2.2.2.2.2.2.2.2.2.2.2.2.2.2.2.2.1, ())) fun r6 =>
        .br r6.1 (
         .br (a0.2.2.2.1 == (1 : Int)) (
          .ob (V_s_l1Same (a0.2.2.2.2.1, ()) (a0.2.2.1, ())) fun r7 =>
          .br r7.1 (
           .ob (V_s_PathsOk (a0.2.2.2.2.2.2.2.2.2.2.2.2.2.2.2.2.2.2.1, a0.2.2.2.2.2.2.2.2.2.2.2.2.2.2.2.2.2.2.2.1, a0.2.2.2.2.2.2.2.2.2.2.2.2.2.2.2.2.2.2.2.2.1, ())) fun r8 =>
           .leaf r8) (
           .leaf (false, ()))) (
          .leaf (false, ()))) (
         .leaf (false, ()))))))))
def V_s_SessOk (a0 : YSess) : Option ((Bool × Unit)) := (T_s_SessOk a0).val
def B_s_FindSn_2 (x1 : (List YB) × Int × Int × (List YSess) × Unit) : Option (((List YB) × Int × Int × (List YSess) × Unit) ⊕ ((YI) ⊕ (Unit))) :=
  Tree.val (α := ((List YB) × Int × Int × (List YSess) × Unit) ⊕ ((YI) ⊕ (Unit))) <|
  .br (decide (x1.2.1 < (x1.2.2.2.1.length : Int))) (
   .ob (idx x1.2.2.2.1 x1.2.1) fun e2 =>
   .ob (V_s_l1Same (e2.2.2.1, ()) (x1.1, ())) fun r3 =>
   .br r3.1 (
    .leaf (.inr (.inl (x1.2.1, ())))) (
    .leaf (.inl (x1.1, (IntKind.i64.wrap (x1.2.1 + (1 : Int))), x1.2.2.1, x1.2.2.2.1, ())))) (
   .leaf (.inr (.inr ())))
def T_s_FindSn (a0 : YTab) (a1 : YBs) : Tree ((YI)) :=
  .ob (iterO B_s_FindSn_2 (a1.1, (0 : Int), a0.1, a0.2.1, ())) fun o4 =>
  .sm o4 (fun o5 =>
   .leaf o5) (fun o6 =>
   .leaf ((-1 : Int), ()))
def V_s_FindSn (a0 : YTab) (a1 : YBs) : Option ((YI)) := (T_s_FindSn a0 a1).val
def B_s_TabOk_4 (x3 : Int × Int × (List YSess) × Unit) : Option ((Int × Int × (List YSess) × Unit) ⊕ ((Bool × Unit) ⊕ (Unit))) :=
  Tree.val (α := (Int × Int × (List YSess) × Unit) ⊕ ((Bool × Unit) ⊕ (Unit))) <|
  .br (decide (x3.1 < (x3.2.2.1.length : Int))) (
   .ob (idx x3.2.2.1 x3.1) fun e4 =>
   .ob (V_s_SessOk e4) fun r5 =>
   .br (!r5.1) (
    .leaf (.inr (.inl (false, ())))) (
    .ob (idx x3.2.2.1 x3.1) fun e6 =>
    .ob (V_s_FindSn (x3.2.1, x3.2.2.1, ()) (e6.2.2.1, ())) fun r7 =>
    .br (r7.1 != x3.1) (
     .leaf (.inr (.inl (false, ())))) (
     .leaf (.inl ((IntKind.i64.wrap (x3.1 + (1 : Int))), x3.2.1, x3.2.2.1, ()))))) (
   .leaf (.inr (.inr ())))
def T_s_TabOk (a0 : YTab) : Tree ((Bool × Unit)) :=
  .ob (V_s_l1In (a0.1, ()) ((1 : Int), ()) ((6 : Int), ())) fun r1 =>
  .br (!r1.1) (
   .leaf (false, ())) (
   .br (decide ((a0.2.1.length : Int) > (12 : Int))) (
    .leaf (false, ())) (
    .ob (V_s_Live a0) fun r2 =>
    .br (decide (r2.1 > a0.1)) (
     .leaf (false, ())) (
     .ob (iterO B_s_TabOk_4 ((0 : Int), a0.1, a0.2.1, ())) fun o8 =>
     .sm o8 (fun o9 =>
      .leaf o9) (fun o10 =>
      .leaf (true, ())))))
def V_s_TabOk (a0 : YTab) : Option ((Bool × Unit)) := (T_s_TabOk a0).val
def B_s_CreditsOk_9 (x9 : (List YCredit) × Int × Int × Unit) : Option (((List YCredit) × Int × Int × Unit) ⊕ ((Bool × Unit) ⊕ ((List YCredit) × Int × Unit))) :=
  Tree.val (α := ((List YCredit) × Int × Int × Unit) ⊕ ((Bool × Unit) ⊕ ((List YCredit) × Int × Unit))) <|
  .br (decide (x9.2.2.1 < x9.2.1)) (
   .ob (idx x9.1 x9.2.2.1) fun e10 =>
   .ob (idx x9.1 x9.2.1) fun e11 =>
   .br (and (e10.1 == e11.1) (and (e10.2.1 == e11.2.1) true)) (
    .leaf (.inr (.inl (false, ())))) (
    .leaf (.inl (x9.1, x9.2.1, (IntKind.i64.wrap (x9.2.2.1 + (1 : Int))), ())))) (
   .leaf (.inr (.inr (x9.1, x9.2.1, ()))))
def B_s_CreditsOk_4 (x1 : (List YCredit) × Int × Unit) : Option (((List YCredit) × Int × Unit) ⊕ ((Bool × Unit) ⊕ (Unit))) :=
  Tree.val (α := ((List YCredit) × Int × Unit) ⊕ ((Bool × Unit) ⊕ (Unit))) <|
  .br (decide (x1.2.1 < (x1.1.length : Int))) (
   .ob (idx x1.1 x1.2.1) fun e2 =>
   .ob (V_s_AddrOk (e2.1, e2.2.1, ())) fun r3 =>
   .br (!r3.1) (
    .leaf (.inr (.inl (false, ())))) (
    .ob (idx x1.1 x1.2.1) fun e4 =>
    .ob (V_s_l1In (e4.2.2.1, ()) ((0 : Int), ()) ((1000000 : Int), ())) fun r5 =>
    .br (!r5.1) (
     .leaf (.inr (.inl (false, ())))) (
     .ob (idx x1.1 x1.2.1) fun e6 =>
     .ob (idx x1.1 x1.2.1) fun e7 =>
     .ob (V_s_l1In (e6.2.2.2.1, ()) ((0 : Int), ()) ((IntKind.i64.wrap ((3 : Int) * e7.2.2.1)), ())) fun r8 =>
     .br (!r8.1) (
      .leaf (.inr (.inl (false, ())))) (
      .ob (iterO B_s_CreditsOk_9 (x1.1, x1.2.1, (0 : Int), ())) fun o12 =>
      .sm o12 (fun o13 =>
       .leaf (.inr (.inl o13))) (fun o14 =>
       .leaf (.inl (o14.1, (IntKind.i64.wrap (o14.2.1 + (1 : Int))), ()))))))) (
   .leaf (.inr (.inr ())))
def T_s_CreditsOk (a0 : (List YCredit) × Unit) : Tree ((Bool × Unit)) :=
  .br (decide ((a0.1.length : Int) > (8 : Int))) (
   .leaf (false, ())) (
   .ob (iterO B_s_CreditsOk_4 (a0.1, (0 : Int), ())) fun o15 =>
   .sm o15 (fun o16 =>
    .leaf o16) (fun o17 =>
    .leaf (true, ())))
def V_s_CreditsOk (a0 : (List YCredit) × Unit) : Option ((Bool × Unit)) := (T_s_CreditsOk a0).val
def T_s_PskOk (a0 : YBs) : Tree ((Bool × Unit)) :=
  .ob (V_s_l1In ((a0.1.length : Int), ()) ((1 : Int), ()) ((32 : Int), ())) fun r1 =>
  .leaf r1
def V_s_PskOk (a0 : YBs) : Option ((Bool × Unit)) := (T_s_PskOk a0).val
def B_s_ServerOk_4 (x6 : Int × (List YBs) × (List YB) × (List YB) × Int × Int × (List YSess) × (List YCredit) × Unit) : Option ((Int × (List YBs) × (List YB) × (List YB) × Int × Int × (List YSess) × (List YCredit) × Unit) ⊕ ((Bool × Unit) ⊕ (YServer))) :=
  Tree.val (α := (Int × (List YBs) × (List YB) × (List YB) × Int × Int × (List YSess) × (List YCredit) × Unit) ⊕ ((Bool × Unit) ⊕ (YServer))) <|
  .br (decide (x6.1 < (x6.2.1.length : Int))) (
   .ob (idx x6.2.1 x6.1) fun e7 =>
   .ob (V_s_PskOk e7) fun r8 =>
   .br (!r8.1) (
    .leaf (.inr (.inl (false, ())))) (
    .leaf (.inl ((IntKind.i64.wrap (x6.1 + (1 : Int))), x6.2.1, x6.2.2.1, x6.2.2.2.1, x6.2.2.2.2.1, x6.2.2.2.2.2.1, x6.2.2.2.2.2.2.1, x6.2.2.2.2.2.2.2.1, ())))) (
   .leaf (.inr (.inr (x6.2.1, x6.2.2.1, x6.2.2.2.1, x6.2.2.2.2.1, x6.2.2.2.2.2.1, x6.2.2.2.2.2.2.1, x6.2.2.2.2.2.2.2.1, ()))))
def B_s_ServerOk_9 (x12 : Int × (List YBs) × (List YB) × (List YB) × Int × Int × (List YSess) × (List YCredit) × Unit) : Option ((Int × (List YBs) × (List YB) × (List YB) × Int × Int × (List YSess) × (List YCredit) × Unit) ⊕ ((Bool × Unit) ⊕ (Unit))) :=
  Tree.val (α := (Int × (List YBs) × (List YB) × (List YB) × Int × Int × (List YSess) × (List YCredit) × Unit) ⊕ ((Bool × Unit) ⊕ (Unit))) <|
  .br (decide (x12.1 < (x12.2.2.2.2.2.2.1.length : Int))) (
   .ob (idx x12.2.2.2.2.2.2.1 x12.1) fun e13 =>
   .br (decide (e13.1 > (x12.2.1.length : Int))) (
    .leaf (.inr (.inl (false, ())))) (
    .leaf (.inl ((IntKind.i64.wrap (x12.1 + (1 : Int))), x12.2.1, x12.2.2.1, x12.2.2.2.1, x12.2.2.2.2.1, x12.2.2.2.2.2.1, x12.2.2.2.2.2.2.1, x12.2.2.2.2.2.2.2.1, ())))) (
   .leaf (.inr (.inr ())))
def T_s_ServerOk (a0 : YServer) : Tree ((Bool × Unit)) :=
  .ob (V_s_l1In ((a0.1.length : Int), ()) ((1 : Int), ()) ((9 : Int), ())) fun r1 =>
  .br (!r1.1) (
   .leaf (false, ())) (
   .ob (V_s_JarOk (a0.2.1, ())) fun r2 =>
   .br (!r2.1) (
    .leaf (false, ())) (
    .ob (V_s_DiceOk (a0.2.2.1, a0.2.2.2.1, ())) fun r3 =>
    .br (!r3.1) (
     .leaf (false, ())) (
     .ob (V_s_TabOk (a0.2.2.2.2.1, a0.2.2.2.2.2.1, ())) fun r4 =>
     .br (!r4.1) (
      .leaf (false, ())) (
      .ob (V_s_CreditsOk (a0.2.2.2.2.2.2.1, ())) fun r5 =>
      .br (!r5.1) (
       .leaf (false, ())) (
       .ob (iterO B_s_ServerOk_4 ((0 : Int), a0.1, a0.2.1, a0.2.2.1, a0.2.2.2.1, a0.2.2.2.2.1, a0.2.2.2.2.2.1, a0.2.2.2.2.2.2.1, ())) fun o9 =>
       .sm o9 (fun o10 =>
        .leaf o10) (fun o11 =>
        .ob (iterO B_s_ServerOk_9 ((0 : Int), o11.1, o11.2.1, o11.2.2.1, o11.2.2.2.1, o11.2.2.2.2.1, o11.2.2.2.2.2.1, o11.2.2.2.2.2.2.1, ())) fun o14 =>
        .sm o14 (fun o15 =>
         .leaf o15) (fun o16 =>
         .leaf (true, ()))))))))
def V_s_ServerOk (a0 : YServer) : Option ((Bool × Unit)) := (T_s_ServerOk a0).val
def B_s_PutN_5 (x1 : Int × (List YB) × Int × Unit) : Option ((Int × (List YB) × Int × Unit) ⊕ ((YBs))) :=
  Tree.val (α := (Int × (List YB) × Int × Unit) ⊕ ((YBs))) <|
  .br (decide (x1.2.2.1 ≥ (0 : Int))) (
   .chk (decide ((0 : Int) ≤ (IntKind.i64.wrap ((8 : Int) * x1.2.2.1)))) <|
   .chk (decide (x1.2.1.length + [((IntKind.u8.wrap ((IntKind.i64.wrap ((BitVec.ofInt (IntKind.i64.bits) ((Int.fdiv x1.1 (2 ^ (min ((IntKind.i64.wrap ((8 : Int) * x1.2.2.1))).toNat IntKind.i64.bits)))) &&& BitVec.ofInt (IntKind.i64.bits) ((255 : Int))).toNat : Nat)))), ())].length ≤ 4294967296)) <|
   .leaf (.inl (x1.1, (x1.2.1 ++ [((IntKind.u8.wrap ((IntKind.i64.wrap ((BitVec.ofInt (IntKind.i64.bits) ((Int.fdiv x1.1 (2 ^ (min ((IntKind.i64.wrap ((8 : Int) * x1.2.2.1))).toNat IntKind.i64.bits)))) &&& BitVec.ofInt (IntKind.i64.bits) ((255 : Int))).toNat : Nat)))), ())]), (IntKind.i64.wrap (x1.2.2.1 - (1 : Int))), ()))) (
   .leaf (.inr (x1.2.1, ())))
def T_s_PutN (a0 : YBs) (a1 : YI) (a2 : YI) : Tree ((YBs)) :=
  .chk (decide (([] : List YB).length + a0.1.length ≤ 4294967296)) <|
  .br (decide (a2.1 < (1 : Int))) (
   .leaf ((([] : List YB) ++ a0.1), ())) (
   .br (decide (a2.1 > (6 : Int))) (
    .leaf ((([] : List YB) ++ a0.1), ())) (
    .ob (iterO B_s_PutN_5 (a1.1, (([] : List YB) ++ a0.1), (IntKind.i64.wrap (a2.1 - (1 : Int))), ())) fun o2 =>
    .leaf o2))
def V_s_PutN (a0 : YBs) (a1 : YI) (a2 : YI) : Option ((YBs)) := (T_s_PutN a0 a1 a2).val
def T_s_HeadOf (a0 : YI) (a1 : YBs) (a2 : YI) (a3 : YI) : Tree ((YBs)) :=
  .ob (V_s_l1In a0 ((0 : Int), ()) ((1 : Int), ())) fun r1 =>
  .br (!r1.1) (
   .leaf (([] : List YB), ())) (
   .br ((a1.1.length : Int) != (12 : Int)) (
    .leaf (([] : List YB), ())) (
    .ob (V_s_l1In a2 ((0 : Int), ()) ((4294967295 : Int), ())) fun r2 =>
    .br (!r2.1) (
     .leaf (([] : List YB), ())) (
     .ob (V_s_l1In a3 ((0 : Int), ()) ((281474976710655 : Int), ())) fun r3 =>
     .br (!r3.1) (
      .leaf (([] : List YB), ())) (
      .chk (decide ([((IntKind.u8.wrap (a0.1)), ())].length + a1.1.length ≤ 4294967296)) <|
      .ob (V_s_PutN (([((IntKind.u8.wrap (a0.1)), ())] ++ a1.1), ()) a2 ((4 : Int), ())) fun r4 =>
      .ob (V_s_PutN r4 a3 ((6 : Int), ())) fun r5 =>
      .leaf r5))))
def V_s_HeadOf (a0 : YI) (a1 : YBs) (a2 : YI) (a3 : YI) : Option ((YBs)) := (T_s_HeadOf a0 a1 a2 a3).val
def T_s_Sealed (a0 : YI) : Tree ((Bool × Unit)) :=
  .ob (V_s_l1In a0 ((4 : Int), ()) ((8 : Int), ())) fun r1 =>
  .leaf r1
def V_s_Sealed (a0 : YI) : Option ((Bool × Unit)) := (T_s_Sealed a0).val
def T_s_l7Body (a0 : YI) (a1 : YI) : Tree ((Bool × Unit)) :=
  .br (a0.1 == (4 : Int)) (
   .leaf ((decide (a1.1 ≤ (40 : Int))), ())) (
   .br (a0.1 == (5 : Int)) (
    .leaf ((a1.1 == (12 : Int)), ())) (
    .br (a0.1 == (6 : Int)) (
     .leaf ((a1.1 == (12 : Int)), ())) (
     .leaf ((a1.1 == (4 : Int)), ()))))
def V_s_l7Body (a0 : YI) (a1 : YI) : Option ((Bool × Unit)) := (T_s_l7Body a0 a1).val
def B_s_Pad_4 (x1 : Int × (List YB) × Unit) : Option ((Int × (List YB) × Unit) ⊕ ((Int × (List YB) × Unit))) :=
  Tree.val (α := (Int × (List YB) × Unit) ⊕ ((Int × (List YB) × Unit))) <|
  .chk (decide ((0 : Int) ≤ (IntKind.i64.wrap ((IntKind.i64.wrap (x1.1 + (x1.2.1.length : Int))) + (8 : Int))))) <|
  .br (((IntKind.i64.wrap ((IntKind.i64.wrap (x1.1 + (x1.2.1.length : Int))) + (8 : Int))) % (64 : Int)) != (0 : Int)) (
   .chk (decide (x1.2.1.length + [((0 : Int), ())].length ≤ 4294967296)) <|
   .leaf (.inl (x1.1, (x1.2.1 ++ [((0 : Int), ())]), ()))) (
   .leaf (.inr x1))
def T_s_Pad (a0 : YI) : Tree ((YBs)) :=
  .br (decide (a0.1 < (0 : Int))) (
   .leaf (([] : List YB), ())) (
   .br (decide (a0.1 > (1048576 : Int))) (
    .leaf (([] : List YB), ())) (
    .ob (iterO B_s_Pad_4 (a0.1, [((128 : Int), ())], ())) fun o2 =>
    .ob (V_s_PutN (o2.2.1, ()) ((0 : Int), ()) ((4 : Int), ())) fun r3 =>
    .ob (V_s_PutN r3 ((IntKind.i64.wrap ((8 : Int) * o2.1)), ()) ((4 : Int), ())) fun r4 =>
    .leaf r4))
def V_s_Pad (a0 : YI) : Option ((YBs)) := (T_s_Pad a0).val
def T_s_Start  : Tree (((List YI) × Unit)) :=
  .leaf ([((1779033703 : Int), ()), ((3144134277 : Int), ()), ((1013904242 : Int), ()), ((2773480762 : Int), ()), ((1359893119 : Int), ()), ((2600822924 : Int), ()), ((528734635 : Int), ()), ((1541459225 : Int), ())], ())
def V_s_Start  : Option (((List YI) × Unit)) := (T_s_Start ).val
def B_s_l2Words_2 (x1 : (List YI) × Int × Unit) : Option (((List YI) × Int × Unit) ⊕ ((Bool × Unit) ⊕ ((List YI) × Unit))) :=
  Tree.val (α := ((List YI) × Int × Unit) ⊕ ((Bool × Unit) ⊕ ((List YI) × Unit))) <|
  .br (decide (x1.2.1 < (x1.1.length : Int))) (
   .ob (idx x1.1 x1.2.1) fun e2 =>
   .ob (V_s_l1In e2 ((0 : Int), ()) ((4294967295 : Int), ())) fun r3 =>
   .br (!r3.1) (
    .leaf (.inr (.inl (false, ())))) (
    .leaf (.inl (x1.1, (IntKind.i64.wrap (x1.2.1 + (1 : Int))), ())))) (
   .leaf (.inr (.inr (x1.1, ()))))
def T_s_l2Words (a0 : (List YI) × Unit) : Tree ((Bool × Unit)) :=
  .ob (iterO B_s_l2Words_2 (a0.1, (0 : Int), ())) fun o4 =>
  .sm o4 (fun o5 =>
   .leaf o5) (fun o6 =>
   .leaf (((o6.1.length : Int) == (8 : Int)), ()))
def V_s_l2Words (a0 : (List YI) × Unit) : Option ((Bool × Unit)) := (T_s_l2Words a0).val
def T_s_l2K  : Tree (((List YI) × Unit)) :=
  .leaf ([((1116352408 : Int), ()), ((1899447441 : Int), ()), ((3049323471 : Int), ()), ((3921009573 : Int), ()), ((961987163 : Int), ()), ((1508970993 : Int), ()), ((2453635748 : Int), ()), ((2870763221 : Int), ()), ((3624381080 : Int), ()), ((310598401 : Int), ()), ((607225278 : Int), ()), ((1426881987 : Int), ()), ((1925078388 : Int), ()), ((2162078206 : Int), ()), ((2614888103 : Int), ()), ((3248222580 : Int), ()), ((3835390401 : Int), ()), ((4022224774 : Int), ()), ((264347078 : Int), ()), ((604807628 : Int), ()), ((770255983 : Int), ()), ((1249150122 : Int), ()), ((1555081692 : Int), ()), ((1996064986 : Int), ()), ((2554220882 : Int), ()), ((2821834349 : Int), ()), ((2952996808 : Int), ()), ((3210313671 : Int), ()), ((3336571891 : Int), ()), ((3584528711 : Int), ()), ((113926993 : Int), ()), ((338241895 : Int), ()), ((666307205 : Int), ()), ((773529912 : Int), ()), ((1294757372 : Int), ()), ((1396182291 : Int), ()), ((1695183700 : Int), ()), ((1986661051 : Int), ()), ((2177026350 : Int), ()), ((2456956037 : Int), ()), ((2730485921 : Int), ()), ((2820302411 : Int), ()), ((3259730800 : Int), ()), ((3345764771 : Int), ()), ((3516065817 : Int), ()), ((3600352804 : Int), ()), ((4094571909 : Int), ()), ((275423344 : Int), ()), ((430227734 : Int), ()), ((506948616 : Int), ()), ((659060556 : Int), ()), ((883997877 : Int), ()), ((958139571 : Int), ()), ((1322822218 : Int), ()), ((1537002063 : Int), ()), ((1747873779 : Int), ()), ((1955562222 : Int), ()), ((2024104815 : Int), ()), ((2227730452 : Int), ()), ((2361852424 : Int), ()), ((2428436474 : Int), ()), ((2756734187 : Int), ()), ((3204031479 : Int), ()), ((3329325298 : Int), ())], ())
def V_s_l2K  : Option (((List YI) × Unit)) := (T_s_l2K ).val
def B_s_GetN_5 (x1 : (List YB) × Int × Int × Int × Int × Unit) : Option (((List YB) × Int × Int × Int × Int × Unit) ⊕ ((Int × Int × Int × Unit))) :=
  Tree.val (α := ((List YB) × Int × Int × Int × Int × Unit) ⊕ ((Int × Int × Int × Unit))) <|
  .br (decide (x1.2.2.2.2.1 < x1.2.2.1)) (
   .ob (idx x1.1 (IntKind.i64.wrap (x1.2.1 + x1.2.2.2.2.1))) fun e2 =>
   .leaf (.inl (x1.1, x1.2.1, x1.2.2.1, (IntKind.i64.wrap ((IntKind.i64.wrap (x1.2.2.2.1 * (256 : Int))) + (IntKind.i64.wrap (e2.1)))), (IntKind.i64.wrap (x1.2.2.2.2.1 + (1 : Int))), ()))) (
   .leaf (.inr (x1.2.1, x1.2.2.1, x1.2.2.2.1, ())))
def T_s_GetN (a0 : YBs) (a1 : YI) (a2 : YI) : Tree ((YI) × (YI) × (Bool × Unit)) :=
  .br (decide (a2.1 < (1 : Int))) (
   .leaf (((0 : Int), ()), ((0 : Int), ()), (false, ()))) (
   .br (decide (a2.1 > (6 : Int))) (
    .leaf (((0 : Int), ()), ((0 : Int), ()), (false, ()))) (
    .br (decide (a1.1 < (0 : Int))) (
     .leaf (((0 : Int), ()), ((0 : Int), ()), (false, ()))) (
     .br (decide (a1.1 > (IntKind.i64.wrap ((a0.1.length : Int) - a2.1)))) (
      .leaf (((0 : Int), ()), ((0 : Int), ()), (false, ()))) (
      .ob (iterO B_s_GetN_5 (a0.1, a1.1, a2.1, (0 : Int), (0 : Int), ())) fun o3 =>
      .leaf ((o3.2.2.1, ()), ((IntKind.i64.wrap (o3.1 + o3.2.1)), ()), (true, ()))))))
def V_s_GetN (a0 : YBs) (a1 : YI) (a2 : YI) : Option ((YI) × (YI) × (Bool × Unit)) := (T_s_GetN a0 a1 a2).val
def T_s_Rot (a0 : YI) (a1 : YI) : Tree ((YI)) :=
  .br (decide (a1.1 < (1 : Int))) (
   .leaf ((IntKind.i64.wrap ((BitVec.ofInt (IntKind.i64.bits) (a0.1) &&& BitVec.ofInt (IntKind.i64.bits) ((4294967295 : Int))).toNat : Nat)), ())) (
   .br (decide (a1.1 > (31 : Int))) (
    .leaf ((IntKind.i64.wrap ((BitVec.ofInt (IntKind.i64.bits) (a0.1) &&& BitVec.ofInt (IntKind.i64.bits) ((4294967295 : Int))).toNat : Nat)), ())) (
    .chk (decide ((0 : Int) ≤ a1.1)) <|
    .chk (decide ((0 : Int) ≤ (IntKind.i64.wrap ((32 : Int) - a1.1)))) <|
    .leaf ((IntKind.i64.wrap ((BitVec.ofInt (IntKind.i64.bits) ((IntKind.i64.wrap ((BitVec.ofInt (IntKind.i64.bits) ((Int.fdiv (IntKind.i64.wrap ((BitVec.ofInt (IntKind.i64.bits) (a0.1) &&& BitVec.ofInt (IntKind.i64.bits) ((4294967295 : Int))).toNat : Nat)) (2 ^ (min (a1.1).toNat IntKind.i64.bits)))) ||| BitVec.ofInt (IntKind.i64.bits) ((IntKind.i64.wrap ((IntKind.i64.wrap ((BitVec.ofInt (IntKind.i64.bits) (a0.1) &&& BitVec.ofInt (IntKind.i64.bits) ((4294967295 : Int))).toNat : Nat)) * 2 ^ (min ((IntKind.i64.wrap ((32 : Int) - a1.1))).toNat IntKind.i64.bits))))).toNat : Nat))) &&& BitVec.ofInt (IntKind.i64.bits) ((4294967295 : Int))).toNat : Nat)), ())))
def V_s_Rot (a0 : YI) (a1 : YI) : Option ((YI)) := (T_s_Rot a0 a1).val
def B_s_Schedule_5 (x1 : (List YB) × (List YI) × Int × Unit) : Option (((List YB) × (List YI) × Int × Unit) ⊕ (((List YI) × Unit))) :=
  Tree.val (α := ((List YB) × (List YI) × Int × Unit) ⊕ (((List YI) × Unit))) <|
  .br (decide (x1.2.2.1 < (16 : Int))) (
   .ob (V_s_GetN (x1.1, ()) ((IntKind.i64.wrap ((4 : Int) * x1.2.2.1)), ()) ((4 : Int), ())) fun r2 =>
   .chk (decide (x1.2.1.length + [r2.1].length ≤ 4294967296)) <|
   .leaf (.inl (x1.1, (x1.2.1 ++ [r2.1]), (IntKind.i64.wrap (x1.2.2.1 + (1 : Int))), ()))) (
   .leaf (.inr (x1.2.1, ())))
def B_s_Schedule_10 (x4 : (List YI) × Int × Unit) : Option (((List YI) × Int × Unit) ⊕ (((List YI) × Unit))) :=
  Tree.val (α := ((List YI) × Int × Unit) ⊕ (((List YI) × Unit))) <|
  .br (decide (x4.2.1 < (64 : Int))) (
   .ob (idx x4.1 (IntKind.i64.wrap (x4.2.1 - (15 : Int)))) fun e5 =>
   .ob (idx x4.1 (IntKind.i64.wrap (x4.2.1 - (2 : Int)))) fun e6 =>
   .ob (V_s_Rot e5 ((7 : Int), ())) fun r7 =>
   .ob (V_s_Rot e5 ((18 : Int), ())) fun r8 =>
   .ob (V_s_Rot e6 ((17 : Int), ())) fun r9 =>
   .ob (V_s_Rot e6 ((19 : Int), ())) fun r10 =>
   .ob (idx x4.1 (IntKind.i64.wrap (x4.2.1 - (7 : Int)))) fun e11 =>
   .ob (idx x4.1 (IntKind.i64.wrap (x4.2.1 - (16 : Int)))) fun e12 =>
   .chk (decide (x4.1.length + [((IntKind.i64.wrap ((BitVec.ofInt (IntKind.i64.bits) ((IntKind.i64.wrap ((IntKind.i64.wrap ((IntKind.i64.wrap (e11.1 + e12.1)) + (IntKind.i64.wrap ((BitVec.ofInt (IntKind.i64.bits) ((IntKind.i64.wrap ((BitVec.ofInt (IntKind.i64.bits) (r7.1) ^^^ BitVec.ofInt (IntKind.i64.bits) (r8.1)).toNat : Nat))) ^^^ BitVec.ofInt (IntKind.i64.bits) ((Int.fdiv e5.1 (2 ^ (min ((3 : Int)).toNat IntKind.i64.bits))))).toNat : Nat)))) + (IntKind.i64.wrap ((BitVec.ofInt (IntKind.i64.bits) ((IntKind.i64.wrap ((BitVec.ofInt (IntKind.i64.bits) (r9.1) ^^^ BitVec.ofInt (IntKind.i64.bits) (r10.1)).toNat : Nat))) ^^^ BitVec.ofInt (IntKind.i64.bits) ((Int.fdiv e6.1 (2 ^ (min ((10 : Int)).toNat IntKind.i64.bits))))).toNat : Nat))))) &&& BitVec.ofInt (IntKind.i64.bits) ((4294967295 : Int))).toNat : Nat)), ())].length ≤ 4294967296)) <|
   .leaf (.inl ((x4.1 ++ [((IntKind.i64.wrap ((BitVec.ofInt (IntKind.i64.bits) ((IntKind.i64.wrap ((IntKind.i64.wrap ((IntKind.i64.wrap (e11.1 + e12.1)) + (IntKind.i64.wrap ((BitVec.ofInt (IntKind.i64.bits) ((IntKind.i64.wrap ((BitVec.ofInt (IntKind.i64.bits) (r7.1) ^^^ BitVec.ofInt (IntKind.i64.bits) (r8.1)).toNat : Nat))) ^^^ BitVec.ofInt (IntKind.i64.bits) ((Int.fdiv e5.1 (2 ^ (min ((3 : Int)).toNat IntKind.i64.bits))))).toNat : Nat)))) + (IntKind.i64.wrap ((BitVec.ofInt (IntKind.i64.bits) ((IntKind.i64.wrap ((BitVec.ofInt (IntKind.i64.bits) (r9.1) ^^^ BitVec.ofInt (IntKind.i64.bits) (r10.1)).toNat : Nat))) ^^^ BitVec.ofInt (IntKind.i64.bits) ((Int.fdiv e6.1 (2 ^ (min ((10 : Int)).toNat IntKind.i64.bits))))).toNat : Nat))))) &&& BitVec.ofInt (IntKind.i64.bits) ((4294967295 : Int))).toNat : Nat)), ())]), (IntKind.i64.wrap (x4.2.1 + (1 : Int))), ()))) (
   .leaf (.inr (x4.1, ())))
def T_s_Schedule (a0 : YBs) : Tree (((List YI) × Unit)) :=
  .br ((a0.1.length : Int) != (64 : Int)) (
   .leaf (([] : List YI), ())) (
   .ob (iterO B_s_Schedule_5 (a0.1, ([] : List YI), (0 : Int), ())) fun o3 =>
   .ob (iterO B_s_Schedule_10 (o3.1, (16 : Int), ())) fun o13 =>
   .leaf o13)
def V_s_Schedule (a0 : YBs) : Option (((List YI) × Unit)) := (T_s_Schedule a0).val
def B_s_Compress_8 (x12 : (List YI) × (List YI) × (List YI) × (List YI) × Int × Int × Int × Int × Int × Int × Int × Int × Int × Unit) : Option (((List YI) × (List YI) × (List YI) × (List YI) × Int × Int × Int × Int × Int × Int × Int × Int × Int × Unit) ⊕ (((List YI) × (List YI) × Int × Int × Int × Int × Int × Int × Int × Int × Unit))) :=
  Tree.val (α := ((List YI) × (List YI) × (List YI) × (List YI) × Int × Int × Int × Int × Int × Int × Int × Int × Int × Unit) ⊕ (((List YI) × (List YI) × Int × Int × Int × Int × Int × Int × Int × Int × Unit))) <|
  .br (decide (x12.2.2.2.2.2.2.2.2.2.2.2.2.1 < (64 : Int))) (
   .ob (V_s_Rot (x12.2.2.2.2.2.2.2.2.1, ()) ((6 : Int), ())) fun r13 =>
   .ob (V_s_Rot (x12.2.2.2.2.2.2.2.2.1, ()) ((11 : Int), ())) fun r14 =>
   .ob (V_s_Rot (x12.2.2.2.2.2.2.2.2.1, ()) ((25 : Int), ())) fun r15 =>
   .ob (idx x12.2.2.1 x12.2.2.2.2.2.2.2.2.2.2.2.2.1) fun e16 =>
   .ob (idx x12.2.2.2.1 x12.2.2.2.2.2.2.2.2.2.2.2.2.1) fun e17 =>
   .ob (V_s_Rot (x12.2.2.2.2.1, ()) ((2 : Int), ())) fun r18 =>
   .ob (V_s_Rot (x12.2.2.2.2.1, ()) ((13 : Int), ())) fun r19 =>
   .ob (V_s_Rot (x12.2.2.2.2.1, ()) ((22 : Int), ())) fun r20 =>
   .leaf (.inl (x12.1, x12.2.1, x12.2.2.1, x12.2.2.2.1, (IntKind.i64.wrap ((BitVec.ofInt (IntKind.i64.bits) ((IntKind.i64.wrap ((IntKind.i64.wrap ((BitVec.ofInt (IntKind.i64.bits) ((IntKind.i64.wrap ((IntKind.i64.wrap ((IntKind.i64.wrap ((IntKind.i64.wrap (x12.2.2.2.2.2.2.2.2.2.2.2.1 + (IntKind.i64.wrap ((BitVec.ofInt (IntKind.i64.bits) ((IntKind.i64.wrap ((BitVec.ofInt (IntKind.i64.bits) (r13.1) ^^^ BitVec.ofInt (IntKind.i64.bits) (r14.1)).toNat : Nat))) ^^^ BitVec.ofInt (IntKind.i64.bits) (r15.1)).toNat : Nat)))) + (IntKind.i64.wrap ((BitVec.ofInt (IntKind.i64.bits) ((IntKind.i64.wrap ((BitVec.ofInt (IntKind.i64.bits) (x12.2.2.2.2.2.2.2.2.1) &&& BitVec.ofInt (IntKind.i64.bits) (x12.2.2.2.2.2.2.2.2.2.1)).toNat : Nat))) ^^^ BitVec.ofInt (IntKind.i64.bits) ((IntKind.i64.wrap ((BitVec.ofInt (IntKind.i64.bits) ((IntKind.i64.wrap ((BitVec.ofInt (IntKind.i64.bits) (x12.2.2.2.2.2.2.2.2.1) ^^^ BitVec.ofInt (IntKind.i64.bits) ((4294967295 : Int))).toNat : Nat))) &&& BitVec.ofInt (IntKind.i64.bits) (x12.2.2.2.2.2.2.2.2.2.2.1)).toNat : Nat)))).toNat : Nat)))) + e16.1)) + e17.1))) &&& BitVec.ofInt (IntKind.i64.bits) ((4294967295 : Int))).toNat : Nat)) + (IntKind.i64.wrap ((BitVec.ofInt (IntKind.i64.bits) ((IntKind.i64.wrap ((IntKind.i64.wrap ((BitVec.ofInt (IntKind.i64.bits) ((IntKind.i64.wrap ((BitVec.ofInt (IntKind.i64.bits) (r18.1) ^^^ BitVec.ofInt (IntKind.i64.bits) (r19.1)).toNat : Nat))) ^^^ BitVec.ofInt (IntKind.i64.bits) (r20.1)).toNat : Nat)) + (IntKind.i64.wrap ((BitVec.ofInt (IntKind.i64.bits) ((IntKind.i64.wrap ((BitVec.ofInt (IntKind.i64.bits) ((IntKind.i64.wrap ((BitVec.ofInt (IntKind.i64.bits) (x12.2.2.2.2.1) &&& BitVec.ofInt (IntKind.i64.bits) (x12.2.2.2.2.2.1)).toNat : Nat))) ^^^ BitVec.ofInt (IntKind.i64.bits) ((IntKind.i64.wrap ((BitVec.ofInt (IntKind.i64.bits) (x12.2.2.2.2.1) &&& BitVec.ofInt (IntKind.i64.bits) (x12.2.2.2.2.2.2.1)).toNat : Nat)))).toNat : Nat))) ^^^ BitVec.ofInt (IntKind.i64.bits) ((IntKind.i64.wrap ((BitVec.ofInt (IntKind.i64.bits) (x12.2.2.2.2.2.1) &&& BitVec.ofInt (IntKind.i64.bits) (x12.2.2.2.2.2.2.1)).toNat : Nat)))).toNat : Nat))))) &&& BitVec.ofInt (IntKind.i64.bits) ((4294967295 : Int))).toNat : Nat))))) &&& BitVec.ofInt (IntKind.i64.bits) ((4294967295 : Int))).toNat : Nat)), x12.2.2.2.2.1, x12.2.2.2.2.2.1, x12.2.2.2.2.2.2.1, (IntKind.i64.wrap ((BitVec.ofInt (IntKind.i64.bits) ((IntKind.i64.wrap (x12.2.2.2.2.2.2.2.1 + (IntKind.i64.wrap ((BitVec.ofInt (IntKind.i64.bits) ((IntKind.i64.wrap ((IntKind.i64.wrap ((IntKind.i64.wrap ((IntKind.i64.wrap (x12.2.2.2.2.2.2.2.2.2.2.2.1 + (IntKind.i64.wrap ((BitVec.ofInt (IntKind.i64.bits) ((IntKind.i64.wrap ((BitVec.ofInt (IntKind.i64.bits) (r13.1) ^^^ BitVec.ofInt (IntKind.i64.bits) (r14.1)).toNat : Nat))) ^^^ BitVec.ofInt (IntKind.i64.bits) (r15.1)).toNat : Nat)))) + (IntKind.i64.wrap ((BitVec.ofInt (IntKind.i64.bits) ((IntKind.i64.wrap ((BitVec.ofInt (IntKind.i64.bits) (x12.2.2.2.2.2.2.2.2.1) &&& BitVec.ofInt (IntKind.i64.bits) (x12.2.2.2.2.2.2.2.2.2.1)).toNat : Nat))) ^^^ BitVec.ofInt (IntKind.i64.bits) ((IntKind.i64.wrap ((BitVec.ofInt (IntKind.i64.bits) ((IntKind.i64.wrap ((BitVec.ofInt (IntKind.i64.bits) (x12.2.2.2.2.2.2.2.2.1) ^^^ BitVec.ofInt (IntKind.i64.bits) ((4294967295 : Int))).toNat : Nat))) &&& BitVec.ofInt (IntKind.i64.bits) (x12.2.2.2.2.2.2.2.2.2.2.1)).toNat : Nat)))).toNat : Nat)))) + e16.1)) + e17.1))) &&& BitVec.ofInt (IntKind.i64.bits) ((4294967295 : Int))).toNat : Nat))))) &&& BitVec.ofInt (IntKind.i64.bits) ((4294967295 : Int))).toNat : Nat)), x12.2.2.2.2.2.2.2.2.1, x12.2.2.2.2.2.2.2.2.2.1, x12.2.2.2.2.2.2.2.2.2.2.1, (IntKind.i64.wrap (x12.2.2.2.2.2.2.2.2.2.2.2.2.1 + (1 : Int))), ()))) (
   .leaf (.inr (x12.1, x12.2.1, x12.2.2.2.2.1, x12.2.2.2.2.2.1, x12.2.2.2.2.2.2.1, x12.2.2.2.2.2.2.2.1, x12.2.2.2.2.2.2.2.2.1, x12.2.2.2.2.2.2.2.2.2.1, x12.2.2.2.2.2.2.2.2.2.2.1, x12.2.2.2.2.2.2.2.2.2.2.2.1, ())))
def B_s_Compress_22 (x22 : (List YI) × (List YI) × (List YI) × Int × Unit) : Option (((List YI) × (List YI) × (List YI) × Int × Unit) ⊕ (((List YI) × Unit))) :=
  Tree.val (α := ((List YI) × (List YI) × (List YI) × Int × Unit) ⊕ (((List YI) × Unit))) <|
  .br (decide (x22.2.2.2.1 < (8 : Int))) (
   .ob (idx x22.1 x22.2.2.2.1) fun e23 =>
   .ob (idx x22.2.2.1 x22.2.2.2.1) fun e24 =>
   .ob (idx x22.2.1 x22.2.2.2.1) fun e25 =>
   let q26 := (x22.2.1.set (x22.2.2.2.1).toNat ((IntKind.i64.wrap ((BitVec.ofInt (IntKind.i64.bits) ((IntKind.i64.wrap (e23.1 + e24.1))) &&& BitVec.ofInt (IntKind.i64.bits) ((4294967295 : Int))).toNat : Nat)), ()))
   .leaf (.inl (x22.1, q26, x22.2.2.1, (IntKind.i64.wrap (x22.2.2.2.1 + (1 : Int))), ()))) (
   .leaf (.inr (x22.2.1, ())))
def T_s_Compress (a0 : (List YI) × Unit) (a1 : YBs) : Tree (((List YI) × Unit)) :=
  .chk (decide (([] : List YI).length + a0.1.length ≤ 4294967296)) <|
  .ob (V_s_l2Words a0) fun r1 =>
  .br (!r1.1) (
   .leaf ((([] : List YI) ++ a0.1), ())) (
   .br ((a1.1.length : Int) != (64 : Int)) (
    .leaf ((([] : List YI) ++ a0.1), ())) (
    .ob V_s_l2K fun r2 =>
    .ob (V_s_Schedule a1) fun r3 =>
    .ob (idx a0.1 (0 : Int)) fun e4 =>
    .ob (idx a0.1 (1 : Int)) fun e5 =>
    .ob (idx a0.1 (2 : Int)) fun e6 =>
    .ob (idx a0.1 (3 : Int)) fun e7 =>
    .ob (idx a0.1 (4 : Int)) fun e8 =>
    .ob (idx a0.1 (5 : Int)) fun e9 =>
    .ob (idx a0.1 (6 : Int)) fun e10 =>
    .ob (idx a0.1 (7 : Int)) fun e11 =>
    .ob (iterO B_s_Compress_8 (a0.1, (([] : List YI) ++ a0.1), r2.1, r3.1, e4.1, e5.1, e6.1, e7.1, e8.1, e9.1, e10.1, e11.1, (0 : Int), ())) fun o21 =>
    .ob (iterO B_s_Compress_22 (o21.1, o21.2.1, [(o21.2.2.1, ()), (o21.2.2.2.1, ()), (o21.2.2.2.2.1, ()), (o21.2.2.2.2.2.1, ()), (o21.2.2.2.2.2.2.1, ()), (o21.2.2.2.2.2.2.2.1, ()), (o21.2.2.2.2.2.2.2.2.1, ()), (o21.2.2.2.2.2.2.2.2.2.1, ())], (0 : Int), ())) fun o27 =>
    .leaf o27))
def V_s_Compress (a0 : (List YI) × Unit) (a1 : YBs) : Option (((List YI) × Unit)) := (T_s_Compress a0 a1).val
def B_s_l2Out_3 (x1 : YHash) : Option ((YHash) ⊕ ((YBs))) :=
  Tree.val (α := (YHash) ⊕ ((YBs))) <|
  .br (decide (x1.2.2.1 < (8 : Int))) (
   .ob (idx x1.1 x1.2.2.1) fun e2 =>
   .ob (V_s_PutN (x1.2.1, ()) e2 ((4 : Int), ())) fun r3 =>
   .leaf (.inl (x1.1, r3.1, (IntKind.i64.wrap (x1.2.2.1 + (1 : Int))), ()))) (
   .leaf (.inr (x1.2.1, ())))
def T_s_l2Out (a0 : (List YI) × Unit) : Tree ((YBs)) :=
  .ob (iterO B_s_l2Out_3 (a0.1, ([] : List YB), (0 : Int), ())) fun o4 =>
  .leaf o4
def V_s_l2Out (a0 : (List YI) × Unit) : Option ((YBs)) := (T_s_l2Out a0).val
def B_s_Sha_6 (x3 : (List YB) × (List YI) × Int × Unit) : Option (((List YB) × (List YI) × Int × Unit) ⊕ (((List YI) × Unit))) :=
  Tree.val (α := ((List YB) × (List YI) × Int × Unit) ⊕ (((List YI) × Unit))) <|
  .br (decide (x3.2.2.1 < (x3.1.length : Int))) (
   .chk (decide ((0 : Int) ≤ x3.2.2.1)) <|
   .chk (decide (x3.2.2.1 ≤ (IntKind.i64.wrap (x3.2.2.1 + (64 : Int))))) <|
   .chk (decide ((IntKind.i64.wrap (x3.2.2.1 + (64 : Int))) ≤ (x3.1.length : Int))) <|
   .ob (V_s_Compress (x3.2.1, ()) (((x3.1.take ((IntKind.i64.wrap (x3.2.2.1 + (64 : Int)))).toNat).drop (x3.2.2.1).toNat), ())) fun r4 =>
   .leaf (.inl (x3.1, r4.1, (IntKind.i64.wrap (x3.2.2.1 + (64 : Int))), ()))) (
   .leaf (.inr (x3.2.1, ())))
def T_s_Sha (a0 : YBs) : Tree ((YBs)) :=
  .br (decide ((a0.1.length : Int) > (1048576 : Int))) (
   .leaf (([] : List YB), ())) (
   .chk (decide (([] : List YB).length + a0.1.length ≤ 4294967296)) <|
   .ob (V_s_Pad ((a0.1.length : Int), ())) fun r1 =>
   .chk (decide ((([] : List YB) ++ a0.1).length + r1.1.length ≤ 4294967296)) <|
   .ob V_s_Start fun r2 =>
   .ob (iterO B_s_Sha_6 (((([] : List YB) ++ a0.1) ++ r1.1), r2.1, (0 : Int), ())) fun o5 =>
   .ob (V_s_l2Out o5) fun r6 =>
   .leaf r6)
def V_s_Sha (a0 : YBs) : Option ((YBs)) := (T_s_Sha a0).val
def B_s_BlockKey_6 (x2 : YBs) : Option ((YBs) ⊕ ((YBs))) :=
  Tree.val (α := (YBs) ⊕ ((YBs))) <|
  .br (decide ((x2.1.length : Int) < (64 : Int))) (
   .chk (decide (x2.1.length + [((0 : Int), ())].length ≤ 4294967296)) <|
   .leaf (.inl ((x2.1 ++ [((0 : Int), ())]), ()))) (
   .leaf (.inr x2))
def T_s_BlockKey (a0 : YBs) : Tree ((YBs)) :=
  .br (decide ((a0.1.length : Int) > (1048576 : Int))) (
   .leaf (([] : List YB), ())) (
   .chk (decide (([] : List YB).length + a0.1.length ≤ 4294967296)) <|
   .br (decide ((a0.1.length : Int) > (64 : Int))) (
    .ob (V_s_Sha a0) fun r1 =>
    .ob (iterO B_s_BlockKey_6 r1) fun o3 =>
    .leaf o3) (
    .ob (iterO B_s_BlockKey_6 ((([] : List YB) ++ a0.1), ())) fun o4 =>
    .leaf o4))
def V_s_BlockKey (a0 : YBs) : Option ((YBs)) := (T_s_BlockKey a0).val
def B_s_Hmac_7 (x2 : (List YB) × (List YB) × (List YB) × (List YB) × Int × Unit) : Option (((List YB) × (List YB) × (List YB) × (List YB) × Int × Unit) ⊕ (((List YB) × (List YB) × (List YB) × Unit))) :=
  Tree.val (α := ((List YB) × (List YB) × (List YB) × (List YB) × Int × Unit) ⊕ (((List YB) × (List YB) × (List YB) × Unit))) <|
  .br (decide (x2.2.2.2.2.1 < (64 : Int))) (
   .ob (idx x2.2.1 x2.2.2.2.2.1) fun e3 =>
   .chk (decide (x2.2.2.1.length + [((IntKind.u8.wrap ((BitVec.ofInt (IntKind.u8.bits) (e3.1) ^^^ BitVec.ofInt (IntKind.u8.bits) ((54 : Int))).toNat : Nat)), ())].length ≤ 4294967296)) <|
   .ob (idx x2.2.1 x2.2.2.2.2.1) fun e4 =>
   .chk (decide (x2.2.2.2.1.length + [((IntKind.u8.wrap ((BitVec.ofInt (IntKind.u8.bits) (e4.1) ^^^ BitVec.ofInt (IntKind.u8.bits) ((92 : Int))).toNat : Nat)), ())].length ≤ 4294967296)) <|
   .leaf (.inl (x2.1, x2.2.1, (x2.2.2.1 ++ [((IntKind.u8.wrap ((BitVec.ofInt (IntKind.u8.bits) (e3.1) ^^^ BitVec.ofInt (IntKind.u8.bits) ((54 : Int))).toNat : Nat)), ())]), (x2.2.2.2.1 ++ [((IntKind.u8.wrap ((BitVec.ofInt (IntKind.u8.bits) (e4.1) ^^^ BitVec.ofInt (IntKind.u8.bits) ((92 : Int))).toNat : Nat)), ())]), (IntKind.i64.wrap (x2.2.2.2.2.1 + (1 : Int))), ()))) (
   .leaf (.inr (x2.1, x2.2.2.1, x2.2.2.2.1, ())))
def T_s_Hmac (a0 : YBs) (a1 : YBs) : Tree ((YBs)) :=
  .br (decide ((a0.1.length : Int) > (1048576 : Int))) (
   .leaf (([] : List YB), ())) (
   .br (decide ((a1.1.length : Int) > (1048512 : Int))) (
    .leaf (([] : List YB), ())) (
    .ob (V_s_BlockKey a0) fun r1 =>
    .ob (iterO B_s_Hmac_7 (a1.1, r1.1, ([] : List YB), ([] : List YB), (0 : Int), ())) fun o5 =>
    .chk (decide (o5.2.1.length + o5.1.length ≤ 4294967296)) <|
    .ob (V_s_Sha ((o5.2.1 ++ o5.1), ())) fun r6 =>
    .chk (decide (o5.2.2.1.length + r6.1.length ≤ 4294967296)) <|
    .ob (V_s_Sha ((o5.2.2.1 ++ r6.1), ())) fun r7 =>
    .leaf r7))
def V_s_Hmac (a0 : YBs) (a1 : YBs) : Option ((YBs)) := (T_s_Hmac a0 a1).val
def T_s_BlockOf (a0 : YBs) (a1 : YBs) (a2 : YI) : Tree ((YBs)) :=
  .ob (V_s_l1In a2 ((0 : Int), ()) ((6 : Int), ())) fun r1 =>
  .br (!r1.1) (
   .leaf (([] : List YB), ())) (
   .br (decide ((a1.1.length : Int) > (100 : Int))) (
    .leaf (([] : List YB), ())) (
    .chk (decide ([((115 : Int), ())].length + a1.1.length ≤ 4294967296)) <|
    .ob (V_s_PutN (([((115 : Int), ())] ++ a1.1), ()) a2 ((4 : Int), ())) fun r2 =>
    .ob (V_s_Hmac a0 r2) fun r3 =>
    .leaf r3))
def V_s_BlockOf (a0 : YBs) (a1 : YBs) (a2 : YI) : Option ((YBs)) := (T_s_BlockOf a0 a1 a2).val
def B_s_Stream_5 (x2 : (List YB) × (List YB) × Int × (List YB) × Int × Unit) : Option (((List YB) × (List YB) × Int × (List YB) × Int × Unit) ⊕ ((Int × (List YB) × Unit))) :=
  Tree.val (α := ((List YB) × (List YB) × Int × (List YB) × Int × Unit) ⊕ ((Int × (List YB) × Unit))) <|
  .br (decide ((x2.2.2.2.1.length : Int) < x2.2.2.1)) (
   .ob (V_s_BlockOf (x2.1, ()) (x2.2.1, ()) (x2.2.2.2.2.1, ())) fun r3 =>
   .chk (decide (x2.2.2.2.1.length + r3.1.length ≤ 4294967296)) <|
   .leaf (.inl (x2.1, x2.2.1, x2.2.2.1, (x2.2.2.2.1 ++ r3.1), (IntKind.i64.wrap (x2.2.2.2.2.1 + (1 : Int))), ()))) (
   .leaf (.inr (x2.2.2.1, x2.2.2.2.1, ())))
def T_s_Stream (a0 : YBs) (a1 : YBs) (a2 : YI) : Tree ((YBs)) :=
  .ob (V_s_l1In a2 ((0 : Int), ()) ((200 : Int), ())) fun r1 =>
  .br (!r1.1) (
   .leaf (([] : List YB), ())) (
   .br (decide ((a1.1.length : Int) > (100 : Int))) (
    .leaf (([] : List YB), ())) (
    .br (decide ((a0.1.length : Int) > (1048576 : Int))) (
     .leaf (([] : List YB), ())) (
     .ob (iterO B_s_Stream_5 (a0.1, a1.1, a2.1, ([] : List YB), (0 : Int), ())) fun o4 =>
     .chk (decide ((0 : Int) ≤ o4.1)) <|
     .chk (decide (o4.1 ≤ (o4.2.1.length : Int))) <|
     .chk (decide (([] : List YB).length + ((o4.2.1.take (o4.1).toNat).drop ((0 : Int)).toNat).length ≤ 4294967296)) <|
     .leaf ((([] : List YB) ++ ((o4.2.1.take (o4.1).toNat).drop ((0 : Int)).toNat)), ()))))
def V_s_Stream (a0 : YBs) (a1 : YBs) (a2 : YI) : Option ((YBs)) := (T_s_Stream a0 a1 a2).val
def B_s_Mix_6 (x2 : (List YB) × (List YB) × (List YB) × Int × Unit) : Option (((List YB) × (List YB) × (List YB) × Int × Unit) ⊕ ((YBs))) :=
  Tree.val (α := ((List YB) × (List YB) × (List YB) × Int × Unit) ⊕ ((YBs))) <|
  .br (decide (x2.2.2.2.1 < (x2.1.length : Int))) (
   .ob (idx x2.1 x2.2.2.2.1) fun e3 =>
   .ob (idx x2.2.2.1 x2.2.2.2.1) fun e4 =>
   .chk (decide (x2.2.1.length + [((IntKind.u8.wrap ((BitVec.ofInt (IntKind.u8.bits) (e3.1) ^^^ BitVec.ofInt (IntKind.u8.bits) (e4.1)).toNat : Nat)), ())].length ≤ 4294967296)) <|
   .leaf (.inl (x2.1, (x2.2.1 ++ [((IntKind.u8.wrap ((BitVec.ofInt (IntKind.u8.bits) (e3.1) ^^^ BitVec.ofInt (IntKind.u8.bits) (e4.1)).toNat : Nat)), ())]), x2.2.2.1, (IntKind.i64.wrap (x2.2.2.2.1 + (1 : Int))), ()))) (
   .leaf (.inr (x2.2.1, ())))
def T_s_Mix (a0 : YBs) (a1 : YBs) (a2 : YBs) : Tree ((YBs)) :=
  .br (decide ((a2.1.length : Int) > (200 : Int))) (
   .leaf (([] : List YB), ())) (
   .br (decide ((a1.1.length : Int) > (100 : Int))) (
    .leaf (([] : List YB), ())) (
    .br (decide ((a0.1.length : Int) > (1048576 : Int))) (
     .leaf (([] : List YB), ())) (
     .ob (V_s_Stream a0 a1 ((a2.1.length : Int), ())) fun r1 =>
     .ob (iterO B_s_Mix_6 (a2.1, ([] : List YB), r1.1, (0 : Int), ())) fun o5 =>
     .leaf o5)))
def V_s_Mix (a0 : YBs) (a1 : YBs) (a2 : YBs) : Option ((YBs)) := (T_s_Mix a0 a1 a2).val
def T_s_FrameOk (a0 : YFrame) : Tree ((Bool × Unit)) :=
  .ob (V_s_Sealed (a0.1, ())) fun r1 =>
  .br r1.1 (
   .br (a0.2.1 == (0 : Int)) (
    .br ((a0.2.2.1.length : Int) == (0 : Int)) (
     .br ((a0.2.2.2.1.length : Int) == (12 : Int)) (
      .br (a0.2.2.2.2.1 == (0 : Int)) (
       .br ((a0.2.2.2.2.2.1.length : Int) == (0 : Int)) (
        .br ((a0.2.2.2.2.2.2.1.length : Int) == (0 : Int)) (
         .ob (V_s_l1In (a0.2.2.2.2.2.2.2.1, ()) ((0 : Int), ()) ((4294967295 : Int), ())) fun r2 =>
         .br r2.1 (
          .ob (V_s_l1In (a0.2.2.2.2.2.2.2.2.1, ()) ((0 : Int), ()) ((281474976710655 : Int), ())) fun r3 =>
          .br r3.1 (
           .ob (V_s_l7Body (a0.1, ()) ((a0.2.2.2.2.2.2.2.2.2.1.length : Int), ())) fun r4 =>
           .br r4.1 (
            .leaf (((a0.2.2.2.2.2.2.2.2.2.2.1.length : Int) == (16 : Int)), ())) (
            .leaf (false, ()))) (
           .leaf (false, ()))) (
          .leaf (false, ()))) (
         .leaf (false, ()))) (
        .leaf (false, ()))) (
       .leaf (false, ()))) (
      .leaf (false, ()))) (
     .leaf (false, ()))) (
    .leaf (false, ()))) (
   .br (a0.2.2.2.2.2.2.2.1 != (0 : Int)) (
    .leaf (false, ())) (
    .br (a0.2.2.2.2.2.2.2.2.1 != (0 : Int)) (
     .leaf (false, ())) (
     .br ((a0.2.2.2.2.2.2.2.2.2.1.length : Int) != (0 : Int)) (
      .leaf (false, ())) (
      .br ((a0.2.2.2.2.2.2.2.2.2.2.1.length : Int) != (0 : Int)) (
       .leaf (false, ())) (
       .br ((a0.2.2.1.length : Int) != (12 : Int)) (
        .leaf (false, ())) (
        .br (a0.1 == (1 : Int)) (
         .ob (V_s_l1In (a0.2.1, ()) ((1 : Int), ()) ((9 : Int), ())) fun r5 =>
         .br r5.1 (
          .br ((a0.2.2.2.1.length : Int) == (0 : Int)) (
           .br (a0.2.2.2.2.1 == (0 : Int)) (
            .br ((a0.2.2.2.2.2.1.length : Int) == (0 : Int)) (
             .leaf (((a0.2.2.2.2.2.2.1.length : Int) == (0 : Int)), ())) (
             .leaf (false, ()))) (
            .leaf (false, ()))) (
           .leaf (false, ()))) (
          .leaf (false, ()))) (
         .br (a0.1 == (2 : Int)) (
          .br (a0.2.1 == (0 : Int)) (
           .br ((a0.2.2.2.1.length : Int) == (12 : Int)) (
            .ob (V_s_l1In (a0.2.2.2.2.1, ()) ((0 : Int), ()) ((1000000 : Int), ())) fun r6 =>
            .br r6.1 (
             .br ((a0.2.2.2.2.2.1.length : Int) == (16 : Int)) (
              .leaf (((a0.2.2.2.2.2.2.1.length : Int) == (0 : Int)), ())) (
              .leaf (false, ()))) (
             .leaf (false, ()))) (
            .leaf (false, ()))) (
           .leaf (false, ()))) (
          .br (a0.1 == (3 : Int)) (
           .ob (V_s_l1In (a0.2.1, ()) ((1 : Int), ()) ((9 : Int), ())) fun r7 =>
           .br r7.1 (
            .br ((a0.2.2.2.1.length : Int) == (12 : Int)) (
             .ob (V_s_l1In (a0.2.2.2.2.1, ()) ((0 : Int), ()) ((1000000 : Int), ())) fun r8 =>
             .br r8.1 (
              .br ((a0.2.2.2.2.2.1.length : Int) == (16 : Int)) (
               .leaf (((a0.2.2.2.2.2.2.1.length : Int) == (16 : Int)), ())) (
               .leaf (false, ()))) (
              .leaf (false, ()))) (
             .leaf (false, ()))) (
            .leaf (false, ()))) (
           .leaf (false, ()))))))))))
def V_s_FrameOk (a0 : YFrame) : Option ((Bool × Unit)) := (T_s_FrameOk a0).val
def T_s_TagInput (a0 : YI) (a1 : YFrame) : Tree ((YBs)) :=
  .ob (V_s_l1In a0 ((0 : Int), ()) ((1 : Int), ())) fun r1 =>
  .br (!r1.1) (
   .leaf (([] : List YB), ())) (
   .ob (V_s_FrameOk a1) fun r2 =>
   .br (!r2.1) (
    .leaf (([] : List YB), ())) (
    .ob (V_s_Sealed (a1.1, ())) fun r3 =>
    .br (!r3.1) (
     .leaf (([] : List YB), ())) (
     .ob (V_s_HeadOf a0 (a1.2.2.2.1, ()) (a1.2.2.2.2.2.2.2.1, ()) (a1.2.2.2.2.2.2.2.2.1, ())) fun r4 =>
     .chk (decide ([((116 : Int), ())].length + r4.1.length ≤ 4294967296)) <|
     .chk (decide (([((116 : Int), ())] ++ r4.1).length + [((IntKind.u8.wrap (a1.1)), ())].length ≤ 4294967296)) <|
     .chk (decide ((([((116 : Int), ())] ++ r4.1) ++ [((IntKind.u8.wrap (a1.1)), ())]).length + a1.2.2.2.2.2.2.2.2.2.1.length ≤ 4294967296)) <|
     .leaf (((([((116 : Int), ())] ++ r4.1) ++ [((IntKind.u8.wrap (a1.1)), ())]) ++ a1.2.2.2.2.2.2.2.2.2.1), ()))))
def V_s_TagInput (a0 : YI) (a1 : YFrame) : Option ((YBs)) := (T_s_TagInput a0 a1).val
def T_s_Tag (a0 : YBs) (a1 : YBs) : Tree ((YBs)) :=
  .ob (V_s_Hmac a0 a1) fun r1 =>
  .br (decide ((r1.1.length : Int) < (16 : Int))) (
   .leaf (([] : List YB), ())) (
   .chk (decide ((16 : Int) ≤ (r1.1.length : Int))) <|
   .chk (decide (([] : List YB).length + ((r1.1.take ((16 : Int)).toNat).drop ((0 : Int)).toNat).length ≤ 4294967296)) <|
   .leaf ((([] : List YB) ++ ((r1.1.take ((16 : Int)).toNat).drop ((0 : Int)).toNat)), ()))
def V_s_Tag (a0 : YBs) (a1 : YBs) : Option ((YBs)) := (T_s_Tag a0 a1).val
def B_s_Seal_6 (x5 : (List YB) × Int × Int × Int × Int × (List YB) × (List YB) × Int × (List YB) × (List YB) × Int × Int × (List YB) × (List YB) × Int × Int × (List YB) × (List YB) × Int × (List YB) × (List YB) × Int × Int × (List YB) × (List YB) × Unit) : Option (((List YB) × Int × Int × Int × Int × (List YB) × (List YB) × Int × (List YB) × (List YB) × Int × Int × (List YB) × (List YB) × Int × Int × (List YB) × (List YB) × Int × (List YB) × (List YB) × Int × Int × (List YB) × (List YB) × Unit) ⊕ (((List YB) × Int × Int × Int × (List YB) × (List YB) × Int × (List YB) × (List YB) × Int × Int × (List YB) × (List YB) × Int × Int × (List YB) × (List YB) × Int × (List YB) × (List YB) × Int × Int × (List YB) × (List YB) × Unit))) :=
  Tree.val (α := ((List YB) × Int × Int × Int × Int × (List YB) × (List YB) × Int × (List YB) × (List YB) × Int × Int × (List YB) × (List YB) × Int × Int × (List YB) × (List YB) × Int × (List YB) × (List YB) × Int × Int × (List YB) × (List YB) × Unit) ⊕ (((List YB) × Int × Int × Int × (List YB) × (List YB) × Int × (List YB) × (List YB) × Int × Int × (List YB) × (List YB) × Int × Int × (List YB) × (List YB) × Int × (List YB) × (List YB) × Int × Int × (List YB) × (List YB) × Unit))) <|
  .br (decide (x5.2.2.1 < (16 : Int))) (
   .chk (decide (x5.2.2.2.2.2.2.2.2.2.2.2.2.2.2.2.2.2.2.2.2.2.2.2.2.1.length + [((0 : Int), ())].length ≤ 4294967296)) <|
   .leaf (.inl (x5.1, x5.2.1, (IntKind.i64.wrap (x5.2.2.1 + (1 : Int))), x5.2.2.2.1, x5.2.2.2.2.1, x5.2.2.2.2.2.1, x5.2.2.2.2.2.2.1, x5.2.2.2.2.2.2.2.1, x5.2.2.2.2.2.2.2.2.1, x5.2.2.2.2.2.2.2.2.2.1, x5.2.2.2.2.2.2.2.2.2.2.1, x5.2.2.2.2.2.2.2.2.2.2.2.1, x5.2.2.2.2.2.2.2.2.2.2.2.2.1, x5.2.2.2.2.2.2.2.2.2.2.2.2.2.1, x5.2.2.2.2.2.2.2.2.2.2.2.2.2.2.1, x5.2.2.2.2.2.2.2.2.2.2.2.2.2.2.2.1, x5.2.2.2.2.2.2.2.2.2.2.2.2.2.2.2.2.1, x5.2.2.2.2.2.2.2.2.2.2.2.2.2.2.2.2.2.1, x5.2.2.2.2.2.2.2.2.2.2.2.2.2.2.2.2.2.2.1, x5.2.2.2.2.2.2.2.2.2.2.2.2.2.2.2.2.2.2.2.1, x5.2.2.2.2.2.2.2.2.2.2.2.2.2.2.2.2.2.2.2.2.1, x5.2.2.2.2.2.2.2.2.2.2.2.2.2.2.2.2.2.2.2.2.2.1, x5.2.2.2.2.2.2.2.2.2.2.2.2.2.2.2.2.2.2.2.2.2.2.1, x5.2.2.2.2.2.2.2.2.2.2.2.2.2.2.2.2.2.2.2.2.2.2.2.1, (x5.2.2.2.2.2.2.2.2.2.2.2.2.2.2.2.2.2.2.2.2.2.2.2.2.1 ++ [((0 : Int), ())]), ()))) (
   .leaf (.inr (x5.1, x5.2.1, x5.2.2.2.1, x5.2.2.2.2.1, x5.2.2.2.2.2.1, x5.2.2.2.2.2.2.1, x5.2.2.2.2.2.2.2.1, x5.2.2.2.2.2.2.2.2.1, x5.2.2.2.2.2.2.2.2.2.1, x5.2.2.2.2.2.2.2.2.2.2.1, x5.2.2.2.2.2.2.2.2.2.2.2.1, x5.2.2.2.2.2.2.2.2.2.2.2.2.1, x5.2.2.2.2.2.2.2.2.2.2.2.2.2.1, x5.2.2.2.2.2.2.2.2.2.2.2.2.2.2.1, x5.2.2.2.2.2.2.2.2.2.2.2.2.2.2.2.1, x5.2.2.2.2.2.2.2.2.2.2.2.2.2.2.2.2.1, x5.2.2.2.2.2.2.2.2.2.2.2.2.2.2.2.2.2.1, x5.2.2.2.2.2.2.2.2.2.2.2.2.2.2.2.2.2.2.1, x5.2.2.2.2.2.2.2.2.2.2.2.2.2.2.2.2.2.2.2.1, x5.2.2.2.2.2.2.2.2.2.2.2.2.2.2.2.2.2.2.2.2.1, x5.2.2.2.2.2.2.2.2.2.2.2.2.2.2.2.2.2.2.2.2.2.1, x5.2.2.2.2.2.2.2.2.2.2.2.2.2.2.2.2.2.2.2.2.2.2.1, x5.2.2.2.2.2.2.2.2.2.2.2.2.2.2.2.2.2.2.2.2.2.2.2.1, x5.2.2.2.2.2.2.2.2.2.2.2.2.2.2.2.2.2.2.2.2.2.2.2.2.1, ())))
def T_s_Seal (a0 : YBs) (a1 : YI) (a2 : YBs) (a3 : YI) (a4 : YI) (a5 : YI) (a6 : YBs) : Tree ((YFrame) × (Bool × Unit)) :=
  .ob (V_s_HeadOf a1 a2 a3 a4) fun r1 =>
  .br ((a0.1.length : Int) != (32 : Int)) (
   .leaf (((0 : Int), (0 : Int), ([] : List YB), ([] : List YB), (0 : Int), ([] : List YB), ([] : List YB), (0 : Int), (0 : Int), ([] : List YB), ([] : List YB), ()), (false, ()))) (
   .br ((r1.1.length : Int) == (0 : Int)) (
    .leaf (((0 : Int), (0 : Int), ([] : List YB), ([] : List YB), (0 : Int), ([] : List YB), ([] : List YB), (0 : Int), (0 : Int), ([] : List YB), ([] : List YB), ()), (false, ()))) (
    .ob (V_s_Sealed a5) fun r2 =>
    .br (!r2.1) (
     .leaf (((0 : Int), (0 : Int), ([] : List YB), ([] : List YB), (0 : Int), ([] : List YB), ([] : List YB), (0 : Int), (0 : Int), ([] : List YB), ([] : List YB), ()), (false, ()))) (
     .ob (V_s_l7Body a5 ((a6.1.length : Int), ())) fun r3 =>
     .br (!r3.1) (
      .leaf (((0 : Int), (0 : Int), ([] : List YB), ([] : List YB), (0 : Int), ([] : List YB), ([] : List YB), (0 : Int), (0 : Int), ([] : List YB), ([] : List YB), ()), (false, ()))) (
      .chk (decide (([] : List YB).length + a2.1.length ≤ 4294967296)) <|
      .ob (V_s_Mix a0 r1 a6) fun r4 =>
      .ob (iterO B_s_Seal_6 (a0.1, a1.1, (0 : Int), (0 : Int), (0 : Int), ([] : List YB), ([] : List YB), (0 : Int), ([] : List YB), ([] : List YB), (0 : Int), (0 : Int), ([] : List YB), ([] : List YB), a5.1, (0 : Int), ([] : List YB), (([] : List YB) ++ a2.1), (0 : Int), ([] : List YB), ([] : List YB), a3.1, a4.1, r4.1, ([] : List YB), ())) fun o6 =>
      .ob (V_s_TagInput (o6.2.1, ()) (o6.2.2.2.2.2.2.2.2.2.2.2.2.2.1, o6.2.2.2.2.2.2.2.2.2.2.2.2.2.2.1, o6.2.2.2.2.2.2.2.2.2.2.2.2.2.2.2.1, o6.2.2.2.2.2.2.2.2.2.2.2.2.2.2.2.2.1, o6.2.2.2.2.2.2.2.2.2.2.2.2.2.2.2.2.2.1, o6.2.2.2.2.2.2.2.2.2.2.2.2.2.2.2.2.2.2.1, o6.2.2.2.2.2.2.2.2.2.2.2.2.2.2.2.2.2.2.2.1, o6.2.2.2.2.2.2.2.2.2.2.2.2.2.2.2.2.2.2.2.2.1, o6.2.2.2.2.2.2.2.2.2.2.2.2.2.2.2.2.2.2.2.2.2.1, o6.2.2.2.2.2.2.2.2.2.2.2.2.2.2.2.2.2.2.2.2.2.2.1, o6.2.2.2.2.2.2.2.2.2.2.2.2.2.2.2.2.2.2.2.2.2.2.2.1, ())) fun r7 =>
      .ob (V_s_Tag (o6.1, ()) r7) fun r8 =>
      .leaf ((o6.2.2.2.2.2.2.2.2.2.2.2.2.2.1, o6.2.2.2.2.2.2.2.2.2.2.2.2.2.2.1, o6.2.2.2.2.2.2.2.2.2.2.2.2.2.2.2.1, o6.2.2.2.2.2.2.2.2.2.2.2.2.2.2.2.2.1, o6.2.2.2.2.2.2.2.2.2.2.2.2.2.2.2.2.2.1, o6.2.2.2.2.2.2.2.2.2.2.2.2.2.2.2.2.2.2.1, o6.2.2.2.2.2.2.2.2.2.2.2.2.2.2.2.2.2.2.2.1, o6.2.2.2.2.2.2.2.2.2.2.2.2.2.2.2.2.2.2.2.2.1, o6.2.2.2.2.2.2.2.2.2.2.2.2.2.2.2.2.2.2.2.2.2.1, o6.2.2.2.2.2.2.2.2.2.2.2.2.2.2.2.2.2.2.2.2.2.2.1, r8.1, ()), (true, ()))))))
def V_s_Seal (a0 : YBs) (a1 : YI) (a2 : YBs) (a3 : YI) (a4 : YI) (a5 : YI) (a6 : YBs) : Option ((YFrame) × (Bool × Unit)) := (T_s_Seal a0 a1 a2 a3 a4 a5 a6).val
def T_s_EpSeal (a0 : YEp) (a1 : YI) (a2 : YBs) (a3 : YI) (a4 : YBs) : Tree ((YEp) × (YFrame) × (YI)) :=
  .ob (V_s_l9Copy a0) fun r1 =>
  .ob (V_s_EpOk a0) fun r2 =>
  .br (!r2.1) (
   .leaf (r1, ((0 : Int), (0 : Int), ([] : List YB), ([] : List YB), (0 : Int), ([] : List YB), ([] : List YB), (0 : Int), (0 : Int), ([] : List YB), ([] : List YB), ()), ((1 : Int), ()))) (
   .ob (V_s_HeadOf a1 a2 (a0.1, ()) ((0 : Int), ())) fun r3 =>
   .br ((r3.1.length : Int) == (0 : Int)) (
    .leaf (r1, ((0 : Int), (0 : Int), ([] : List YB), ([] : List YB), (0 : Int), ([] : List YB), ([] : List YB), (0 : Int), (0 : Int), ([] : List YB), ([] : List YB), ()), ((1 : Int), ()))) (
    .ob (V_s_Sealed a3) fun r4 =>
    .br (!r4.1) (
     .leaf (r1, ((0 : Int), (0 : Int), ([] : List YB), ([] : List YB), (0 : Int), ([] : List YB), ([] : List YB), (0 : Int), (0 : Int), ([] : List YB), ([] : List YB), ()), ((1 : Int), ()))) (
     .ob (V_s_l7Body a3 ((a4.1.length : Int), ())) fun r5 =>
     .br (!r5.1) (
      .leaf (r1, ((0 : Int), (0 : Int), ([] : List YB), ([] : List YB), (0 : Int), ([] : List YB), ([] : List YB), (0 : Int), (0 : Int), ([] : List YB), ([] : List YB), ()), ((1 : Int), ()))) (
      .br (a3.1 == (4 : Int)) (
       .br (decide (a0.2.2.1 ≥ (281474976709656 : Int))) (
        .leaf (r1, ((0 : Int), (0 : Int), ([] : List YB), ([] : List YB), (0 : Int), ([] : List YB), ([] : List YB), (0 : Int), (0 : Int), ([] : List YB), ([] : List YB), ()), ((4 : Int), ()))) (
        .br (a0.2.2.1 == (281474976710656 : Int)) (
         .leaf (r1, ((0 : Int), (0 : Int), ([] : List YB), ([] : List YB), (0 : Int), ([] : List YB), ([] : List YB), (0 : Int), (0 : Int), ([] : List YB), ([] : List YB), ()), ((5 : Int), ()))) (
         .ob (V_s_Seal (a0.2.1, ()) a1 a2 (a0.1, ()) (a0.2.2.1, ()) a3 a4) fun r6 =>
         .leaf ((r1.1, r1.2.1, (IntKind.i64.wrap (a0.2.2.1 + (1 : Int))), r1.2.2.2.1, r1.2.2.2.2.1, ()), r6.1, ((0 : Int), ()))))) (
       .br (a0.2.2.1 == (281474976710656 : Int)) (
        .leaf (r1, ((0 : Int), (0 : Int), ([] : List YB), ([] : List YB), (0 : Int), ([] : List YB), ([] : List YB), (0 : Int), (0 : Int), ([] : List YB), ([] : List YB), ()), ((5 : Int), ()))) (
        .ob (V_s_Seal (a0.2.1, ()) a1 a2 (a0.1, ()) (a0.2.2.1, ()) a3 a4) fun r7 =>
        .leaf ((r1.1, r1.2.1, (IntKind.i64.wrap (a0.2.2.1 + (1 : Int))), r1.2.2.2.1, r1.2.2.2.2.1, ()), r7.1, ((0 : Int), ()))))))))
def V_s_EpSeal (a0 : YEp) (a1 : YI) (a2 : YBs) (a3 : YI) (a4 : YBs) : Option ((YEp) × (YFrame) × (YI)) := (T_s_EpSeal a0 a1 a2 a3 a4).val
def T_s_ChanSeal (a0 : YChan) (a1 : YI) (a2 : YBs) : Tree ((YChan) × (YFrame) × (YI)) :=
  .ob (V_s_l14Copy a0) fun r1 =>
  .ob (V_s_ChanOk a0) fun r2 =>
  .br (!r2.1) (
   .leaf (r1, ((0 : Int), (0 : Int), ([] : List YB), ([] : List YB), (0 : Int), ([] : List YB), ([] : List YB), (0 : Int), (0 : Int), ([] : List YB), ([] : List YB), ()), ((1 : Int), ()))) (
   .ob (V_s_EpSeal (a0.2.2.1, a0.2.2.2.1, a0.2.2.2.2.1, a0.2.2.2.2.2.1, a0.2.2.2.2.2.2.1, ()) (a0.1, ()) (a0.2.1, ()) a1 a2) fun r3 =>
   .br (r3.2.2.1 == (0 : Int)) (
    .leaf ((r1.1, r1.2.1, r3.1.1, r3.1.2.1, r3.1.2.2.1, r3.1.2.2.2.1, r3.1.2.2.2.2.1, r1.2.2.2.2.2.2.2.1, r1.2.2.2.2.2.2.2.2.1, r1.2.2.2.2.2.2.2.2.2.1, r1.2.2.2.2.2.2.2.2.2.2.1, r1.2.2.2.2.2.2.2.2.2.2.2.1, r1.2.2.2.2.2.2.2.2.2.2.2.2.1, r1.2.2.2.2.2.2.2.2.2.2.2.2.2.1, r1.2.2.2.2.2.2.2.2.2.2.2.2.2.2.1, ()), r3.2.1, r3.2.2)) (
    .leaf (r1, r3.2.1, r3.2.2)))
def V_s_ChanSeal (a0 : YChan) (a1 : YI) (a2 : YBs) : Option ((YChan) × (YFrame) × (YI)) := (T_s_ChanSeal a0 a1 a2).val
def T_s_Made (a0 : YBs) (a1 : YBs) : Tree ((YNote)) :=
  .chk (decide (([] : List YB).length + a0.1.length ≤ 4294967296)) <|
  .chk (decide (([] : List YB).length + a1.1.length ≤ 4294967296)) <|
  .leaf ((15 : Int), (0 : Int), (0 : Int), ([] : List YB), ([] : List YB), (0 : Int), (0 : Int), (([] : List YB) ++ a1.1), (([] : List YB) ++ a0.1), (0 : Int), (0 : Int), (0 : Int), ())
def V_s_Made (a0 : YBs) (a1 : YBs) : Option ((YNote)) := (T_s_Made a0 a1).val
def T_s_l19Made (a0 : YChan) (a1 : YFrame) : Tree ((YNote)) :=
  .ob (V_s_TagInput (a0.1, ()) a1) fun r1 =>
  .ob (V_s_Made (a0.2.2.2.1, ()) r1) fun r2 =>
  .leaf r2
def V_s_l19Made (a0 : YChan) (a1 : YFrame) : Option ((YNote)) := (T_s_l19Made a0 a1).val
def T_s_SessSend (a0 : YSess) (a1 : YBs) : Tree ((YSess) × ((List YOut) × Unit) × ((List YNote) × Unit) × (YI)) :=
  .ob (V_s_l20Copy a0) fun r1 =>
  .ob (V_s_SessOk a0) fun r2 =>
  .br (!r2.1) (
   .leaf (r1, (([] : List YOut), ()), (([] : List YNote), ()), ((1 : Int), ()))) (
   .br (decide ((a1.1.length : Int) > (40 : Int))) (
    .leaf (r1, (([] : List YOut), ()), (([] : List YNote), ()), ((1 : Int), ()))) (
    .br a0.2.2.2.2.2.2.2.2.2.2.2.2.2.2.2.2.2.2.2.2.2.2.2.1 (
     .leaf (r1, (([] : List YOut), ()), (([] : List YNote), ()), ((6 : Int), ()))) (
     .ob (V_s_ChanSeal (a0.2.2.2.1, a0.2.2.2.2.1, a0.2.2.2.2.2.1, a0.2.2.2.2.2.2.1, a0.2.2.2.2.2.2.2.1, a0.2.2.2.2.2.2.2.2.1, a0.2.2.2.2.2.2.2.2.2.1, a0.2.2.2.2.2.2.2.2.2.2.1, a0.2.2.2.2.2.2.2.2.2.2.2.1, a0.2.2.2.2.2.2.2.2.2.2.2.2.1, a0.2.2.2.2.2.2.2.2.2.2.2.2.2.1, a0.2.2.2.2.2.2.2.2.2.2.2.2.2.2.1, a0.2.2.2.2.2.2.2.2.2.2.2.2.2.2.2.1, a0.2.2.2.2.2.2.2.2.2.2.2.2.2.2.2.2.1, a0.2.2.2.2.2.2.2.2.2.2.2.2.2.2.2.2.2.1, ()) ((4 : Int), ()) a1) fun r3 =>
     .br (r3.2.2.1 != (0 : Int)) (
      .leaf (r1, (([] : List YOut), ()), (([] : List YNote), ()), r3.2.2)) (
      .chk (decide (([] : List YB).length + a0.2.2.1.length ≤ 4294967296)) <|
      .chk (decide (([] : List YB).length + a1.1.length ≤ 4294967296)) <|
      .ob (V_s_l19Made r3.1 r3.2.1) fun r4 =>
      .leaf ((r1.1, r1.2.1, r1.2.2.1, r3.1.1, r3.1.2.1, r3.1.2.2.1, r3.1.2.2.2.1, r3.1.2.2.2.2.1, r3.1.2.2.2.2.2.1, r3.1.2.2.2.2.2.2.1, r3.1.2.2.2.2.2.2.2.1, r3.1.2.2.2.2.2.2.2.2.1, r3.1.2.2.2.2.2.2.2.2.2.1, r3.1.2.2.2.2.2.2.2.2.2.2.1, r3.1.2.2.2.2.2.2.2.2.2.2.2.1, r3.1.2.2.2.2.2.2.2.2.2.2.2.2.1, r3.1.2.2.2.2.2.2.2.2.2.2.2.2.2.1, r3.1.2.2.2.2.2.2.2.2.2.2.2.2.2.2.1, r1.2.2.2.2.2.2.2.2.2.2.2.2.2.2.2.2.2.2.1, r1.2.2.2.2.2.2.2.2.2.2.2.2.2.2.2.2.2.2.2.1, r1.2.2.2.2.2.2.2.2.2.2.2.2.2.2.2.2.2.2.2.2.1, r1.2.2.2.2.2.2.2.2.2.2.2.2.2.2.2.2.2.2.2.2.2.1, r1.2.2.2.2.2.2.2.2.2.2.2.2.2.2.2.2.2.2.2.2.2.2.1, r1.2.2.2.2.2.2.2.2.2.2.2.2.2.2.2.2.2.2.2.2.2.2.2.1, ()), ([(a0.2.2.2.2.2.2.2.2.2.2.2.2.2.2.2.2.2.2.1, a0.2.2.2.2.2.2.2.2.2.2.2.2.2.2.2.2.2.2.2.1, r3.2.1.1, r3.2.1.2.1, r3.2.1.2.2.1, r3.2.1.2.2.2.1, r3.2.1.2.2.2.2.1, r3.2.1.2.2.2.2.2.1, r3.2.1.2.2.2.2.2.2.1, r3.2.1.2.2.2.2.2.2.2.1, r3.2.1.2.2.2.2.2.2.2.2.1, r3.2.1.2.2.2.2.2.2.2.2.2.1, r3.2.1.2.2.2.2.2.2.2.2.2.2.1, ())], ()), ([r4, ((5 : Int), (0 : Int), (1 : Int), ([] : List YB), (([] : List YB) ++ a0.2.2.1), r3.2.1.2.2.2.2.2.2.2.1, r3.2.1.2.2.2.2.2.2.2.2.1, (([] : List YB) ++ a1.1), ([] : List YB), (0 : Int), (0 : Int), (0 : Int), ())], ()), ((0 : Int), ()))))))
def V_s_SessSend (a0 : YSess) (a1 : YBs) : Option ((YSess) × ((List YOut) × Unit) × ((List YNote) × Unit) × (YI)) := (T_s_SessSend a0 a1).val
def T_s_ServerSend (a0 : YServer) (a1 : YI) (a2 : YI) (a3 : YBs) : Tree ((YServer) × ((List YOut) × Unit) × ((List YNote) × Unit) × (YI)) :=
  .ob (V_s_l22Copy a0) fun r1 =>
  .ob (V_s_ServerOk a0) fun r2 =>
  .br (!r2.1) (
   .leaf (r1, (([] : List YOut), ()), (([] : List YNote), ()), ((1 : Int), ()))) (
   .ob (V_s_l1In a1 ((0 : Int), ()) ((1000000 : Int), ())) fun r3 =>
   .br (!r3.1) (
    .leaf (r1, (([] : List YOut), ()), (([] : List YNote), ()), ((1 : Int), ()))) (
    .ob (V_s_l1In a2 ((0 : Int), ()) ((IntKind.i64.wrap ((a0.2.2.2.2.2.1.length : Int) - (1 : Int))), ())) fun r4 =>
    .br (!r4.1) (
     .leaf (r1, (([] : List YOut), ()), (([] : List YNote), ()), ((8 : Int), ()))) (
     .ob (idx a0.2.2.2.2.2.1 a2.1) fun e5 =>
     .ob (V_s_SessSend e5 a3) fun r6 =>
     .br (r6.2.2.2.1 == (0 : Int)) (
      .ob (idx r1.2.2.2.2.2.1 a2.1) fun e7 =>
      let q8 := (r1.2.2.2.2.2.1.set (a2.1).toNat r6.1)
      .leaf ((r1.1, r1.2.1, r1.2.2.1, r1.2.2.2.1, r1.2.2.2.2.1, q8, r1.2.2.2.2.2.2.1, ()), r6.2.1, r6.2.2.1, r6.2.2.2)) (
      .leaf (r1, r6.2.1, r6.2.2.1, r6.2.2.2)))))
def V_s_ServerSend (a0 : YServer) (a1 : YI) (a2 : YI) (a3 : YBs) : Option ((YServer) × ((List YOut) × Unit) × ((List YNote) × Unit) × (YI)) := (T_s_ServerSend a0 a1 a2 a3).val
def T_i_clone (a0 : YBs) : Tree ((YBs)) :=
  .chk (decide (([] : List YB).length + a0.1.length ≤ 4294967296)) <|
  .leaf ((([] : List YB) ++ a0.1), ())
def V_i_clone (a0 : YBs) : Option ((YBs)) := (T_i_clone a0).val
def B_i_cloneAll_3 (x1 : (List YBs) × (List YBs) × Int × Int × Unit) : Option (((List YBs) × (List YBs) × Int × Int × Unit) ⊕ (((List YBs) × Unit))) :=
  Tree.val (α := ((List YBs) × (List YBs) × Int × Int × Unit) ⊕ (((List YBs) × Unit))) <|
  .br (decide (x1.2.2.2.1 < x1.2.2.1)) (
   .ob (idx x1.2.1 x1.2.2.2.1) fun e2 =>
   .ob (V_i_clone e2) fun r3 =>
   .chk (decide (x1.1.length + [r3].length ≤ 4294967296)) <|
   .leaf (.inl ((x1.1 ++ [r3]), x1.2.1, x1.2.2.1, (IntKind.i64.wrap (x1.2.2.2.1 + (1 : Int))), ()))) (
   .leaf (.inr (x1.1, ())))
def T_i_cloneAll (a0 : (List YBs) × Unit) : Tree (((List YBs) × Unit)) :=
  .ob (iterO B_i_cloneAll_3 (([] : List YBs), a0.1, (a0.1.length : Int), (0 : Int), ())) fun o4 =>
  .leaf o4
def V_i_cloneAll (a0 : (List YBs) × Unit) : Option (((List YBs) × Unit)) := (T_i_cloneAll a0).val
def T_i_copyWin (a0 : YWin) : Tree ((YWin)) :=
  .chk (decide (([] : List YI).length + a0.2.1.length ≤ 4294967296)) <|
  .leaf (a0.1, (([] : List YI) ++ a0.2.1), ())
def V_i_copyWin (a0 : YWin) : Option ((YWin)) := (T_i_copyWin a0).val
def T_i_copyEp (a0 : YEp) : Tree ((YEp)) :=
  .ob (V_i_clone (a0.2.1, ())) fun r1 =>
  .ob (V_i_copyWin (a0.2.2.2.1, a0.2.2.2.2.1, ())) fun r2 =>
  .leaf (a0.1, r1.1, a0.2.2.1, r2.1, r2.2.1, ())
def V_i_copyEp (a0 : YEp) : Option ((YEp)) := (T_i_copyEp a0).val
def T_i_copyChan (a0 : YChan) : Tree ((YChan)) :=
  .ob (V_i_clone (a0.2.1, ())) fun r1 =>
  .ob (V_i_clone (a0.2.2.2.2.2.2.2.2.2.2.2.2.2.2.1, ())) fun r2 =>
  .ob (V_i_copyEp (a0.2.2.1, a0.2.2.2.1, a0.2.2.2.2.1, a0.2.2.2.2.2.1, a0.2.2.2.2.2.2.1, ())) fun r3 =>
  .ob (V_i_copyEp (a0.2.2.2.2.2.2.2.1, a0.2.2.2.2.2.2.2.2.1, a0.2.2.2.2.2.2.2.2.2.1, a0.2.2.2.2.2.2.2.2.2.2.1, a0.2.2.2.2.2.2.2.2.2.2.2.1, ())) fun r4 =>
  .leaf (a0.1, r1.1, r3.1, r3.2.1, r3.2.2.1, r3.2.2.2.1, r3.2.2.2.2.1, r4.1, r4.2.1, r4.2.2.1, r4.2.2.2.1, r4.2.2.2.2.1, a0.2.2.2.2.2.2.2.2.2.2.2.2.1, a0.2.2.2.2.2.2.2.2.2.2.2.2.2.1, r2.1, ())
def V_i_copyChan (a0 : YChan) : Option ((YChan)) := (T_i_copyChan a0).val
def B_i_copyPaths_3 (x1 : (List YCand) × Int × Int × Int × Int × (List YCand) × Int × Int × (List YCand) × Unit) : Option (((List YCand) × Int × Int × Int × Int × (List YCand) × Int × Int × (List YCand) × Unit) ⊕ ((Int × Int × (List YCand) × Int × Int × (List YCand) × Unit))) :=
  Tree.val (α := ((List YCand) × Int × Int × Int × Int × (List YCand) × Int × Int × (List YCand) × Unit) ⊕ ((Int × Int × (List YCand) × Int × Int × (List YCand) × Unit))) <|
  .br (decide (x1.2.2.1 < x1.2.1)) (
   .ob (idx x1.1 x1.2.2.1) fun e2 =>
   .ob (V_i_clone (e2.2.2.1, ())) fun r3 =>
   .chk (decide (x1.2.2.2.2.2.2.2.2.1.length + [(e2.1, e2.2.1, r3.1, e2.2.2.2.1, ())].length ≤ 4294967296)) <|
   .leaf (.inl (x1.1, x1.2.1, (IntKind.i64.wrap (x1.2.2.1 + (1 : Int))), x1.2.2.2.1, x1.2.2.2.2.1, x1.2.2.2.2.2.1, x1.2.2.2.2.2.2.1, x1.2.2.2.2.2.2.2.1, (x1.2.2.2.2.2.2.2.2.1 ++ [(e2.1, e2.2.1, r3.1, e2.2.2.2.1, ())]), ()))) (
   .leaf (.inr (x1.2.2.2.1, x1.2.2.2.2.1, x1.2.2.2.2.2.1, x1.2.2.2.2.2.2.1, x1.2.2.2.2.2.2.2.1, x1.2.2.2.2.2.2.2.2.1, ())))
def T_i_copyPaths (a0 : YPaths) : Tree ((YPaths)) :=
  .ob (iterO B_i_copyPaths_3 (a0.2.2.1, (a0.2.2.1.length : Int), (0 : Int), (0 : Int), (0 : Int), ([] : List YCand), a0.1, a0.2.1, ([] : List YCand), ())) fun o4 =>
  .leaf (o4.2.2.2.1, o4.2.2.2.2.1, o4.2.2.2.2.2.1, ())
def V_i_copyPaths (a0 : YPaths) : Option ((YPaths)) := (T_i_copyPaths a0).val
def T_i_copySess (a0 : YSess) : Tree ((YSess)) :=
  .ob (V_i_clone (a0.2.1, ())) fun r1 =>
  .ob (V_i_clone (a0.2.2.1, ())) fun r2 =>
  .ob (V_i_copyChan (a0.2.2.2.1, a0.2.2.2.2.1, a0.2.2.2.2.2.1, a0.2.2.2.2.2.2.1, a0.2.2.2.2.2.2.2.1, a0.2.2.2.2.2.2.2.2.1, a0.2.2.2.2.2.2.2.2.2.1, a0.2.2.2.2.2.2.2.2.2.2.1, a0.2.2.2.2.2.2.2.2.2.2.2.1, a0.2.2.2.2.2.2.2.2.2.2.2.2.1, a0.2.2.2.2.2.2.2.2.2.2.2.2.2.1, a0.2.2.2.2.2.2.2.2.2.2.2.2.2.2.1, a0.2.2.2.2.2.2.2.2.2.2.2.2.2.2.2.1, a0.2.2.2.2.2.2.2.2.2.2.2.2.2.2.2.2.1, a0.2.2.2.2.2.2.2.2.2.2.2.2.2.2.2.2.2.1, ())) fun r3 =>
  .ob (V_i_copyPaths (a0.2.2.2.2.2.2.2.2.2.2.2.2.2.2.2.2.2.2.1, a0.2.2.2.2.2.2.2.2.2.2.2.2.2.2.2.2.2.2.2.1, a0.2.2.2.2.2.2.2.2.2.2.2.2.2.2.2.2.2.2.2.2.1, ())) fun r4 =>
  .leaf (a0.1, r1.1, r2.1, r3.1, r3.2.1, r3.2.2.1, r3.2.2.2.1, r3.2.2.2.2.1, r3.2.2.2.2.2.1, r3.2.2.2.2.2.2.1, r3.2.2.2.2.2.2.2.1, r3.2.2.2.2.2.2.2.2.1, r3.2.2.2.2.2.2.2.2.2.1, r3.2.2.2.2.2.2.2.2.2.2.1, r3.2.2.2.2.2.2.2.2.2.2.2.1, r3.2.2.2.2.2.2.2.2.2.2.2.2.1, r3.2.2.2.2.2.2.2.2.2.2.2.2.2.1, r3.2.2.2.2.2.2.2.2.2.2.2.2.2.2.1, r4.1, r4.2.1, r4.2.2.1, a0.2.2.2.2.2.2.2.2.2.2.2.2.2.2.2.2.2.2.2.2.2.1, a0.2.2.2.2.2.2.2.2.2.2.2.2.2.2.2.2.2.2.2.2.2.2.1, a0.2.2.2.2.2.2.2.2.2.2.2.2.2.2.2.2.2.2.2.2.2.2.2.1, ())
def V_i_copySess (a0 : YSess) : Option ((YSess)) := (T_i_copySess a0).val
def B_i_copyTab_3 (x1 : (List YSess) × Int × Int × Int × (List YSess) × Int × (List YSess) × Unit) : Option (((List YSess) × Int × Int × Int × (List YSess) × Int × (List YSess) × Unit) ⊕ ((Int × (List YSess) × Int × (List YSess) × Unit))) :=
  Tree.val (α := ((List YSess) × Int × Int × Int × (List YSess) × Int × (List YSess) × Unit) ⊕ ((Int × (List YSess) × Int × (List YSess) × Unit))) <|
  .br (decide (x1.2.2.1 < x1.2.1)) (
   .ob (idx x1.1 x1.2.2.1) fun e2 =>
   .ob (V_i_copySess e2) fun r3 =>
   .chk (decide (x1.2.2.2.2.2.2.1.length + [r3].length ≤ 4294967296)) <|
   .leaf (.inl (x1.1, x1.2.1, (IntKind.i64.wrap (x1.2.2.1 + (1 : Int))), x1.2.2.2.1, x1.2.2.2.2.1, x1.2.2.2.2.2.1, (x1.2.2.2.2.2.2.1 ++ [r3]), ()))) (
   .leaf (.inr (x1.2.2.2.1, x1.2.2.2.2.1, x1.2.2.2.2.2.1, x1.2.2.2.2.2.2.1, ())))
def T_i_copyTab (a0 : YTab) : Tree ((YTab)) :=
  .ob (iterO B_i_copyTab_3 (a0.2.1, (a0.2.1.length : Int), (0 : Int), (0 : Int), ([] : List YSess), a0.1, ([] : List YSess), ())) fun o4 =>
  .leaf (o4.2.2.1, o4.2.2.2.1, ())
def V_i_copyTab (a0 : YTab) : Option ((YTab)) := (T_i_copyTab a0).val
def T_i_copyCredits (a0 : (List YCredit) × Unit) : Tree (((List YCredit) × Unit)) :=
  .chk (decide (([] : List YCredit).length + a0.1.length ≤ 4294967296)) <|
  .leaf ((([] : List YCredit) ++ a0.1), ())
def V_i_copyCredits (a0 : (List YCredit) × Unit) : Option (((List YCredit) × Unit)) := (T_i_copyCredits a0).val
def T_i_copyServer (a0 : YServer) : Tree ((YServer)) :=
  .ob (V_i_cloneAll (a0.1, ())) fun r1 =>
  .ob (V_i_clone (a0.2.1, ())) fun r2 =>
  .ob (V_i_clone (a0.2.2.1, ())) fun r3 =>
  .ob (V_i_copyTab (a0.2.2.2.2.1, a0.2.2.2.2.2.1, ())) fun r4 =>
  .ob (V_i_copyCredits (a0.2.2.2.2.2.2.1, ())) fun r5 =>
  .leaf (r1.1, r2.1, r3.1, a0.2.2.2.1, r4.1, r4.2.1, r5.1, ())
def V_i_copyServer (a0 : YServer) : Option ((YServer)) := (T_i_copyServer a0).val
def T_i_within (a0 : YI) (a1 : YI) (a2 : YI) : Tree ((Bool × Unit)) :=
  .br (decide (a0.1 ≥ a1.1)) (
   .leaf ((decide (a0.1 ≤ a2.1)), ())) (
   .leaf (false, ()))
def V_i_within (a0 : YI) (a1 : YI) (a2 : YI) : Option ((Bool × Unit)) := (T_i_within a0 a1 a2).val
def T_i_JarOk (a0 : YBs) : Tree ((Bool × Unit)) :=
  .leaf (((a0.1.length : Int) == (32 : Int)), ())
def V_i_JarOk (a0 : YBs) : Option ((Bool × Unit)) := (T_i_JarOk a0).val
def T_i_DiceOk (a0 : YDice) : Tree ((Bool × Unit)) :=
  .ob (V_i_within ((a0.1.length : Int), ()) ((1 : Int), ()) ((32 : Int), ())) fun r1 =>
  .br r1.1 (
   .ob (V_i_within (a0.2.1, ()) ((0 : Int), ()) ((10000 : Int), ())) fun r2 =>
   .leaf r2) (
   .leaf (false, ()))
def V_i_DiceOk (a0 : YDice) : Option ((Bool × Unit)) := (T_i_DiceOk a0).val
def B_i_Live_3 (x1 : Int × (List YSess) × Int × Int × Unit) : Option ((Int × (List YSess) × Int × Int × Unit) ⊕ ((YI))) :=
  Tree.val (α := (Int × (List YSess) × Int × Int × Unit) ⊕ ((YI))) <|
  .br (decide (x1.2.2.2.1 < x1.2.2.1)) (
   .ob (idx x1.2.1 x1.2.2.2.1) fun e2 =>
   .br (!e2.2.2.2.2.2.2.2.2.2.2.2.2.2.2.2.2.2.2.2.2.2.2.2.1) (
    .leaf (.inl ((IntKind.i64.wrap (x1.1 + (1 : Int))), x1.2.1, x1.2.2.1, (IntKind.i64.wrap (x1.2.2.2.1 + (1 : Int))), ()))) (
    .leaf (.inl (x1.1, x1.2.1, x1.2.2.1, (IntKind.i64.wrap (x1.2.2.2.1 + (1 : Int))), ())))) (
   .leaf (.inr (x1.1, ())))
def T_i_Live (a0 : YTab) : Tree ((YI)) :=
  .ob (iterO B_i_Live_3 ((0 : Int), a0.2.1, (a0.2.1.length : Int), (0 : Int), ())) fun o3 =>
  .leaf o3
def V_i_Live (a0 : YTab) : Option ((YI)) := (T_i_Live a0).val
def T_i_isNonce (a0 : YBs) : Tree ((Bool × Unit)) :=
  .leaf (((a0.1.length : Int) == (12 : Int)), ())
def V_i_isNonce (a0 : YBs) : Option ((Bool × Unit)) := (T_i_isNonce a0).val
def T_bytes_Equal (a0 : YBs) (a1 : YBs) : Tree ((Bool × Unit)) :=
  .leaf ((decide ((bstr a0.1) = (bstr a1.1))), ())
def V_bytes_Equal (a0 : YBs) (a1 : YBs) : Option ((Bool × Unit)) := (T_bytes_Equal a0 a1).val
def B_i_sameInts_4 (x1 : (List YI) × (List YI) × Int × Int × Unit) : Option (((List YI) × (List YI) × Int × Int × Unit) ⊕ ((Bool × Unit) ⊕ (Unit))) :=
  Tree.val (α := ((List YI) × (List YI) × Int × Int × Unit) ⊕ ((Bool × Unit) ⊕ (Unit))) <|
  .br (decide (x1.2.2.2.1 < x1.2.2.1)) (
   .ob (idx x1.2.1 x1.2.2.2.1) fun e2 =>
   .ob (idx x1.1 x1.2.2.2.1) fun e3 =>
   .br (e2.1 != e3.1) (
    .leaf (.inr (.inl (false, ())))) (
    .leaf (.inl (x1.1, x1.2.1, x1.2.2.1, (IntKind.i64.wrap (x1.2.2.2.1 + (1 : Int))), ())))) (
   .leaf (.inr (.inr ())))
def T_i_sameInts (a0 : (List YI) × Unit) (a1 : (List YI) × Unit) : Tree ((Bool × Unit)) :=
  .br ((a0.1.length : Int) != (a1.1.length : Int)) (
   .leaf (false, ())) (
   .ob (iterO B_i_sameInts_4 (a1.1, a0.1, (a0.1.length : Int), (0 : Int), ())) fun o4 =>
   .sm o4 (fun o5 =>
    .leaf o5) (fun o6 =>
    .leaf (true, ())))
def V_i_sameInts (a0 : (List YI) × Unit) (a1 : (List YI) × Unit) : Option ((Bool × Unit)) := (T_i_sameInts a0 a1).val
def T_i_sameEp (a0 : YEp) (a1 : YEp) : Tree ((Bool × Unit)) :=
  .br (a0.1 == a1.1) (
   .ob (V_bytes_Equal (a0.2.1, ()) (a1.2.1, ())) fun r1 =>
   .br r1.1 (
    .br (a0.2.2.1 == a1.2.2.1) (
     .br (a0.2.2.2.1 == a1.2.2.2.1) (
      .ob (V_i_sameInts (a0.2.2.2.2.1, ()) (a1.2.2.2.2.1, ())) fun r2 =>
      .leaf r2) (
      .leaf (false, ()))) (
     .leaf (false, ()))) (
    .leaf (false, ()))) (
   .leaf (false, ()))
def V_i_sameEp (a0 : YEp) (a1 : YEp) : Option ((Bool × Unit)) := (T_i_sameEp a0 a1).val
def T_i_isZeroChan (a0 : YChan) : Tree ((Bool × Unit)) :=
  .br (a0.1 == (0 : Int)) (
   .br ((a0.2.1.length : Int) == (0 : Int)) (
    .ob (V_i_sameEp (a0.2.2.1, a0.2.2.2.1, a0.2.2.2.2.1, a0.2.2.2.2.2.1, a0.2.2.2.2.2.2.1, ()) ((0 : Int), ([] : List YB), (0 : Int), (0 : Int), ([] : List YI), ())) fun r1 =>
    .br r1.1 (
     .ob (V_i_sameEp (a0.2.2.2.2.2.2.2.1, a0.2.2.2.2.2.2.2.2.1, a0.2.2.2.2.2.2.2.2.2.1, a0.2.2.2.2.2.2.2.2.2.2.1, a0.2.2.2.2.2.2.2.2.2.2.2.1, ()) ((0 : Int), ([] : List YB), (0 : Int), (0 : Int), ([] : List YI), ())) fun r2 =>
     .br r2.1 (
      .br (!a0.2.2.2.2.2.2.2.2.2.2.2.2.1) (
       .br (a0.2.2.2.2.2.2.2.2.2.2.2.2.2.1 == (0 : Int)) (
        .leaf (((a0.2.2.2.2.2.2.2.2.2.2.2.2.2.2.1.length : Int) == (0 : Int)), ())) (
        .leaf (false, ()))) (
       .leaf (false, ()))) (
      .leaf (false, ()))) (
     .leaf (false, ()))) (
    .leaf (false, ()))) (
   .leaf (false, ()))
def V_i_isZeroChan (a0 : YChan) : Option ((Bool × Unit)) := (T_i_isZeroChan a0).val
def T_i_isRole (a0 : YI) : Tree ((Bool × Unit)) :=
  .br (a0.1 == (0 : Int)) (
   .leaf (true, ())) (
   .leaf ((a0.1 == (1 : Int)), ()))
def V_i_isRole (a0 : YI) : Option ((Bool × Unit)) := (T_i_isRole a0).val
def B_i_areWords_2 (x1 : (List YI) × Int × (List YI) × Int × Int × Unit) : Option (((List YI) × Int × (List YI) × Int × Int × Unit) ⊕ ((Bool × Unit) ⊕ ((List YI) × Int × Unit))) :=
  Tree.val (α := ((List YI) × Int × (List YI) × Int × Int × Unit) ⊕ ((Bool × Unit) ⊕ ((List YI) × Int × Unit))) <|
  .br (decide (x1.2.2.2.2.1 < x1.2.2.2.1)) (
   .ob (idx x1.2.2.1 x1.2.2.2.2.1) fun e2 =>
   .ob (V_i_within e2 ((0 : Int), ()) ((4294967295 : Int), ())) fun r3 =>
   .br (!r3.1) (
    .leaf (.inr (.inl (false, ())))) (
    .leaf (.inl (x1.1, x1.2.1, x1.2.2.1, x1.2.2.2.1, (IntKind.i64.wrap (x1.2.2.2.2.1 + (1 : Int))), ())))) (
   .leaf (.inr (.inr (x1.1, x1.2.1, ()))))
def T_i_areWords (a0 : (List YI) × Unit) (a1 : YI) : Tree ((Bool × Unit)) :=
  .ob (iterO B_i_areWords_2 (a0.1, a1.1, a0.1, (a0.1.length : Int), (0 : Int), ())) fun o4 =>
  .sm o4 (fun o5 =>
   .leaf o5) (fun o6 =>
   .leaf (((o6.1.length : Int) == o6.2.1), ()))
def V_i_areWords (a0 : (List YI) × Unit) (a1 : YI) : Option ((Bool × Unit)) := (T_i_areWords a0 a1).val
def T_i_hasBit (a0 : YWin) (a1 : YI) : Tree ((Bool × Unit)) :=
  .chk (decide ((0 : Int) ≤ a1.1)) <|
  .chk (decide ((0 : Int) ≤ (a1.1 % (1024 : Int)))) <|
  .ob (idx a0.2.1 ((a1.1 % (1024 : Int)) / (32 : Int))) fun e1 =>
  .chk (decide ((0 : Int) ≤ a1.1)) <|
  .chk (decide ((0 : Int) ≤ (a1.1 % (32 : Int)))) <|
  .leaf (((IntKind.i64.wrap ((BitVec.ofInt (IntKind.i64.bits) ((Int.fdiv e1.1 (2 ^ (min ((a1.1 % (32 : Int))).toNat IntKind.i64.bits)))) &&& BitVec.ofInt (IntKind.i64.bits) ((1 : Int))).toNat : Nat)) == (1 : Int)), ())
def V_i_hasBit (a0 : YWin) (a1 : YI) : Option ((Bool × Unit)) := (T_i_hasBit a0 a1).val
def B_i_WinOk_4 (x3 : Int × Int × (List YI) × Unit) : Option ((Int × Int × (List YI) × Unit) ⊕ ((Bool × Unit) ⊕ (YWin))) :=
  Tree.val (α := (Int × Int × (List YI) × Unit) ⊕ ((Bool × Unit) ⊕ (YWin))) <|
  .br (decide (x3.1 < (1024 : Int))) (
   .ob (V_i_hasBit (x3.2.1, x3.2.2.1, ()) (x3.1, ())) fun r4 =>
   .br r4.1 (
    .leaf (.inr (.inl (false, ())))) (
    .leaf (.inl ((IntKind.i64.wrap (x3.1 + (1 : Int))), x3.2.1, x3.2.2.1, ())))) (
   .leaf (.inr (.inr (x3.2.1, x3.2.2.1, ()))))
def T_i_WinOk (a0 : YWin) : Tree ((Bool × Unit)) :=
  .ob (V_i_within (a0.1, ()) ((-1 : Int), ()) ((281474976710655 : Int), ())) fun r1 =>
  .br (!r1.1) (
   .leaf (false, ())) (
   .ob (V_i_areWords (a0.2.1, ()) ((32 : Int), ())) fun r2 =>
   .br (!r2.1) (
    .leaf (false, ())) (
    .ob (iterO B_i_WinOk_4 ((IntKind.i64.wrap (a0.1 + (1 : Int))), a0.1, a0.2.1, ())) fun o5 =>
    .sm o5 (fun o6 =>
     .leaf o6) (fun o7 =>
     .br (o7.1 == (-1 : Int)) (
      .leaf (true, ())) (
      .ob (V_i_hasBit o7 (o7.1, ())) fun r8 =>
      .leaf r8))))
def V_i_WinOk (a0 : YWin) : Option ((Bool × Unit)) := (T_i_WinOk a0).val
def T_i_EpOk (a0 : YEp) : Tree ((Bool × Unit)) :=
  .ob (V_i_within (a0.1, ()) ((0 : Int), ()) ((4294967295 : Int), ())) fun r1 =>
  .br r1.1 (
   .br ((a0.2.1.length : Int) == (32 : Int)) (
    .ob (V_i_within (a0.2.2.1, ()) ((0 : Int), ()) ((281474976710656 : Int), ())) fun r2 =>
    .br r2.1 (
     .ob (V_i_WinOk (a0.2.2.2.1, a0.2.2.2.2.1, ())) fun r3 =>
     .leaf r3) (
     .leaf (false, ()))) (
    .leaf (false, ()))) (
   .leaf (false, ()))
def V_i_EpOk (a0 : YEp) : Option ((Bool × Unit)) := (T_i_EpOk a0).val
def T_i_oldOk (a0 : YChan) : Tree ((Bool × Unit)) :=
  .br (!a0.2.2.2.2.2.2.2.2.2.2.2.2.1) (
   .ob (V_i_sameEp (a0.2.2.2.2.2.2.2.1, a0.2.2.2.2.2.2.2.2.1, a0.2.2.2.2.2.2.2.2.2.1, a0.2.2.2.2.2.2.2.2.2.2.1, a0.2.2.2.2.2.2.2.2.2.2.2.1, ()) ((0 : Int), ([] : List YB), (0 : Int), (0 : Int), ([] : List YI), ())) fun r1 =>
   .br r1.1 (
    .leaf ((a0.2.2.2.2.2.2.2.2.2.2.2.2.2.1 == (0 : Int)), ())) (
    .leaf (false, ()))) (
   .ob (V_i_EpOk (a0.2.2.2.2.2.2.2.1, a0.2.2.2.2.2.2.2.2.1, a0.2.2.2.2.2.2.2.2.2.1, a0.2.2.2.2.2.2.2.2.2.2.1, a0.2.2.2.2.2.2.2.2.2.2.2.1, ())) fun r2 =>
   .br (!r2.1) (
    .leaf (false, ())) (
    .br (a0.2.2.2.2.2.2.2.1 != (IntKind.i64.wrap (a0.2.2.1 - (1 : Int)))) (
     .leaf (false, ())) (
     .ob (V_i_within (a0.2.2.2.2.2.2.2.2.2.2.2.2.2.1, ()) ((0 : Int), ()) ((1000005 : Int), ())) fun r3 =>
     .br r3.1 (
      .leaf (true, ())) (
      .br (a0.2.2.2.2.2.2.2.2.2.2.2.2.2.1 == (-1 : Int)) (
       .leaf ((a0.1 == (1 : Int)), ())) (
       .leaf (false, ()))))))
def V_i_oldOk (a0 : YChan) : Option ((Bool × Unit)) := (T_i_oldOk a0).val
def T_i_ChanOk (a0 : YChan) : Tree ((Bool × Unit)) :=
  .ob (V_i_isRole (a0.1, ())) fun r1 =>
  .br (!r1.1) (
   .leaf (false, ())) (
   .ob (V_i_isNonce (a0.2.1, ())) fun r2 =>
   .br (!r2.1) (
    .leaf (false, ())) (
    .ob (V_i_EpOk (a0.2.2.1, a0.2.2.2.1, a0.2.2.2.2.1, a0.2.2.2.2.2.1, a0.2.2.2.2.2.2.1, ())) fun r3 =>
    .br (!r3.1) (
     .leaf (false, ())) (
     .ob (V_i_oldOk a0) fun r4 =>
     .br (!r4.1) (
      .leaf (false, ())) (
      .br ((a0.2.2.2.2.2.2.2.2.2.2.2.2.2.2.1.length : Int) == (0 : Int)) (
       .leaf (true, ())) (
       .br (a0.1 == (0 : Int)) (
        .br ((a0.2.2.2.2.2.2.2.2.2.2.2.2.2.2.1.length : Int) == (32 : Int)) (
         .leaf ((decide (a0.2.2.1 < (4294967295 : Int))), ())) (
         .leaf (false, ()))) (
        .leaf (false, ())))))))
def V_i_ChanOk (a0 : YChan) : Option ((Bool × Unit)) := (T_i_ChanOk a0).val
def T_i_AddrOk (a0 : YAddr) : Tree ((Bool × Unit)) :=
  .ob (V_i_within (a0.1, ()) ((0 : Int), ()) ((4294967295 : Int), ())) fun r1 =>
  .br r1.1 (
   .ob (V_i_within (a0.2.1, ()) ((0 : Int), ()) ((65535 : Int), ())) fun r2 =>
   .leaf r2) (
   .leaf (false, ()))
def V_i_AddrOk (a0 : YAddr) : Option ((Bool × Unit)) := (T_i_AddrOk a0).val
def B_i_PathsOk_9 (x7 : (List YCand) × Int × Int × (List YCand) × Int × Int × Int × Int × (List YCand) × Int × Int × (List YB) × Int × Unit) : Option (((List YCand) × Int × Int × (List YCand) × Int × Int × Int × Int × (List YCand) × Int × Int × (List YB) × Int × Unit) ⊕ ((Bool × Unit) ⊕ ((List YCand) × Int × Int × Int × Int × (List YCand) × Unit))) :=
  Tree.val (α := ((List YCand) × Int × Int × (List YCand) × Int × Int × Int × Int × (List YCand) × Int × Int × (List YB) × Int × Unit) ⊕ ((Bool × Unit) ⊕ ((List YCand) × Int × Int × Int × Int × (List YCand) × Unit))) <|
  .br (decide (x7.2.2.2.2.2.1 < x7.2.2.2.2.1)) (
   .ob (idx x7.2.2.2.1 x7.2.2.2.2.2.1) fun e8 =>
   .br (and (e8.1 == x7.2.2.2.2.2.2.2.2.2.1) (and (e8.2.1 == x7.2.2.2.2.2.2.2.2.2.2.1) true)) (
    .leaf (.inr (.inl (false, ())))) (
    .leaf (.inl (x7.1, x7.2.1, x7.2.2.1, x7.2.2.2.1, x7.2.2.2.2.1, (IntKind.i64.wrap (x7.2.2.2.2.2.1 + (1 : Int))), x7.2.2.2.2.2.2.1, x7.2.2.2.2.2.2.2.1, x7.2.2.2.2.2.2.2.2.1, x7.2.2.2.2.2.2.2.2.2.1, x7.2.2.2.2.2.2.2.2.2.2.1, x7.2.2.2.2.2.2.2.2.2.2.2.1, x7.2.2.2.2.2.2.2.2.2.2.2.2.1, ())))) (
   .leaf (.inr (.inr (x7.1, x7.2.1, x7.2.2.1, x7.2.2.2.2.2.2.1, x7.2.2.2.2.2.2.2.1, x7.2.2.2.2.2.2.2.2.1, ()))))
def B_i_PathsOk_4 (x2 : (List YCand) × Int × Int × Int × Int × (List YCand) × Unit) : Option (((List YCand) × Int × Int × Int × Int × (List YCand) × Unit) ⊕ ((Bool × Unit) ⊕ (Unit))) :=
  Tree.val (α := ((List YCand) × Int × Int × Int × Int × (List YCand) × Unit) ⊕ ((Bool × Unit) ⊕ (Unit))) <|
  .br (decide (x2.2.2.1 < x2.2.1)) (
   .ob (idx x2.1 x2.2.2.1) fun e3 =>
   .ob (V_i_AddrOk (e3.1, e3.2.1, ())) fun r4 =>
   .br (!r4.1) (
    .leaf (.inr (.inl (false, ())))) (
    .br (and (e3.1 == x2.2.2.2.1) (and (e3.2.1 == x2.2.2.2.2.1) true)) (
     .leaf (.inr (.inl (false, ())))) (
     .ob (V_i_isNonce (e3.2.2.1, ())) fun r5 =>
     .br (!r5.1) (
      .leaf (.inr (.inl (false, ())))) (
      .ob (V_i_within (e3.2.2.2.1, ()) ((0 : Int), ()) ((1000006 : Int), ())) fun r6 =>
      .br (!r6.1) (
       .leaf (.inr (.inl (false, ())))) (
       .chk (decide ((0 : Int) ≤ x2.2.2.1)) <|
       .chk (decide (x2.2.2.1 ≤ (x2.2.2.2.2.2.1.length : Int))) <|
       .ob (iterO B_i_PathsOk_9 (x2.1, x2.2.1, x2.2.2.1, ((x2.2.2.2.2.2.1.take (x2.2.2.1).toNat).drop ((0 : Int)).toNat), (((x2.2.2.2.2.2.1.take (x2.2.2.1).toNat).drop ((0 : Int)).toNat).length : Int), (0 : Int), x2.2.2.2.1, x2.2.2.2.2.1, x2.2.2.2.2.2.1, e3.1, e3.2.1, e3.2.2.1, e3.2.2.2.1, ())) fun o9 =>
       .sm o9 (fun o10 =>
        .leaf (.inr (.inl o10))) (fun o11 =>
        .leaf (.inl (o11.1, o11.2.1, (IntKind.i64.wrap (o11.2.2.1 + (1 : Int))), o11.2.2.2.1, o11.2.2.2.2.1, o11.2.2.2.2.2.1, ())))))))) (
   .leaf (.inr (.inr ())))
def T_i_PathsOk (a0 : YPaths) : Tree ((Bool × Unit)) :=
  .ob (V_i_AddrOk (a0.1, a0.2.1, ())) fun r1 =>
  .br (!r1.1) (
   .leaf (false, ())) (
   .br (decide ((a0.2.2.1.length : Int) > (3 : Int))) (
    .leaf (false, ())) (
    .ob (iterO B_i_PathsOk_4 (a0.2.2.1, (a0.2.2.1.length : Int), (0 : Int), a0.1, a0.2.1, a0.2.2.1, ())) fun o12 =>
    .sm o12 (fun o13 =>
     .leaf o13) (fun o14 =>
     .leaf (true, ()))))
def V_i_PathsOk (a0 : YPaths) : Option ((Bool × Unit)) := (T_i_PathsOk a0).val
def T_i_SessOk (a0 : YSess) : Tree ((Bool × Unit)) :=
  .ob (V_i_within (a0.1, ()) ((1 : Int), ()) ((9 : Int), ())) fun r1 =>
  .br (!r1.1) (
   .leaf (false, ())) (
   .ob (V_i_isNonce (a0.2.1, ())) fun r2 =>
   .br (!r2.1) (
    .leaf (false, ())) (
    .ob (V_i_isNonce (a0.2.2.1, ())) fun r3 =>
    .br (!r3.1) (
     .leaf (false, ())) (
     .ob (V_i_within (a0.2.2.2.2.2.2.2.2.2.2.2.2.2.2.2.2.2.2.2.2.2.1, ()) ((0 : Int), ()) ((1000000 : Int), ())) fun r4 =>
     .br (!r4.1) (
      .leaf (false, ())) (
      .br a0.2.2.2.2.2.2.2.2.2.2.2.2.2.2.2.2.2.2.2.2.2.2.2.1 (
       .ob (V_i_isZeroChan (a0.2.2.2.1, a0.2.2.2.2.1, a0.2.2.2.2.2.1, a0.2.2.2.2.2.2.1, a0.2.2.2.2.2.2.2.1, a0.2.2.2.2.2.2.2.2.1, a0.2.2.2.2.2.2.2.2.2.1, a0.2.2.2.2.2.2.2.2.2.2.1, a0.2.2.2.2.2.2.2.2.2.2.2.1, a0.2.2.2.2.2.2.2.2.2.2.2.2.1, a0.2.2.2.2.2.2.2.2.2.2.2.2.2.1, a0.2.2.2.2.2.2.2.2.2.2.2.2.2.2.1, a0.2.2.2.2.2.2.2.2.2.2.2.2.2.2.2.1, a0.2.2.2.2.2.2.2.2.2.2.2.2.2.2.2.2.1, a0.2.2.2.2.2.2.2.2.2.2.2.2.2.2.2.2.2.1, ())) fun r5 =>
       .br r5.1 (
        .br (and (a0.2.2.2.2.2.2.2.2.2.2.2.2.2.2.2.2.2.2.1 == (0 : Int)) (and (a0.2.2.2.2.2.2.2.2.2.2.2.2.2.2.2.2.2.2.2.1 == (0 : Int)) true)) (
         .br ((a0.2.2.2.2.2.2.2.2.2.2.2.2.2.2.2.2.2.2.2.2.1.length : Int) == (0 : Int)) (
          .leaf ((a0.2.2.2.2.2.2.2.2.2.2.2.2.2.2.2.2.2.2.2.2.2.2.1 == (0 : Int)), ())) (
          .leaf (false, ()))) (
         .leaf (false, ()))) (
        .leaf (false, ()))) (
       .ob (V_i_ChanOk (a0.2.2.2.1, a0.2.2.2.2.1, a0.2.2.2.2.2.1, a0.2.2.2.2.2.2.1, a0.2.2.2.2.2.2.2.1, a0.2.2.2.2.2.2.2.2.1, a0.2.2.2.2.2.2.2.2.2.1, a0.2.2.2.2.2.2.2.2.2.2.1, a0.2.2.2.2.2.2.2.2.2.2.2.1, a0.2.2.2.2.2.2.2.2.2.2.2.2.1, a0.2.2.2.2.2.2.2.2.2.2.2.2.2.1, a0.2.2.2.2.2.2.2.2.2.2.2.2.2.2.1, a0.2.2.2.2.2.2.2.2.2.2.2.2.2.2.2.1, a0.2.2.2.2.2.2.2.2.2.2.2.2.2.2.2.2.1, a0.2.2.2.2.2.2.2.2.2.2.2.2.2.2.2.2.2.1, ())) fun r6 =>
       .br r6.1 (
        .br (a0.2.2.2.1 == (1 : Int)) (
         .ob (V_bytes_Equal (a0.2.2.2.2.1, ()) (a0.2.2.1, ())) fun r7 =>
         .br r7.1 (
          .ob (V_i_PathsOk (a0.2.2.2.2.2.2.2.2.2.2.2.2.2.2.2.2.2.2.1, a0.2.2.2.2.2.2.2.2.2.2.2.2.2.2.2.2.2.2.2.1, a0.2.2.2.2.2.2.2.2.2.2.2.2.2.2.2.2.2.2.2.2.1, ())) fun r8 =>
          .br r8.1 (
           .ob (V_i_within (a0.2.2.2.2.2.2.2.2.2.2.2.2.2.2.2.2.2.2.2.2.2.2.1, ()) ((0 : Int), ()) ((1000000 : Int), ())) fun r9 =>
           .leaf r9) (
           .leaf (false, ()))) (
          .leaf (false, ()))) (
         .leaf (false, ()))) (
        .leaf (false, ())))))))
def V_i_SessOk (a0 : YSess) : Option ((Bool × Unit)) := (T_i_SessOk a0).val
def B_i_FindSn_2 (x1 : (List YB) × (List YSess) × Int × Int × Unit) : Option (((List YB) × (List YSess) × Int × Int × Unit) ⊕ ((YI) ⊕ (Unit))) :=
  Tree.val (α := ((List YB) × (List YSess) × Int × Int × Unit) ⊕ ((YI) ⊕ (Unit))) <|
  .br (decide (x1.2.2.2.1 < x1.2.2.1)) (
   .ob (idx x1.2.1 x1.2.2.2.1) fun e2 =>
   .ob (V_bytes_Equal (e2.2.2.1, ()) (x1.1, ())) fun r3 =>
   .br r3.1 (
    .leaf (.inr (.inl (x1.2.2.2.1, ())))) (
    .leaf (.inl (x1.1, x1.2.1, x1.2.2.1, (IntKind.i64.wrap (x1.2.2.2.1 + (1 : Int))), ())))) (
   .leaf (.inr (.inr ())))
def T_i_FindSn (a0 : YTab) (a1 : YBs) : Tree ((YI)) :=
  .ob (iterO B_i_FindSn_2 (a1.1, a0.2.1, (a0.2.1.length : Int), (0 : Int), ())) fun o4 =>
  .sm o4 (fun o5 =>
   .leaf o5) (fun o6 =>
   .leaf ((-1 : Int), ()))
def V_i_FindSn (a0 : YTab) (a1 : YBs) : Option ((YI)) := (T_i_FindSn a0 a1).val
def B_i_TabOk_4 (x3 : (List YSess) × Int × Int × Int × (List YSess) × Unit) : Option (((List YSess) × Int × Int × Int × (List YSess) × Unit) ⊕ ((Bool × Unit) ⊕ (Unit))) :=
  Tree.val (α := ((List YSess) × Int × Int × Int × (List YSess) × Unit) ⊕ ((Bool × Unit) ⊕ (Unit))) <|
  .br (decide (x3.2.2.1 < x3.2.1)) (
   .ob (idx x3.1 x3.2.2.1) fun e4 =>
   .ob (V_i_SessOk e4) fun r5 =>
   .br (!r5.1) (
    .leaf (.inr (.inl (false, ())))) (
    .ob (V_i_FindSn (x3.2.2.2.1, x3.2.2.2.2.1, ()) (e4.2.2.1, ())) fun r6 =>
    .br (decide (r6.1 < x3.2.2.1)) (
     .leaf (.inr (.inl (false, ())))) (
     .leaf (.inl (x3.1, x3.2.1, (IntKind.i64.wrap (x3.2.2.1 + (1 : Int))), x3.2.2.2.1, x3.2.2.2.2.1, ()))))) (
   .leaf (.inr (.inr ())))
def T_i_TabOk (a0 : YTab) : Tree ((Bool × Unit)) :=
  .ob (V_i_within (a0.1, ()) ((1 : Int), ()) ((6 : Int), ())) fun r1 =>
  .br (!r1.1) (
   .leaf (false, ())) (
   .br (decide ((a0.2.1.length : Int) > (12 : Int))) (
    .leaf (false, ())) (
    .ob (V_i_Live a0) fun r2 =>
    .br (decide (r2.1 > a0.1)) (
     .leaf (false, ())) (
     .ob (iterO B_i_TabOk_4 (a0.2.1, (a0.2.1.length : Int), (0 : Int), a0.1, a0.2.1, ())) fun o7 =>
     .sm o7 (fun o8 =>
      .leaf o8) (fun o9 =>
      .leaf (true, ())))))
def V_i_TabOk (a0 : YTab) : Option ((Bool × Unit)) := (T_i_TabOk a0).val
def B_i_creditAt_2 (x1 : (List YCredit) × Int × Int × Int × Int × Unit) : Option (((List YCredit) × Int × Int × Int × Int × Unit) ⊕ ((YI) ⊕ (Unit))) :=
  Tree.val (α := ((List YCredit) × Int × Int × Int × Int × Unit) ⊕ ((YI) ⊕ (Unit))) <|
  .br (decide (x1.2.2.1 < x1.2.1)) (
   .ob (idx x1.1 x1.2.2.1) fun e2 =>
   .br (and (e2.1 == x1.2.2.2.1) (and (e2.2.1 == x1.2.2.2.2.1) true)) (
    .leaf (.inr (.inl (x1.2.2.1, ())))) (
    .leaf (.inl (x1.1, x1.2.1, (IntKind.i64.wrap (x1.2.2.1 + (1 : Int))), x1.2.2.2.1, x1.2.2.2.2.1, ())))) (
   .leaf (.inr (.inr ())))
def T_i_creditAt (a0 : (List YCredit) × Unit) (a1 : YAddr) : Tree ((YI)) :=
  .ob (iterO B_i_creditAt_2 (a0.1, (a0.1.length : Int), (0 : Int), a1.1, a1.2.1, ())) fun o3 =>
  .sm o3 (fun o4 =>
   .leaf o4) (fun o5 =>
   .leaf ((-1 : Int), ()))
def V_i_creditAt (a0 : (List YCredit) × Unit) (a1 : YAddr) : Option ((YI)) := (T_i_creditAt a0 a1).val
def B_i_CreditsOk_4 (x1 : (List YCredit) × (List YCredit) × Int × Int × Unit) : Option (((List YCredit) × (List YCredit) × Int × Int × Unit) ⊕ ((Bool × Unit) ⊕ (Unit))) :=
  Tree.val (α := ((List YCredit) × (List YCredit) × Int × Int × Unit) ⊕ ((Bool × Unit) ⊕ (Unit))) <|
  .br (decide (x1.2.2.2.1 < x1.2.2.1)) (
   .ob (idx x1.2.1 x1.2.2.2.1) fun e2 =>
   .ob (V_i_AddrOk (e2.1, e2.2.1, ())) fun r3 =>
   .br (!r3.1) (
    .leaf (.inr (.inl (false, ())))) (
    .ob (V_i_within (e2.2.2.1, ()) ((0 : Int), ()) ((1000000 : Int), ())) fun r4 =>
    .br (!r4.1) (
     .leaf (.inr (.inl (false, ())))) (
     .ob (V_i_within (e2.2.2.2.1, ()) ((0 : Int), ()) ((IntKind.i64.wrap ((3 : Int) * e2.2.2.1)), ())) fun r5 =>
     .br (!r5.1) (
      .leaf (.inr (.inl (false, ())))) (
      .ob (V_i_creditAt (x1.1, ()) (e2.1, e2.2.1, ())) fun r6 =>
      .br (decide (r6.1 < x1.2.2.2.1)) (
       .leaf (.inr (.inl (false, ())))) (
       .leaf (.inl (x1.1, x1.2.1, x1.2.2.1, (IntKind.i64.wrap (x1.2.2.2.1 + (1 : Int))), ()))))))) (
   .leaf (.inr (.inr ())))
def T_i_CreditsOk (a0 : (List YCredit) × Unit) : Tree ((Bool × Unit)) :=
  .br (decide ((a0.1.length : Int) > (8 : Int))) (
   .leaf (false, ())) (
   .ob (iterO B_i_CreditsOk_4 (a0.1, a0.1, (a0.1.length : Int), (0 : Int), ())) fun o7 =>
   .sm o7 (fun o8 =>
    .leaf o8) (fun o9 =>
    .leaf (true, ())))
def V_i_CreditsOk (a0 : (List YCredit) × Unit) : Option ((Bool × Unit)) := (T_i_CreditsOk a0).val
def T_i_PskOk (a0 : YBs) : Tree ((Bool × Unit)) :=
  .ob (V_i_within ((a0.1.length : Int), ()) ((1 : Int), ()) ((32 : Int), ())) fun r1 =>
  .leaf r1
def V_i_PskOk (a0 : YBs) : Option ((Bool × Unit)) := (T_i_PskOk a0).val
def B_i_ServerOk_4 (x6 : (List YBs) × Int × Int × (List YBs) × (List YB) × (List YB) × Int × Int × (List YSess) × (List YCredit) × Unit) : Option (((List YBs) × Int × Int × (List YBs) × (List YB) × (List YB) × Int × Int × (List YSess) × (List YCredit) × Unit) ⊕ ((Bool × Unit) ⊕ (YServer))) :=
  Tree.val (α := ((List YBs) × Int × Int × (List YBs) × (List YB) × (List YB) × Int × Int × (List YSess) × (List YCredit) × Unit) ⊕ ((Bool × Unit) ⊕ (YServer))) <|
  .br (decide (x6.2.2.1 < x6.2.1)) (
   .ob (idx x6.1 x6.2.2.1) fun e7 =>
   .ob (V_i_PskOk e7) fun r8 =>
   .br (!r8.1) (
    .leaf (.inr (.inl (false, ())))) (
    .leaf (.inl (x6.1, x6.2.1, (IntKind.i64.wrap (x6.2.2.1 + (1 : Int))), x6.2.2.2.1, x6.2.2.2.2.1, x6.2.2.2.2.2.1, x6.2.2.2.2.2.2.1, x6.2.2.2.2.2.2.2.1, x6.2.2.2.2.2.2.2.2.1, x6.2.2.2.2.2.2.2.2.2.1, ())))) (
   .leaf (.inr (.inr (x6.2.2.2.1, x6.2.2.2.2.1, x6.2.2.2.2.2.1, x6.2.2.2.2.2.2.1, x6.2.2.2.2.2.2.2.1, x6.2.2.2.2.2.2.2.2.1, x6.2.2.2.2.2.2.2.2.2.1, ()))))
def B_i_ServerOk_10 (x12 : (List YSess) × Int × Int × (List YBs) × (List YB) × (List YB) × Int × Int × (List YSess) × (List YCredit) × Unit) : Option (((List YSess) × Int × Int × (List YBs) × (List YB) × (List YB) × Int × Int × (List YSess) × (List YCredit) × Unit) ⊕ ((Bool × Unit) ⊕ (Unit))) :=
  Tree.val (α := ((List YSess) × Int × Int × (List YBs) × (List YB) × (List YB) × Int × Int × (List YSess) × (List YCredit) × Unit) ⊕ ((Bool × Unit) ⊕ (Unit))) <|
  .br (decide (x12.2.2.1 < x12.2.1)) (
   .ob (idx x12.1 x12.2.2.1) fun e13 =>
   .br (decide (e13.1 > (x12.2.2.2.1.length : Int))) (
    .leaf (.inr (.inl (false, ())))) (
    .leaf (.inl (x12.1, x12.2.1, (IntKind.i64.wrap (x12.2.2.1 + (1 : Int))), x12.2.2.2.1, x12.2.2.2.2.1, x12.2.2.2.2.2.1, x12.2.2.2.2.2.2.1, x12.2.2.2.2.2.2.2.1, x12.2.2.2.2.2.2.2.2.1, x12.2.2.2.2.2.2.2.2.2.1, ())))) (
   .leaf (.inr (.inr ())))
def T_i_ServerOk (a0 : YServer) : Tree ((Bool × Unit)) :=
  .ob (V_i_within ((a0.1.length : Int), ()) ((1 : Int), ()) ((9 : Int), ())) fun r1 =>
  .br (!r1.1) (
   .leaf (false, ())) (
   .ob (V_i_JarOk (a0.2.1, ())) fun r2 =>
   .br (!r2.1) (
    .leaf (false, ())) (
    .ob (V_i_DiceOk (a0.2.2.1, a0.2.2.2.1, ())) fun r3 =>
    .br (!r3.1) (
     .leaf (false, ())) (
     .ob (V_i_TabOk (a0.2.2.2.2.1, a0.2.2.2.2.2.1, ())) fun r4 =>
     .br (!r4.1) (
      .leaf (false, ())) (
      .ob (V_i_CreditsOk (a0.2.2.2.2.2.2.1, ())) fun r5 =>
      .br (!r5.1) (
       .leaf (false, ())) (
       .ob (iterO B_i_ServerOk_4 (a0.1, (a0.1.length : Int), (0 : Int), a0.1, a0.2.1, a0.2.2.1, a0.2.2.2.1, a0.2.2.2.2.1, a0.2.2.2.2.2.1, a0.2.2.2.2.2.2.1, ())) fun o9 =>
       .sm o9 (fun o10 =>
        .leaf o10) (fun o11 =>
        .ob (iterO B_i_ServerOk_10 (o11.2.2.2.2.2.1, (o11.2.2.2.2.2.1.length : Int), (0 : Int), o11.1, o11.2.1, o11.2.2.1, o11.2.2.2.1, o11.2.2.2.2.1, o11.2.2.2.2.2.1, o11.2.2.2.2.2.2.1, ())) fun o14 =>
        .sm o14 (fun o15 =>
         .leaf o15) (fun o16 =>
         .leaf (true, ()))))))))
def V_i_ServerOk (a0 : YServer) : Option ((Bool × Unit)) := (T_i_ServerOk a0).val
def T_i_Sealed (a0 : YI) : Tree ((Bool × Unit)) :=
  .ob (V_i_within a0 ((4 : Int), ()) ((8 : Int), ())) fun r1 =>
  .leaf r1
def V_i_Sealed (a0 : YI) : Option ((Bool × Unit)) := (T_i_Sealed a0).val
def T_i_bodyOk (a0 : YI) (a1 : YI) : Tree ((Bool × Unit)) :=
  .br (a0.1 == (4 : Int)) (
   .leaf ((decide (a1.1 ≤ (40 : Int))), ())) (
   .br (a0.1 == (5 : Int)) (
    .leaf ((a1.1 == (12 : Int)), ())) (
    .br (a0.1 == (6 : Int)) (
     .leaf ((a1.1 == (12 : Int)), ())) (
     .leaf ((a1.1 == (4 : Int)), ()))))
def V_i_bodyOk (a0 : YI) (a1 : YI) : Option ((Bool × Unit)) := (T_i_bodyOk a0 a1).val
def T_i_sameFrame (a0 : YFrame) (a1 : YFrame) : Tree ((Bool × Unit)) :=
  .br (a0.1 == a1.1) (
   .br (a0.2.1 == a1.2.1) (
    .br (a0.2.2.2.2.1 == a1.2.2.2.2.1) (
     .br (a0.2.2.2.2.2.2.2.1 == a1.2.2.2.2.2.2.2.1) (
      .br (a0.2.2.2.2.2.2.2.2.1 == a1.2.2.2.2.2.2.2.2.1) (
       .ob (V_bytes_Equal (a0.2.2.1, ()) (a1.2.2.1, ())) fun r1 =>
       .br r1.1 (
        .ob (V_bytes_Equal (a0.2.2.2.1, ()) (a1.2.2.2.1, ())) fun r2 =>
        .br r2.1 (
         .ob (V_bytes_Equal (a0.2.2.2.2.2.1, ()) (a1.2.2.2.2.2.1, ())) fun r3 =>
         .br r3.1 (
          .ob (V_bytes_Equal (a0.2.2.2.2.2.2.1, ()) (a1.2.2.2.2.2.2.1, ())) fun r4 =>
          .br r4.1 (
           .ob (V_bytes_Equal (a0.2.2.2.2.2.2.2.2.2.1, ()) (a1.2.2.2.2.2.2.2.2.2.1, ())) fun r5 =>
           .br r5.1 (
            .ob (V_bytes_Equal (a0.2.2.2.2.2.2.2.2.2.2.1, ()) (a1.2.2.2.2.2.2.2.2.2.2.1, ())) fun r6 =>
            .leaf r6) (
            .leaf (false, ()))) (
           .leaf (false, ()))) (
          .leaf (false, ()))) (
         .leaf (false, ()))) (
        .leaf (false, ()))) (
       .leaf (false, ()))) (
      .leaf (false, ()))) (
     .leaf (false, ()))) (
    .leaf (false, ()))) (
   .leaf (false, ()))
def V_i_sameFrame (a0 : YFrame) (a1 : YFrame) : Option ((Bool × Unit)) := (T_i_sameFrame a0 a1).val
def T_i_FrameOk (a0 : YFrame) : Tree ((Bool × Unit)) :=
  .br (a0.1 == (1 : Int)) (
   .ob (V_i_within (a0.2.1, ()) ((1 : Int), ()) ((9 : Int), ())) fun r1 =>
   .br r1.1 (
    .ob (V_i_isNonce (a0.2.2.1, ())) fun r2 =>
    .br r2.1 (
     .ob (V_i_sameFrame a0 (a0.1, a0.2.1, a0.2.2.1, ([] : List YB), (0 : Int), ([] : List YB), ([] : List YB), (0 : Int), (0 : Int), ([] : List YB), ([] : List YB), ())) fun r3 =>
     .leaf r3) (
     .leaf (false, ()))) (
    .leaf (false, ()))) (
   .br (a0.1 == (2 : Int)) (
    .ob (V_i_isNonce (a0.2.2.1, ())) fun r4 =>
    .br r4.1 (
     .ob (V_i_isNonce (a0.2.2.2.1, ())) fun r5 =>
     .br r5.1 (
      .ob (V_i_within (a0.2.2.2.2.1, ()) ((0 : Int), ()) ((1000000 : Int), ())) fun r6 =>
      .br r6.1 (
       .br ((a0.2.2.2.2.2.1.length : Int) == (16 : Int)) (
        .ob (V_i_sameFrame a0 (a0.1, (0 : Int), a0.2.2.1, a0.2.2.2.1, a0.2.2.2.2.1, a0.2.2.2.2.2.1, ([] : List YB), (0 : Int), (0 : Int), ([] : List YB), ([] : List YB), ())) fun r7 =>
        .leaf r7) (
        .leaf (false, ()))) (
       .leaf (false, ()))) (
      .leaf (false, ()))) (
     .leaf (false, ()))) (
    .br (a0.1 == (3 : Int)) (
     .ob (V_i_within (a0.2.1, ()) ((1 : Int), ()) ((9 : Int), ())) fun r8 =>
     .br r8.1 (
      .ob (V_i_isNonce (a0.2.2.1, ())) fun r9 =>
      .br r9.1 (
       .ob (V_i_isNonce (a0.2.2.2.1, ())) fun r10 =>
       .br r10.1 (
        .ob (V_i_within (a0.2.2.2.2.1, ()) ((0 : Int), ()) ((1000000 : Int), ())) fun r11 =>
        .br r11.1 (
         .br ((a0.2.2.2.2.2.1.length : Int) == (16 : Int)) (
          .br ((a0.2.2.2.2.2.2.1.length : Int) == (16 : Int)) (
           .ob (V_i_sameFrame a0 (a0.1, a0.2.1, a0.2.2.1, a0.2.2.2.1, a0.2.2.2.2.1, a0.2.2.2.2.2.1, a0.2.2.2.2.2.2.1, (0 : Int), (0 : Int), ([] : List YB), ([] : List YB), ())) fun r12 =>
           .leaf r12) (
           .leaf (false, ()))) (
          .leaf (false, ()))) (
         .leaf (false, ()))) (
        .leaf (false, ()))) (
       .leaf (false, ()))) (
      .leaf (false, ()))) (
     .ob (V_i_Sealed (a0.1, ())) fun r13 =>
     .br r13.1 (
      .ob (V_i_isNonce (a0.2.2.2.1, ())) fun r14 =>
      .br r14.1 (
       .ob (V_i_within (a0.2.2.2.2.2.2.2.1, ()) ((0 : Int), ()) ((4294967295 : Int), ())) fun r15 =>
       .br r15.1 (
        .ob (V_i_within (a0.2.2.2.2.2.2.2.2.1, ()) ((0 : Int), ()) ((281474976710655 : Int), ())) fun r16 =>
        .br r16.1 (
         .br ((a0.2.2.2.2.2.2.2.2.2.2.1.length : Int) == (16 : Int)) (
          .ob (V_i_bodyOk (a0.1, ()) ((a0.2.2.2.2.2.2.2.2.2.1.length : Int), ())) fun r17 =>
          .br r17.1 (
           .ob (V_i_sameFrame a0 (a0.1, (0 : Int), ([] : List YB), a0.2.2.2.1, (0 : Int), ([] : List YB), ([] : List YB), a0.2.2.2.2.2.2.2.1, a0.2.2.2.2.2.2.2.2.1, a0.2.2.2.2.2.2.2.2.2.1, a0.2.2.2.2.2.2.2.2.2.2.1, ())) fun r18 =>
           .leaf r18) (
           .leaf (false, ()))) (
          .leaf (false, ()))) (
         .leaf (false, ()))) (
        .leaf (false, ()))) (
       .leaf (false, ()))) (
      .leaf (false, ())))))
def V_i_FrameOk (a0 : YFrame) : Option ((Bool × Unit)) := (T_i_FrameOk a0).val
def B_i_PutN_5 (x1 : Int × (List YB) × Int × Unit) : Option ((Int × (List YB) × Int × Unit) ⊕ ((YBs))) :=
  Tree.val (α := (Int × (List YB) × Int × Unit) ⊕ ((YBs))) <|
  .br (decide (x1.2.2.1 ≥ (0 : Int))) (
   .chk (decide ((0 : Int) ≤ (IntKind.i64.wrap ((8 : Int) * x1.2.2.1)))) <|
   .chk (decide (x1.2.1.length + [((IntKind.u8.wrap ((IntKind.i64.wrap ((BitVec.ofInt (IntKind.i64.bits) ((Int.fdiv x1.1 (2 ^ (min ((IntKind.i64.wrap ((8 : Int) * x1.2.2.1))).toNat IntKind.i64.bits)))) &&& BitVec.ofInt (IntKind.i64.bits) ((255 : Int))).toNat : Nat)))), ())].length ≤ 4294967296)) <|
   .leaf (.inl (x1.1, (x1.2.1 ++ [((IntKind.u8.wrap ((IntKind.i64.wrap ((BitVec.ofInt (IntKind.i64.bits) ((Int.fdiv x1.1 (2 ^ (min ((IntKind.i64.wrap ((8 : Int) * x1.2.2.1))).toNat IntKind.i64.bits)))) &&& BitVec.ofInt (IntKind.i64.bits) ((255 : Int))).toNat : Nat)))), ())]), (IntKind.i64.wrap (x1.2.2.1 - (1 : Int))), ()))) (
   .leaf (.inr (x1.2.1, ())))
def T_i_PutN (a0 : YBs) (a1 : YI) (a2 : YI) : Tree ((YBs)) :=
  .chk (decide (([] : List YB).length + a0.1.length ≤ 4294967296)) <|
  .br (decide (a2.1 < (1 : Int))) (
   .leaf ((([] : List YB) ++ a0.1), ())) (
   .br (decide (a2.1 > (6 : Int))) (
    .leaf ((([] : List YB) ++ a0.1), ())) (
    .ob (iterO B_i_PutN_5 (a1.1, (([] : List YB) ++ a0.1), (IntKind.i64.wrap (a2.1 - (1 : Int))), ())) fun o2 =>
    .leaf o2))
def V_i_PutN (a0 : YBs) (a1 : YI) (a2 : YI) : Option ((YBs)) := (T_i_PutN a0 a1 a2).val
def B_i_joined_3 (x1 : (List YB) × (List YBs) × Int × Int × Unit) : Option (((List YB) × (List YBs) × Int × Int × Unit) ⊕ ((YBs))) :=
  Tree.val (α := ((List YB) × (List YBs) × Int × Int × Unit) ⊕ ((YBs))) <|
  .br (decide (x1.2.2.2.1 < x1.2.2.1)) (
   .ob (idx x1.2.1 x1.2.2.2.1) fun e2 =>
   .chk (decide (x1.1.length + e2.1.length ≤ 4294967296)) <|
   .leaf (.inl ((x1.1 ++ e2.1), x1.2.1, x1.2.2.1, (IntKind.i64.wrap (x1.2.2.2.1 + (1 : Int))), ()))) (
   .leaf (.inr (x1.1, ())))
def T_i_joined (a0 : (List YBs) × Unit) : Tree ((YBs)) :=
  .ob (iterO B_i_joined_3 (([] : List YB), a0.1, (a0.1.length : Int), (0 : Int), ())) fun o3 =>
  .leaf o3
def V_i_joined (a0 : (List YBs) × Unit) : Option ((YBs)) := (T_i_joined a0).val
def T_i_HeadOf (a0 : YI) (a1 : YBs) (a2 : YI) (a3 : YI) : Tree ((YBs)) :=
  .ob (V_i_isRole a0) fun r1 =>
  .br (!r1.1) (
   .leaf (([] : List YB), ())) (
   .ob (V_i_isNonce a1) fun r2 =>
   .br (!r2.1) (
    .leaf (([] : List YB), ())) (
    .ob (V_i_within a2 ((0 : Int), ()) ((4294967295 : Int), ())) fun r3 =>
    .br (!r3.1) (
     .leaf (([] : List YB), ())) (
     .ob (V_i_within a3 ((0 : Int), ()) ((281474976710655 : Int), ())) fun r4 =>
     .br (!r4.1) (
      .leaf (([] : List YB), ())) (
      .ob (V_i_PutN (([] : List YB), ()) a2 ((4 : Int), ())) fun r5 =>
      .ob (V_i_PutN (([] : List YB), ()) a3 ((6 : Int), ())) fun r6 =>
      .ob (V_i_joined ([([((IntKind.u8.wrap (a0.1)), ())], ()), a1, r5, r6], ())) fun r7 =>
      .leaf r7))))
def V_i_HeadOf (a0 : YI) (a1 : YBs) (a2 : YI) (a3 : YI) : Option ((YBs)) := (T_i_HeadOf a0 a1 a2 a3).val
def T_i_Start  : Tree (((List YI) × Unit)) :=
  .leaf ([((1779033703 : Int), ()), ((3144134277 : Int), ()), ((1013904242 : Int), ()), ((2773480762 : Int), ()), ((1359893119 : Int), ()), ((2600822924 : Int), ()), ((528734635 : Int), ()), ((1541459225 : Int), ())], ())
def V_i_Start  : Option (((List YI) × Unit)) := (T_i_Start ).val
def T_i_HashNew  : Tree ((YHash)) :=
  .ob V_i_Start fun r1 =>
  .leaf (r1.1, ([] : List YB), (0 : Int), ())
def V_i_HashNew  : Option ((YHash)) := (T_i_HashNew ).val
def T_i_HashOk (a0 : YHash) : Tree ((Bool × Unit)) :=
  .ob (V_i_areWords (a0.1, ()) ((8 : Int), ())) fun r1 =>
  .br r1.1 (
   .ob (V_i_within (a0.2.2.1, ()) ((0 : Int), ()) ((1048576 : Int), ())) fun r2 =>
   .br r2.1 (
    .chk (decide ((0 : Int) ≤ a0.2.2.1)) <|
    .leaf (((a0.2.2.1 % (64 : Int)) == (a0.2.1.length : Int)), ())) (
    .leaf (false, ()))) (
   .leaf (false, ()))
def V_i_HashOk (a0 : YHash) : Option ((Bool × Unit)) := (T_i_HashOk a0).val
def T_i_Cut (a0 : YBs) (a1 : YI) (a2 : YI) : Tree ((YBs) × (Bool × Unit)) :=
  .br (decide (a1.1 < (0 : Int))) (
   .leaf ((([] : List YB), ()), (false, ()))) (
   .br (decide (a2.1 < (0 : Int))) (
    .leaf ((([] : List YB), ()), (false, ()))) (
    .br (decide (a1.1 > (a0.1.length : Int))) (
     .leaf ((([] : List YB), ()), (false, ()))) (
     .br (decide (a2.1 > (IntKind.i64.wrap ((a0.1.length : Int) - a1.1)))) (
      .leaf ((([] : List YB), ()), (false, ()))) (
      .chk (decide ((0 : Int) ≤ a1.1)) <|
      .chk (decide (a1.1 ≤ (IntKind.i64.wrap (a1.1 + a2.1)))) <|
      .chk (decide ((IntKind.i64.wrap (a1.1 + a2.1)) ≤ (a0.1.length : Int))) <|
      .chk (decide (([] : List YB).length + ((a0.1.take ((IntKind.i64.wrap (a1.1 + a2.1))).toNat).drop (a1.1).toNat).length ≤ 4294967296)) <|
      .leaf (((([] : List YB) ++ ((a0.1.take ((IntKind.i64.wrap (a1.1 + a2.1))).toNat).drop (a1.1).toNat)), ()), (true, ()))))))
def V_i_Cut (a0 : YBs) (a1 : YI) (a2 : YI) : Option ((YBs) × (Bool × Unit)) := (T_i_Cut a0 a1 a2).val
def B_i_GetN_8 (x2 : Int × Int × Int × (List YB) × Int × Int × Unit) : Option ((Int × Int × Int × (List YB) × Int × Int × Unit) ⊕ ((Int × Int × Int × Unit))) :=
  Tree.val (α := (Int × Int × Int × (List YB) × Int × Int × Unit) ⊕ ((Int × Int × Int × Unit))) <|
  .br (decide (x2.2.2.2.2.2.1 < x2.2.2.2.2.1)) (
   .ob (idx x2.2.2.2.1 x2.2.2.2.2.2.1) fun e3 =>
   .leaf (.inl (x2.1, x2.2.1, (IntKind.i64.wrap ((IntKind.i64.wrap ((256 : Int) * x2.2.2.1)) + (IntKind.i64.wrap (e3.1)))), x2.2.2.2.1, x2.2.2.2.2.1, (IntKind.i64.wrap (x2.2.2.2.2.2.1 + (1 : Int))), ()))) (
   .leaf (.inr (x2.1, x2.2.1, x2.2.2.1, ())))
def T_i_GetN (a0 : YBs) (a1 : YI) (a2 : YI) : Tree ((YI) × (YI) × (Bool × Unit)) :=
  .br (decide (a2.1 < (1 : Int))) (
   .leaf (((0 : Int), ()), ((0 : Int), ()), (false, ()))) (
   .br (decide (a2.1 > (6 : Int))) (
    .leaf (((0 : Int), ()), ((0 : Int), ()), (false, ()))) (
    .ob (V_i_Cut a0 a1 a2) fun r1 =>
    .br (!r1.2.1) (
     .leaf (((0 : Int), ()), ((0 : Int), ()), (false, ()))) (
     .ob (iterO B_i_GetN_8 (a1.1, a2.1, (0 : Int), r1.1.1, (r1.1.1.length : Int), (0 : Int), ())) fun o4 =>
     .leaf ((o4.2.2.1, ()), ((IntKind.i64.wrap (o4.1 + o4.2.1)), ()), (true, ())))))
def V_i_GetN (a0 : YBs) (a1 : YI) (a2 : YI) : Option ((YI) × (YI) × (Bool × Unit)) := (T_i_GetN a0 a1 a2).val
def T_i_Rot (a0 : YI) (a1 : YI) : Tree ((YI)) :=
  .br (decide (a1.1 < (0 : Int))) (
   .leaf ((IntKind.i64.wrap ((BitVec.ofInt (IntKind.i64.bits) (a0.1) &&& BitVec.ofInt (IntKind.i64.bits) ((4294967295 : Int))).toNat : Nat)), ())) (
   .br (decide (a1.1 > (31 : Int))) (
    .leaf ((IntKind.i64.wrap ((BitVec.ofInt (IntKind.i64.bits) (a0.1) &&& BitVec.ofInt (IntKind.i64.bits) ((4294967295 : Int))).toNat : Nat)), ())) (
    .chk (decide ((0 : Int) ≤ a1.1)) <|
    .chk (decide ((0 : Int) ≤ (IntKind.i64.wrap ((32 : Int) - a1.1)))) <|
    .leaf ((IntKind.i64.wrap ((BitVec.ofInt (IntKind.i64.bits) ((IntKind.i64.wrap ((BitVec.ofInt (IntKind.i64.bits) ((Int.fdiv (IntKind.i64.wrap ((BitVec.ofInt (IntKind.i64.bits) (a0.1) &&& BitVec.ofInt (IntKind.i64.bits) ((4294967295 : Int))).toNat : Nat)) (2 ^ (min (a1.1).toNat IntKind.i64.bits)))) ||| BitVec.ofInt (IntKind.i64.bits) ((IntKind.i64.wrap ((IntKind.i64.wrap ((BitVec.ofInt (IntKind.i64.bits) (a0.1) &&& BitVec.ofInt (IntKind.i64.bits) ((4294967295 : Int))).toNat : Nat)) * 2 ^ (min ((IntKind.i64.wrap ((32 : Int) - a1.1))).toNat IntKind.i64.bits))))).toNat : Nat))) &&& BitVec.ofInt (IntKind.i64.bits) ((4294967295 : Int))).toNat : Nat)), ())))
def V_i_Rot (a0 : YI) (a1 : YI) : Option ((YI)) := (T_i_Rot a0 a1).val
def B_i_Schedule_5 (x1 : (List YB) × (List YI) × Int × Unit) : Option (((List YB) × (List YI) × Int × Unit) ⊕ (((List YI) × Unit))) :=
  Tree.val (α := ((List YB) × (List YI) × Int × Unit) ⊕ (((List YI) × Unit))) <|
  .br (decide (x1.2.2.1 < (16 : Int))) (
   .ob (V_i_GetN (x1.1, ()) ((IntKind.i64.wrap ((4 : Int) * x1.2.2.1)), ()) ((4 : Int), ())) fun r2 =>
   .ob (idx x1.2.1 x1.2.2.1) fun e3 =>
   let q4 := (x1.2.1.set (x1.2.2.1).toNat r2.1)
   .leaf (.inl (x1.1, q4, (IntKind.i64.wrap (x1.2.2.1 + (1 : Int))), ()))) (
   .leaf (.inr (x1.2.1, ())))
def B_i_Schedule_9 (x6 : (List YI) × Int × Unit) : Option (((List YI) × Int × Unit) ⊕ (((List YI) × Unit))) :=
  Tree.val (α := ((List YI) × Int × Unit) ⊕ (((List YI) × Unit))) <|
  .br (decide (x6.2.1 < (64 : Int))) (
   .ob (idx x6.1 (IntKind.i64.wrap (x6.2.1 - (15 : Int)))) fun e7 =>
   .ob (idx x6.1 (IntKind.i64.wrap (x6.2.1 - (2 : Int)))) fun e8 =>
   .ob (V_i_Rot e7 ((7 : Int), ())) fun r9 =>
   .ob (V_i_Rot e7 ((18 : Int), ())) fun r10 =>
   .ob (V_i_Rot e8 ((17 : Int), ())) fun r11 =>
   .ob (V_i_Rot e8 ((19 : Int), ())) fun r12 =>
   .ob (idx x6.1 (IntKind.i64.wrap (x6.2.1 - (7 : Int)))) fun e13 =>
   .ob (idx x6.1 (IntKind.i64.wrap (x6.2.1 - (16 : Int)))) fun e14 =>
   .ob (idx x6.1 x6.2.1) fun e15 =>
   let q16 := (x6.1.set (x6.2.1).toNat ((IntKind.i64.wrap ((BitVec.ofInt (IntKind.i64.bits) ((IntKind.i64.wrap ((IntKind.i64.wrap ((IntKind.i64.wrap (e13.1 + e14.1)) + (IntKind.i64.wrap ((BitVec.ofInt (IntKind.i64.bits) ((IntKind.i64.wrap ((BitVec.ofInt (IntKind.i64.bits) (r9.1) ^^^ BitVec.ofInt (IntKind.i64.bits) (r10.1)).toNat : Nat))) ^^^ BitVec.ofInt (IntKind.i64.bits) ((Int.fdiv e7.1 (2 ^ (min ((3 : Int)).toNat IntKind.i64.bits))))).toNat : Nat)))) + (IntKind.i64.wrap ((BitVec.ofInt (IntKind.i64.bits) ((IntKind.i64.wrap ((BitVec.ofInt (IntKind.i64.bits) (r11.1) ^^^ BitVec.ofInt (IntKind.i64.bits) (r12.1)).toNat : Nat))) ^^^ BitVec.ofInt (IntKind.i64.bits) ((Int.fdiv e8.1 (2 ^ (min ((10 : Int)).toNat IntKind.i64.bits))))).toNat : Nat))))) &&& BitVec.ofInt (IntKind.i64.bits) ((4294967295 : Int))).toNat : Nat)), ()))
   .leaf (.inl (q16, (IntKind.i64.wrap (x6.2.1 + (1 : Int))), ()))) (
   .leaf (.inr (x6.1, ())))
def T_i_Schedule (a0 : YBs) : Tree (((List YI) × Unit)) :=
  .br ((a0.1.length : Int) != (64 : Int)) (
   .leaf (([] : List YI), ())) (
   .ob (iterO B_i_Schedule_5 (a0.1, (List.replicate ((64 : Int)).toNat ((0 : Int), ())), (0 : Int), ())) fun o5 =>
   .ob (iterO B_i_Schedule_9 (o5.1, (16 : Int), ())) fun o17 =>
   .leaf o17)
def V_i_Schedule (a0 : YBs) : Option (((List YI) × Unit)) := (T_i_Schedule a0).val
def T_i_RoundWord (a0 : YI) : Tree YI := .leaf (roundW a0.1, ())
def V_i_RoundWord (a0 : YI) : Option YI := (T_i_RoundWord a0).val
def T_i_Add32 (a0 : YI) (a1 : YI) : Tree ((YI)) :=
  .leaf ((IntKind.i64.wrap ((BitVec.ofInt (IntKind.i64.bits) ((IntKind.i64.wrap (a0.1 + a1.1))) &&& BitVec.ofInt (IntKind.i64.bits) ((4294967295 : Int))).toNat : Nat)), ())
def V_i_Add32 (a0 : YI) (a1 : YI) : Option ((YI)) := (T_i_Add32 a0 a1).val
def B_i_Compress_7 (x11 : (List YI) × (List YI) × (List YI) × Int × Int × Int × Int × Int × Int × Int × Int × Int × Unit) : Option (((List YI) × (List YI) × (List YI) × Int × Int × Int × Int × Int × Int × Int × Int × Int × Unit) ⊕ (((List YI) × (List YI) × Int × Int × Int × Int × Int × Int × Int × Int × Unit))) :=
  Tree.val (α := ((List YI) × (List YI) × (List YI) × Int × Int × Int × Int × Int × Int × Int × Int × Int × Unit) ⊕ (((List YI) × (List YI) × Int × Int × Int × Int × Int × Int × Int × Int × Unit))) <|
  .br (decide (x11.2.2.2.2.2.2.2.2.2.2.2.1 < (64 : Int))) (
   .ob (V_i_Rot (x11.2.2.2.2.2.2.2.1, ()) ((6 : Int), ())) fun r12 =>
   .ob (V_i_Rot (x11.2.2.2.2.2.2.2.1, ()) ((11 : Int), ())) fun r13 =>
   .ob (V_i_Rot (x11.2.2.2.2.2.2.2.1, ()) ((25 : Int), ())) fun r14 =>
   .ob (V_i_RoundWord (x11.2.2.2.2.2.2.2.2.2.2.2.1, ())) fun r15 =>
   .ob (idx x11.2.2.1 x11.2.2.2.2.2.2.2.2.2.2.2.1) fun e16 =>
   .ob (V_i_Rot (x11.2.2.2.1, ()) ((2 : Int), ())) fun r17 =>
   .ob (V_i_Rot (x11.2.2.2.1, ()) ((13 : Int), ())) fun r18 =>
   .ob (V_i_Rot (x11.2.2.2.1, ()) ((22 : Int), ())) fun r19 =>
   .ob (V_i_Add32 (x11.2.2.2.2.2.2.1, ()) ((IntKind.i64.wrap ((IntKind.i64.wrap ((IntKind.i64.wrap ((IntKind.i64.wrap (x11.2.2.2.2.2.2.2.2.2.2.1 + (IntKind.i64.wrap ((BitVec.ofInt (IntKind.i64.bits) ((IntKind.i64.wrap ((BitVec.ofInt (IntKind.i64.bits) (r12.1) ^^^ BitVec.ofInt (IntKind.i64.bits) (r13.1)).toNat : Nat))) ^^^ BitVec.ofInt (IntKind.i64.bits) (r14.1)).toNat : Nat)))) + (IntKind.i64.wrap ((BitVec.ofInt (IntKind.i64.bits) ((IntKind.i64.wrap ((BitVec.ofInt (IntKind.i64.bits) (x11.2.2.2.2.2.2.2.1) &&& BitVec.ofInt (IntKind.i64.bits) (x11.2.2.2.2.2.2.2.2.1)).toNat : Nat))) ^^^ BitVec.ofInt (IntKind.i64.bits) ((IntKind.i64.wrap ((BitVec.ofInt (IntKind.i64.bits) ((IntKind.i64.wrap ((BitVec.ofInt (IntKind.i64.bits) ((4294967295 : Int)) ^^^ BitVec.ofInt (IntKind.i64.bits) (x11.2.2.2.2.2.2.2.1)).toNat : Nat))) &&& BitVec.ofInt (IntKind.i64.bits) (x11.2.2.2.2.2.2.2.2.2.1)).toNat : Nat)))).toNat : Nat)))) + r15.1)) + e16.1)), ())) fun r20 =>
   .ob (V_i_Add32 ((IntKind.i64.wrap ((IntKind.i64.wrap ((IntKind.i64.wrap ((IntKind.i64.wrap (x11.2.2.2.2.2.2.2.2.2.2.1 + (IntKind.i64.wrap ((BitVec.ofInt (IntKind.i64.bits) ((IntKind.i64.wrap ((BitVec.ofInt (IntKind.i64.bits) (r12.1) ^^^ BitVec.ofInt (IntKind.i64.bits) (r13.1)).toNat : Nat))) ^^^ BitVec.ofInt (IntKind.i64.bits) (r14.1)).toNat : Nat)))) + (IntKind.i64.wrap ((BitVec.ofInt (IntKind.i64.bits) ((IntKind.i64.wrap ((BitVec.ofInt (IntKind.i64.bits) (x11.2.2.2.2.2.2.2.1) &&& BitVec.ofInt (IntKind.i64.bits) (x11.2.2.2.2.2.2.2.2.1)).toNat : Nat))) ^^^ BitVec.ofInt (IntKind.i64.bits) ((IntKind.i64.wrap ((BitVec.ofInt (IntKind.i64.bits) ((IntKind.i64.wrap ((BitVec.ofInt (IntKind.i64.bits) ((4294967295 : Int)) ^^^ BitVec.ofInt (IntKind.i64.bits) (x11.2.2.2.2.2.2.2.1)).toNat : Nat))) &&& BitVec.ofInt (IntKind.i64.bits) (x11.2.2.2.2.2.2.2.2.2.1)).toNat : Nat)))).toNat : Nat)))) + r15.1)) + e16.1)), ()) ((IntKind.i64.wrap ((IntKind.i64.wrap ((BitVec.ofInt (IntKind.i64.bits) ((IntKind.i64.wrap ((BitVec.ofInt (IntKind.i64.bits) (r17.1) ^^^ BitVec.ofInt (IntKind.i64.bits) (r18.1)).toNat : Nat))) ^^^ BitVec.ofInt (IntKind.i64.bits) (r19.1)).toNat : Nat)) + (IntKind.i64.wrap ((BitVec.ofInt (IntKind.i64.bits) ((IntKind.i64.wrap ((BitVec.ofInt (IntKind.i64.bits) ((IntKind.i64.wrap ((BitVec.ofInt (IntKind.i64.bits) (x11.2.2.2.1) &&& BitVec.ofInt (IntKind.i64.bits) (x11.2.2.2.2.1)).toNat : Nat))) ^^^ BitVec.ofInt (IntKind.i64.bits) ((IntKind.i64.wrap ((BitVec.ofInt (IntKind.i64.bits) (x11.2.2.2.1) &&& BitVec.ofInt (IntKind.i64.bits) (x11.2.2.2.2.2.1)).toNat : Nat)))).toNat : Nat))) ^^^ BitVec.ofInt (IntKind.i64.bits) ((IntKind.i64.wrap ((BitVec.ofInt (IntKind.i64.bits) (x11.2.2.2.2.1) &&& BitVec.ofInt (IntKind.i64.bits) (x11.2.2.2.2.2.1)).toNat : Nat)))).toNat : Nat)))), ())) fun r21 =>
   .leaf (.inl (x11.1, x11.2.1, x11.2.2.1, r21.1, x11.2.2.2.1, x11.2.2.2.2.1, x11.2.2.2.2.2.1, r20.1, x11.2.2.2.2.2.2.2.1, x11.2.2.2.2.2.2.2.2.1, x11.2.2.2.2.2.2.2.2.2.1, (IntKind.i64.wrap (x11.2.2.2.2.2.2.2.2.2.2.2.1 + (1 : Int))), ()))) (
   .leaf (.inr (x11.1, x11.2.1, x11.2.2.2.1, x11.2.2.2.2.1, x11.2.2.2.2.2.1, x11.2.2.2.2.2.2.1, x11.2.2.2.2.2.2.2.1, x11.2.2.2.2.2.2.2.2.1, x11.2.2.2.2.2.2.2.2.2.1, x11.2.2.2.2.2.2.2.2.2.2.1, ())))
def B_i_Compress_16 (x23 : (List YI) × (List YI) × (List YI) × Int × Int × Unit) : Option (((List YI) × (List YI) × (List YI) × Int × Int × Unit) ⊕ (((List YI) × Unit))) :=
  Tree.val (α := ((List YI) × (List YI) × (List YI) × Int × Int × Unit) ⊕ (((List YI) × Unit))) <|
  .br (decide (x23.2.2.2.2.1 < x23.2.2.2.1)) (
   .ob (idx x23.2.2.1 x23.2.2.2.2.1) fun e24 =>
   .ob (idx x23.1 x23.2.2.2.2.1) fun e25 =>
   .ob (V_i_Add32 e25 e24) fun r26 =>
   .ob (idx x23.2.1 x23.2.2.2.2.1) fun e27 =>
   let q28 := (x23.2.1.set (x23.2.2.2.2.1).toNat r26)
   .leaf (.inl (x23.1, q28, x23.2.2.1, x23.2.2.2.1, (IntKind.i64.wrap (x23.2.2.2.2.1 + (1 : Int))), ()))) (
   .leaf (.inr (x23.2.1, ())))
def T_i_Compress (a0 : (List YI) × Unit) (a1 : YBs) : Tree (((List YI) × Unit)) :=
  .chk (decide (([] : List YI).length + a0.1.length ≤ 4294967296)) <|
  .ob (V_i_areWords a0 ((8 : Int), ())) fun r1 =>
  .br (!r1.1) (
   .leaf ((([] : List YI) ++ a0.1), ())) (
   .br ((a1.1.length : Int) != (64 : Int)) (
    .leaf ((([] : List YI) ++ a0.1), ())) (
    .ob (V_i_Schedule a1) fun r2 =>
    .ob (idx a0.1 (0 : Int)) fun e3 =>
    .ob (idx a0.1 (1 : Int)) fun e4 =>
    .ob (idx a0.1 (2 : Int)) fun e5 =>
    .ob (idx a0.1 (3 : Int)) fun e6 =>
    .ob (idx a0.1 (4 : Int)) fun e7 =>
    .ob (idx a0.1 (5 : Int)) fun e8 =>
    .ob (idx a0.1 (6 : Int)) fun e9 =>
    .ob (idx a0.1 (7 : Int)) fun e10 =>
    .ob (iterO B_i_Compress_7 (a0.1, (([] : List YI) ++ a0.1), r2.1, e3.1, e4.1, e5.1, e6.1, e7.1, e8.1, e9.1, e10.1, (0 : Int), ())) fun o22 =>
    .ob (iterO B_i_Compress_16 (o22.1, o22.2.1, [(o22.2.2.1, ()), (o22.2.2.2.1, ()), (o22.2.2.2.2.1, ()), (o22.2.2.2.2.2.1, ()), (o22.2.2.2.2.2.2.1, ()), (o22.2.2.2.2.2.2.2.1, ()), (o22.2.2.2.2.2.2.2.2.1, ()), (o22.2.2.2.2.2.2.2.2.2.1, ())], ([(o22.2.2.1, ()), (o22.2.2.2.1, ()), (o22.2.2.2.2.1, ()), (o22.2.2.2.2.2.1, ()), (o22.2.2.2.2.2.2.1, ()), (o22.2.2.2.2.2.2.2.1, ()), (o22.2.2.2.2.2.2.2.2.1, ()), (o22.2.2.2.2.2.2.2.2.2.1, ())].length : Int), (0 : Int), ())) fun o29 =>
    .leaf o29))
def V_i_Compress (a0 : (List YI) × Unit) (a1 : YBs) : Option (((List YI) × Unit)) := (T_i_Compress a0 a1).val
def B_i_compressAll_1 (x3 : (List YI) × (List YB) × Unit) : Option (((List YI) × (List YB) × Unit) ⊕ (((List YI) × (List YB) × Unit))) :=
  Tree.val (α := ((List YI) × (List YB) × Unit) ⊕ (((List YI) × (List YB) × Unit))) <|
  .br (decide ((x3.2.1.length : Int) ≥ (64 : Int))) (
   .chk (decide ((64 : Int) ≤ (x3.2.1.length : Int))) <|
   .ob (V_i_Compress (x3.1, ()) (((x3.2.1.take ((64 : Int)).toNat).drop ((0 : Int)).toNat), ())) fun r4 =>
   .chk (decide ((64 : Int) ≤ (x3.2.1.length : Int))) <|
   .chk (decide ((x3.2.1.length : Int) ≤ (x3.2.1.length : Int))) <|
   .leaf (.inl (r4.1, ((x3.2.1.take ((x3.2.1.length : Int)).toNat).drop ((64 : Int)).toNat), ()))) (
   .leaf (.inr x3))
def T_i_compressAll (a0 : (List YI) × Unit) (a1 : YBs) : Tree (((List YI) × Unit) × (YBs)) :=
  .ob (iterO B_i_compressAll_1 (a0.1, a1.1, ())) fun o5 =>
  .leaf ((o5.1, ()), (o5.2.1, ()))
def V_i_compressAll (a0 : (List YI) × Unit) (a1 : YBs) : Option (((List YI) × Unit) × (YBs)) := (T_i_compressAll a0 a1).val
def T_i_HashAdd (a0 : YHash) (a1 : YBs) : Tree ((YHash)) :=
  .ob (V_i_HashOk a0) fun r1 =>
  .br (!r1.1) (
   .chk (decide (([] : List YI).length + a0.1.length ≤ 4294967296)) <|
   .ob (V_i_clone (a0.2.1, ())) fun r2 =>
   .leaf ((([] : List YI) ++ a0.1), r2.1, a0.2.2.1, ())) (
   .br (decide ((a1.1.length : Int) > (IntKind.i64.wrap ((1048576 : Int) - a0.2.2.1)))) (
    .chk (decide (([] : List YI).length + a0.1.length ≤ 4294967296)) <|
    .ob (V_i_clone (a0.2.1, ())) fun r3 =>
    .leaf ((([] : List YI) ++ a0.1), r3.1, a0.2.2.1, ())) (
    .ob (V_i_joined ([(a0.2.1, ()), a1], ())) fun r4 =>
    .ob (V_i_compressAll (a0.1, ()) r4) fun r5 =>
    .chk (decide (([] : List YI).length + r5.1.1.length ≤ 4294967296)) <|
    .ob (V_i_clone r5.2) fun r6 =>
    .leaf ((([] : List YI) ++ r5.1.1), r6.1, (IntKind.i64.wrap (a0.2.2.1 + (a1.1.length : Int))), ())))
def V_i_HashAdd (a0 : YHash) (a1 : YBs) : Option ((YHash)) := (T_i_HashAdd a0 a1).val
def B_i_Pad_4 (x2 : Int × (List YB) × Unit) : Option ((Int × (List YB) × Unit) ⊕ ((Int × (List YB) × Unit))) :=
  Tree.val (α := (Int × (List YB) × Unit) ⊕ ((Int × (List YB) × Unit))) <|
  .chk (decide ((0 : Int) ≤ (IntKind.i64.wrap ((IntKind.i64.wrap (x2.1 + (x2.2.1.length : Int))) + (8 : Int))))) <|
  .br (((IntKind.i64.wrap ((IntKind.i64.wrap (x2.1 + (x2.2.1.length : Int))) + (8 : Int))) % (64 : Int)) != (0 : Int)) (
   .chk (decide (x2.2.1.length + [((0 : Int), ())].length ≤ 4294967296)) <|
   .leaf (.inl (x2.1, (x2.2.1 ++ [((0 : Int), ())]), ()))) (
   .leaf (.inr x2))
def T_i_Pad (a0 : YI) : Tree ((YBs)) :=
  .ob (V_i_within a0 ((0 : Int), ()) ((1048576 : Int), ())) fun r1 =>
  .br (!r1.1) (
   .leaf (([] : List YB), ())) (
   .ob (iterO B_i_Pad_4 (a0.1, [((128 : Int), ())], ())) fun o3 =>
   .chk (decide (o3.2.1.length + [((0 : Int), ()), ((0 : Int), ())].length ≤ 4294967296)) <|
   .ob (V_i_PutN ((o3.2.1 ++ [((0 : Int), ()), ((0 : Int), ())]), ()) ((IntKind.i64.wrap ((8 : Int) * o3.1)), ()) ((6 : Int), ())) fun r4 =>
   .leaf r4)
def V_i_Pad (a0 : YI) : Option ((YBs)) := (T_i_Pad a0).val
def B_i_wordBytes_3 (x1 : (List YB) × (List YI) × Int × Int × Unit) : Option (((List YB) × (List YI) × Int × Int × Unit) ⊕ ((YBs))) :=
  Tree.val (α := ((List YB) × (List YI) × Int × Int × Unit) ⊕ ((YBs))) <|
  .br (decide (x1.2.2.2.1 < x1.2.2.1)) (
   .ob (idx x1.2.1 x1.2.2.2.1) fun e2 =>
   .ob (V_i_PutN (x1.1, ()) e2 ((4 : Int), ())) fun r3 =>
   .leaf (.inl (r3.1, x1.2.1, x1.2.2.1, (IntKind.i64.wrap (x1.2.2.2.1 + (1 : Int))), ()))) (
   .leaf (.inr (x1.1, ())))
def T_i_wordBytes (a0 : (List YI) × Unit) : Tree ((YBs)) :=
  .ob (iterO B_i_wordBytes_3 (([] : List YB), a0.1, (a0.1.length : Int), (0 : Int), ())) fun o4 =>
  .leaf o4
def V_i_wordBytes (a0 : (List YI) × Unit) : Option ((YBs)) := (T_i_wordBytes a0).val
def T_i_HashEnd (a0 : YHash) : Tree ((YBs)) :=
  .ob (V_i_HashOk a0) fun r1 =>
  .br (!r1.1) (
   .leaf (([] : List YB), ())) (
   .ob (V_i_Pad (a0.2.2.1, ())) fun r2 =>
   .ob (V_i_joined ([(a0.2.1, ()), r2], ())) fun r3 =>
   .ob (V_i_compressAll (a0.1, ()) r3) fun r4 =>
   .ob (V_i_wordBytes r4.1) fun r5 =>
   .leaf r5)
def V_i_HashEnd (a0 : YHash) : Option ((YBs)) := (T_i_HashEnd a0).val
def T_i_Sha (a0 : YBs) : Tree ((YBs)) :=
  .br (decide ((a0.1.length : Int) > (1048576 : Int))) (
   .leaf (([] : List YB), ())) (
   .ob V_i_HashNew fun r1 =>
   .ob (V_i_HashAdd r1 a0) fun r2 =>
   .ob (V_i_HashEnd r2) fun r3 =>
   .leaf r3)
def V_i_Sha (a0 : YBs) : Option ((YBs)) := (T_i_Sha a0).val
def B_i_BlockKey_6 (x3 : YBs) : Option ((YBs) ⊕ ((YBs))) :=
  Tree.val (α := (YBs) ⊕ ((YBs))) <|
  .br (decide ((x3.1.length : Int) < (64 : Int))) (
   .chk (decide (x3.1.length + [((0 : Int), ())].length ≤ 4294967296)) <|
   .leaf (.inl ((x3.1 ++ [((0 : Int), ())]), ()))) (
   .leaf (.inr x3))
def T_i_BlockKey (a0 : YBs) : Tree ((YBs)) :=
  .br (decide ((a0.1.length : Int) > (1048576 : Int))) (
   .leaf (([] : List YB), ())) (
   .ob (V_i_clone a0) fun r1 =>
   .br (decide ((a0.1.length : Int) > (64 : Int))) (
    .ob (V_i_Sha a0) fun r2 =>
    .ob (iterO B_i_BlockKey_6 r2) fun o4 =>
    .leaf o4) (
    .ob (iterO B_i_BlockKey_6 r1) fun o5 =>
    .leaf o5))
def V_i_BlockKey (a0 : YBs) : Option ((YBs)) := (T_i_BlockKey a0).val
def B_i_masked_3 (x1 : Int × (List YB) × (List YB) × Int × Int × Unit) : Option ((Int × (List YB) × (List YB) × Int × Int × Unit) ⊕ ((YBs))) :=
  Tree.val (α := (Int × (List YB) × (List YB) × Int × Int × Unit) ⊕ ((YBs))) <|
  .br (decide (x1.2.2.2.2.1 < x1.2.2.2.1)) (
   .ob (idx x1.2.2.1 x1.2.2.2.2.1) fun e2 =>
   .chk (decide (x1.2.1.length + [((IntKind.u8.wrap ((BitVec.ofInt (IntKind.u8.bits) (e2.1) ^^^ BitVec.ofInt (IntKind.u8.bits) (x1.1)).toNat : Nat)), ())].length ≤ 4294967296)) <|
   .leaf (.inl (x1.1, (x1.2.1 ++ [((IntKind.u8.wrap ((BitVec.ofInt (IntKind.u8.bits) (e2.1) ^^^ BitVec.ofInt (IntKind.u8.bits) (x1.1)).toNat : Nat)), ())]), x1.2.2.1, x1.2.2.2.1, (IntKind.i64.wrap (x1.2.2.2.2.1 + (1 : Int))), ()))) (
   .leaf (.inr (x1.2.1, ())))
def T_i_masked (a0 : YBs) (a1 : YB) : Tree ((YBs)) :=
  .ob (iterO B_i_masked_3 (a1.1, ([] : List YB), a0.1, (a0.1.length : Int), (0 : Int), ())) fun o3 =>
  .leaf o3
def V_i_masked (a0 : YBs) (a1 : YB) : Option ((YBs)) := (T_i_masked a0 a1).val
def T_i_Hmac (a0 : YBs) (a1 : YBs) : Tree ((YBs)) :=
  .br (decide ((a0.1.length : Int) > (1048576 : Int))) (
   .leaf (([] : List YB), ())) (
   .br (decide ((a1.1.length : Int) > (1048512 : Int))) (
    .leaf (([] : List YB), ())) (
    .ob (V_i_BlockKey a0) fun r1 =>
    .ob (V_i_masked r1 ((92 : Int), ())) fun r2 =>
    .ob (V_i_masked r1 ((54 : Int), ())) fun r3 =>
    .ob (V_i_joined ([r3, a1], ())) fun r4 =>
    .ob (V_i_Sha r4) fun r5 =>
    .ob (V_i_joined ([r2, r5], ())) fun r6 =>
    .ob (V_i_Sha r6) fun r7 =>
    .leaf r7))
def V_i_Hmac (a0 : YBs) (a1 : YBs) : Option ((YBs)) := (T_i_Hmac a0 a1).val
def T_i_BlockOf (a0 : YBs) (a1 : YBs) (a2 : YI) : Tree ((YBs)) :=
  .ob (V_i_within a2 ((0 : Int), ()) ((6 : Int), ())) fun r1 =>
  .br (!r1.1) (
   .leaf (([] : List YB), ())) (
   .br (decide ((a1.1.length : Int) > (100 : Int))) (
    .leaf (([] : List YB), ())) (
    .ob (V_i_joined ([([((115 : Int), ())], ()), a1], ())) fun r2 =>
    .ob (V_i_PutN r2 a2 ((4 : Int), ())) fun r3 =>
    .ob (V_i_Hmac a0 r3) fun r4 =>
    .leaf r4))
def V_i_BlockOf (a0 : YBs) (a1 : YBs) (a2 : YI) : Option ((YBs)) := (T_i_BlockOf a0 a1 a2).val
def B_i_Stream_5 (x2 : (List YB) × (List YB) × Int × (List YB) × Int × Unit) : Option (((List YB) × (List YB) × Int × (List YB) × Int × Unit) ⊕ ((Int × (List YB) × Unit))) :=
  Tree.val (α := ((List YB) × (List YB) × Int × (List YB) × Int × Unit) ⊕ ((Int × (List YB) × Unit))) <|
  .br (decide ((x2.2.2.2.1.length : Int) < x2.2.2.1)) (
   .ob (V_i_BlockOf (x2.1, ()) (x2.2.1, ()) (x2.2.2.2.2.1, ())) fun r3 =>
   .chk (decide (x2.2.2.2.1.length + r3.1.length ≤ 4294967296)) <|
   .leaf (.inl (x2.1, x2.2.1, x2.2.2.1, (x2.2.2.2.1 ++ r3.1), (IntKind.i64.wrap (x2.2.2.2.2.1 + (1 : Int))), ()))) (
   .leaf (.inr (x2.2.2.1, x2.2.2.2.1, ())))
def T_i_Stream (a0 : YBs) (a1 : YBs) (a2 : YI) : Tree ((YBs)) :=
  .ob (V_i_within a2 ((0 : Int), ()) ((200 : Int), ())) fun r1 =>
  .br (!r1.1) (
   .leaf (([] : List YB), ())) (
   .br (decide ((a1.1.length : Int) > (100 : Int))) (
    .leaf (([] : List YB), ())) (
    .br (decide ((a0.1.length : Int) > (1048576 : Int))) (
     .leaf (([] : List YB), ())) (
     .ob (iterO B_i_Stream_5 (a0.1, a1.1, a2.1, ([] : List YB), (0 : Int), ())) fun o4 =>
     .chk (decide ((0 : Int) ≤ o4.1)) <|
     .chk (decide (o4.1 ≤ (o4.2.1.length : Int))) <|
     .ob (V_i_clone (((o4.2.1.take (o4.1).toNat).drop ((0 : Int)).toNat), ())) fun r5 =>
     .leaf r5)))
def V_i_Stream (a0 : YBs) (a1 : YBs) (a2 : YI) : Option ((YBs)) := (T_i_Stream a0 a1 a2).val
def B_i_Mix_5 (x2 : (List YB) × (List YB) × (List YB) × Int × Int × Unit) : Option (((List YB) × (List YB) × (List YB) × Int × Int × Unit) ⊕ ((YBs))) :=
  Tree.val (α := ((List YB) × (List YB) × (List YB) × Int × Int × Unit) ⊕ ((YBs))) <|
  .br (decide (x2.2.2.2.2.1 < x2.2.2.2.1)) (
   .ob (idx x2.2.2.1 x2.2.2.2.2.1) fun e3 =>
   .ob (idx x2.1 x2.2.2.2.2.1) fun e4 =>
   .chk (decide (x2.2.1.length + [((IntKind.u8.wrap ((BitVec.ofInt (IntKind.u8.bits) (e3.1) ^^^ BitVec.ofInt (IntKind.u8.bits) (e4.1)).toNat : Nat)), ())].length ≤ 4294967296)) <|
   .leaf (.inl (x2.1, (x2.2.1 ++ [((IntKind.u8.wrap ((BitVec.ofInt (IntKind.u8.bits) (e3.1) ^^^ BitVec.ofInt (IntKind.u8.bits) (e4.1)).toNat : Nat)), ())]), x2.2.2.1, x2.2.2.2.1, (IntKind.i64.wrap (x2.2.2.2.2.1 + (1 : Int))), ()))) (
   .leaf (.inr (x2.2.1, ())))
def T_i_Mix (a0 : YBs) (a1 : YBs) (a2 : YBs) : Tree ((YBs)) :=
  .br (decide ((a2.1.length : Int) > (200 : Int))) (
   .leaf (([] : List YB), ())) (
   .br (decide ((a1.1.length : Int) > (100 : Int))) (
    .leaf (([] : List YB), ())) (
    .br (decide ((a0.1.length : Int) > (1048576 : Int))) (
     .leaf (([] : List YB), ())) (
     .ob (V_i_Stream a0 a1 ((a2.1.length : Int), ())) fun r1 =>
     .ob (iterO B_i_Mix_5 (a2.1, ([] : List YB), r1.1, (r1.1.length : Int), (0 : Int), ())) fun o5 =>
     .leaf o5)))
def V_i_Mix (a0 : YBs) (a1 : YBs) (a2 : YBs) : Option ((YBs)) := (T_i_Mix a0 a1 a2).val
def T_i_TagInput (a0 : YI) (a1 : YFrame) : Tree ((YBs)) :=
  .ob (V_i_isRole a0) fun r1 =>
  .br (!r1.1) (
   .leaf (([] : List YB), ())) (
   .ob (V_i_Sealed (a1.1, ())) fun r2 =>
   .br (!r2.1) (
    .leaf (([] : List YB), ())) (
    .ob (V_i_FrameOk a1) fun r3 =>
    .br (!r3.1) (
     .leaf (([] : List YB), ())) (
     .ob (V_i_HeadOf a0 (a1.2.2.2.1, ()) (a1.2.2.2.2.2.2.2.1, ()) (a1.2.2.2.2.2.2.2.2.1, ())) fun r4 =>
     .ob (V_i_joined ([([((116 : Int), ())], ()), r4, ([((IntKind.u8.wrap (a1.1)), ())], ()), (a1.2.2.2.2.2.2.2.2.2.1, ())], ())) fun r5 =>
     .leaf r5)))
def V_i_TagInput (a0 : YI) (a1 : YFrame) : Option ((YBs)) := (T_i_TagInput a0 a1).val
def T_i_Tag (a0 : YBs) (a1 : YBs) : Tree ((YBs)) :=
  .ob (V_i_Hmac a0 a1) fun r1 =>
  .br ((r1.1.length : Int) == (0 : Int)) (
   .leaf (([] : List YB), ())) (
   .chk (decide ((16 : Int) ≤ (r1.1.length : Int))) <|
   .ob (V_i_clone (((r1.1.take ((16 : Int)).toNat).drop ((0 : Int)).toNat), ())) fun r2 =>
   .leaf r2)
def V_i_Tag (a0 : YBs) (a1 : YBs) : Option ((YBs)) := (T_i_Tag a0 a1).val
def T_i_Seal (a0 : YBs) (a1 : YI) (a2 : YBs) (a3 : YI) (a4 : YI) (a5 : YI) (a6 : YBs) : Tree ((YFrame) × (Bool × Unit)) :=
  .ob (V_i_clone a2) fun r1 =>
  .ob (V_i_clone a6) fun r2 =>
  .br ((a0.1.length : Int) != (32 : Int)) (
   .leaf (((0 : Int), (0 : Int), ([] : List YB), ([] : List YB), (0 : Int), ([] : List YB), ([] : List YB), (0 : Int), (0 : Int), ([] : List YB), ([] : List YB), ()), (false, ()))) (
   .ob (V_i_isRole a1) fun r3 =>
   .br (!r3.1) (
    .leaf (((0 : Int), (0 : Int), ([] : List YB), ([] : List YB), (0 : Int), ([] : List YB), ([] : List YB), (0 : Int), (0 : Int), ([] : List YB), ([] : List YB), ()), (false, ()))) (
    .ob (V_i_Sealed a5) fun r4 =>
    .br (!r4.1) (
     .leaf (((0 : Int), (0 : Int), ([] : List YB), ([] : List YB), (0 : Int), ([] : List YB), ([] : List YB), (0 : Int), (0 : Int), ([] : List YB), ([] : List YB), ()), (false, ()))) (
     .ob (V_i_FrameOk (a5.1, (0 : Int), ([] : List YB), r1.1, (0 : Int), ([] : List YB), ([] : List YB), a3.1, a4.1, r2.1, (List.replicate ((16 : Int)).toNat ((0 : Int), ())), ())) fun r5 =>
     .br (!r5.1) (
      .leaf (((0 : Int), (0 : Int), ([] : List YB), ([] : List YB), (0 : Int), ([] : List YB), ([] : List YB), (0 : Int), (0 : Int), ([] : List YB), ([] : List YB), ()), (false, ()))) (
      .ob (V_i_HeadOf a1 a2 a3 a4) fun r6 =>
      .ob (V_i_Mix a0 r6 a6) fun r7 =>
      .ob (V_i_TagInput a1 (a5.1, (0 : Int), ([] : List YB), r1.1, (0 : Int), ([] : List YB), ([] : List YB), a3.1, a4.1, r7.1, (List.replicate ((16 : Int)).toNat ((0 : Int), ())), ())) fun r8 =>
      .ob (V_i_Tag a0 r8) fun r9 =>
      .leaf ((a5.1, (0 : Int), ([] : List YB), r1.1, (0 : Int), ([] : List YB), ([] : List YB), a3.1, a4.1, r7.1, r9.1, ()), (true, ()))))))
def V_i_Seal (a0 : YBs) (a1 : YI) (a2 : YBs) (a3 : YI) (a4 : YI) (a5 : YI) (a6 : YBs) : Option ((YFrame) × (Bool × Unit)) := (T_i_Seal a0 a1 a2 a3 a4 a5 a6).val
def T_i_EpSeal (a0 : YEp) (a1 : YI) (a2 : YBs) (a3 : YI) (a4 : YBs) : Tree ((YEp) × (YFrame) × (YI)) :=
  .ob (V_i_copyEp a0) fun r1 =>
  .ob (V_i_EpOk a0) fun r2 =>
  .br (!r2.1) (
   .leaf (r1, ((0 : Int), (0 : Int), ([] : List YB), ([] : List YB), (0 : Int), ([] : List YB), ([] : List YB), (0 : Int), (0 : Int), ([] : List YB), ([] : List YB), ()), ((1 : Int), ()))) (
   .ob (V_i_Seal (a0.2.1, ()) a1 a2 (a0.1, ()) ((0 : Int), ()) a3 a4) fun r3 =>
   .br (!r3.2.1) (
    .leaf (r1, ((0 : Int), (0 : Int), ([] : List YB), ([] : List YB), (0 : Int), ([] : List YB), ([] : List YB), (0 : Int), (0 : Int), ([] : List YB), ([] : List YB), ()), ((1 : Int), ()))) (
    .br (a3.1 == (4 : Int)) (
     .br (decide (a0.2.2.1 ≥ (281474976709656 : Int))) (
      .leaf (r1, ((0 : Int), (0 : Int), ([] : List YB), ([] : List YB), (0 : Int), ([] : List YB), ([] : List YB), (0 : Int), (0 : Int), ([] : List YB), ([] : List YB), ()), ((4 : Int), ()))) (
      .br (a0.2.2.1 == (281474976710656 : Int)) (
       .leaf (r1, ((0 : Int), (0 : Int), ([] : List YB), ([] : List YB), (0 : Int), ([] : List YB), ([] : List YB), (0 : Int), (0 : Int), ([] : List YB), ([] : List YB), ()), ((5 : Int), ()))) (
       .ob (V_i_Seal (a0.2.1, ()) a1 a2 (a0.1, ()) (a0.2.2.1, ()) a3 a4) fun r4 =>
       .leaf ((r1.1, r1.2.1, (IntKind.i64.wrap (r1.2.2.1 + (1 : Int))), r1.2.2.2.1, r1.2.2.2.2.1, ()), r4.1, ((0 : Int), ()))))) (
     .br (a0.2.2.1 == (281474976710656 : Int)) (
      .leaf (r1, ((0 : Int), (0 : Int), ([] : List YB), ([] : List YB), (0 : Int), ([] : List YB), ([] : List YB), (0 : Int), (0 : Int), ([] : List YB), ([] : List YB), ()), ((5 : Int), ()))) (
      .ob (V_i_Seal (a0.2.1, ()) a1 a2 (a0.1, ()) (a0.2.2.1, ()) a3 a4) fun r5 =>
      .leaf ((r1.1, r1.2.1, (IntKind.i64.wrap (r1.2.2.1 + (1 : Int))), r1.2.2.2.1, r1.2.2.2.2.1, ()), r5.1, ((0 : Int), ()))))))
def V_i_EpSeal (a0 : YEp) (a1 : YI) (a2 : YBs) (a3 : YI) (a4 : YBs) : Option ((YEp) × (YFrame) × (YI)) := (T_i_EpSeal a0 a1 a2 a3 a4).val
def T_i_ChanSeal (a0 : YChan) (a1 : YI) (a2 : YBs) : Tree ((YChan) × (YFrame) × (YI)) :=
  .ob (V_i_copyChan a0) fun r1 =>
  .ob (V_i_ChanOk a0) fun r2 =>
  .br (!r2.1) (
   .leaf (r1, ((0 : Int), (0 : Int), ([] : List YB), ([] : List YB), (0 : Int), ([] : List YB), ([] : List YB), (0 : Int), (0 : Int), ([] : List YB), ([] : List YB), ()), ((1 : Int), ()))) (
   .ob (V_i_EpSeal (a0.2.2.1, a0.2.2.2.1, a0.2.2.2.2.1, a0.2.2.2.2.2.1, a0.2.2.2.2.2.2.1, ()) (a0.1, ()) (a0.2.1, ()) a1 a2) fun r3 =>
   .leaf ((r1.1, r1.2.1, r3.1.1, r3.1.2.1, r3.1.2.2.1, r3.1.2.2.2.1, r3.1.2.2.2.2.1, r1.2.2.2.2.2.2.2.1, r1.2.2.2.2.2.2.2.2.1, r1.2.2.2.2.2.2.2.2.2.1, r1.2.2.2.2.2.2.2.2.2.2.1, r1.2.2.2.2.2.2.2.2.2.2.2.1, r1.2.2.2.2.2.2.2.2.2.2.2.2.1, r1.2.2.2.2.2.2.2.2.2.2.2.2.2.1, r1.2.2.2.2.2.2.2.2.2.2.2.2.2.2.1, ()), r3.2.1, r3.2.2))
def V_i_ChanSeal (a0 : YChan) (a1 : YI) (a2 : YBs) : Option ((YChan) × (YFrame) × (YI)) := (T_i_ChanSeal a0 a1 a2).val
def T_i_Made (a0 : YBs) (a1 : YBs) : Tree ((YNote)) :=
  .ob (V_i_clone a0) fun r1 =>
  .ob (V_i_clone a1) fun r2 =>
  .leaf ((15 : Int), (0 : Int), (0 : Int), ([] : List YB), ([] : List YB), (0 : Int), (0 : Int), r2.1, r1.1, (0 : Int), (0 : Int), (0 : Int), ())
def V_i_Made (a0 : YBs) (a1 : YBs) : Option ((YNote)) := (T_i_Made a0 a1).val
def T_i_madeBy (a0 : YChan) (a1 : YFrame) : Tree ((YNote)) :=
  .ob (V_i_TagInput (a0.1, ()) a1) fun r1 =>
  .ob (V_i_Made (a0.2.2.2.1, ()) r1) fun r2 =>
  .leaf r2
def V_i_madeBy (a0 : YChan) (a1 : YFrame) : Option ((YNote)) := (T_i_madeBy a0 a1).val
def T_i_SessSend (a0 : YSess) (a1 : YBs) : Tree ((YSess) × ((List YOut) × Unit) × ((List YNote) × Unit) × (YI)) :=
  .ob (V_i_copySess a0) fun r1 =>
  .ob (V_i_SessOk a0) fun r2 =>
  .br (!r2.1) (
   .leaf (r1, (([] : List YOut), ()), (([] : List YNote), ()), ((1 : Int), ()))) (
   .br (decide ((a1.1.length : Int) > (40 : Int))) (
    .leaf (r1, (([] : List YOut), ()), (([] : List YNote), ()), ((1 : Int), ()))) (
    .br a0.2.2.2.2.2.2.2.2.2.2.2.2.2.2.2.2.2.2.2.2.2.2.2.1 (
     .leaf (r1, (([] : List YOut), ()), (([] : List YNote), ()), ((6 : Int), ()))) (
     .ob (V_i_ChanSeal (a0.2.2.2.1, a0.2.2.2.2.1, a0.2.2.2.2.2.1, a0.2.2.2.2.2.2.1, a0.2.2.2.2.2.2.2.1, a0.2.2.2.2.2.2.2.2.1, a0.2.2.2.2.2.2.2.2.2.1, a0.2.2.2.2.2.2.2.2.2.2.1, a0.2.2.2.2.2.2.2.2.2.2.2.1, a0.2.2.2.2.2.2.2.2.2.2.2.2.1, a0.2.2.2.2.2.2.2.2.2.2.2.2.2.1, a0.2.2.2.2.2.2.2.2.2.2.2.2.2.2.1, a0.2.2.2.2.2.2.2.2.2.2.2.2.2.2.2.1, a0.2.2.2.2.2.2.2.2.2.2.2.2.2.2.2.2.1, a0.2.2.2.2.2.2.2.2.2.2.2.2.2.2.2.2.2.1, ()) ((4 : Int), ()) a1) fun r3 =>
     .br (r3.2.2.1 != (0 : Int)) (
      .leaf (r1, (([] : List YOut), ()), (([] : List YNote), ()), r3.2.2)) (
      .ob (V_i_clone (r3.2.1.2.2.2.1, ())) fun r4 =>
      .ob (V_i_clone a1) fun r5 =>
      .ob (V_i_madeBy r3.1 r3.2.1) fun r6 =>
      .leaf ((r1.1, r1.2.1, r1.2.2.1, r3.1.1, r3.1.2.1, r3.1.2.2.1, r3.1.2.2.2.1, r3.1.2.2.2.2.1, r3.1.2.2.2.2.2.1, r3.1.2.2.2.2.2.2.1, r3.1.2.2.2.2.2.2.2.1, r3.1.2.2.2.2.2.2.2.2.1, r3.1.2.2.2.2.2.2.2.2.2.1, r3.1.2.2.2.2.2.2.2.2.2.2.1, r3.1.2.2.2.2.2.2.2.2.2.2.2.1, r3.1.2.2.2.2.2.2.2.2.2.2.2.2.1, r3.1.2.2.2.2.2.2.2.2.2.2.2.2.2.1, r3.1.2.2.2.2.2.2.2.2.2.2.2.2.2.2.1, r1.2.2.2.2.2.2.2.2.2.2.2.2.2.2.2.2.2.2.1, r1.2.2.2.2.2.2.2.2.2.2.2.2.2.2.2.2.2.2.2.1, r1.2.2.2.2.2.2.2.2.2.2.2.2.2.2.2.2.2.2.2.2.1, r1.2.2.2.2.2.2.2.2.2.2.2.2.2.2.2.2.2.2.2.2.2.1, r1.2.2.2.2.2.2.2.2.2.2.2.2.2.2.2.2.2.2.2.2.2.2.1, r1.2.2.2.2.2.2.2.2.2.2.2.2.2.2.2.2.2.2.2.2.2.2.2.1, ()), ([(a0.2.2.2.2.2.2.2.2.2.2.2.2.2.2.2.2.2.2.1, a0.2.2.2.2.2.2.2.2.2.2.2.2.2.2.2.2.2.2.2.1, r3.2.1.1, r3.2.1.2.1, r3.2.1.2.2.1, r3.2.1.2.2.2.1, r3.2.1.2.2.2.2.1, r3.2.1.2.2.2.2.2.1, r3.2.1.2.2.2.2.2.2.1, r3.2.1.2.2.2.2.2.2.2.1, r3.2.1.2.2.2.2.2.2.2.2.1, r3.2.1.2.2.2.2.2.2.2.2.2.1, r3.2.1.2.2.2.2.2.2.2.2.2.2.1, ())], ()), ([r6, ((5 : Int), (0 : Int), (1 : Int), ([] : List YB), r4.1, r3.2.1.2.2.2.2.2.2.2.1, r3.2.1.2.2.2.2.2.2.2.2.1, r5.1, ([] : List YB), (0 : Int), (0 : Int), (0 : Int), ())], ()), ((0 : Int), ()))))))
def V_i_SessSend (a0 : YSess) (a1 : YBs) : Option ((YSess) × ((List YOut) × Unit) × ((List YNote) × Unit) × (YI)) := (T_i_SessSend a0 a1).val
def T_i_PutSess (a0 : YTab) (a1 : YI) (a2 : YSess) : Tree ((YTab) × (Bool × Unit)) :=
  .ob (V_i_copyTab a0) fun r1 =>
  .ob (V_i_TabOk a0) fun r2 =>
  .br (!r2.1) (
   .leaf (r1, (false, ()))) (
   .br (decide (a1.1 < (0 : Int))) (
    .leaf (r1, (false, ()))) (
    .br (decide (a1.1 ≥ (a0.2.1.length : Int))) (
     .leaf (r1, (false, ()))) (
     .ob (V_i_copySess a2) fun r3 =>
     .ob (idx r1.2.1 a1.1) fun e4 =>
     let q5 := (r1.2.1.set (a1.1).toNat r3)
     .ob (V_i_TabOk (r1.1, q5, ())) fun r6 =>
     .br (!r6.1) (
      .ob (V_i_copyTab a0) fun r7 =>
      .leaf (r7, (false, ()))) (
      .leaf ((r1.1, q5, ()), (true, ()))))))
def V_i_PutSess (a0 : YTab) (a1 : YI) (a2 : YSess) : Option ((YTab) × (Bool × Unit)) := (T_i_PutSess a0 a1 a2).val
def T_i_ServerSend (a0 : YServer) (a1 : YI) (a2 : YI) (a3 : YBs) : Tree ((YServer) × ((List YOut) × Unit) × ((List YNote) × Unit) × (YI)) :=
  .ob (V_i_copyServer a0) fun r1 =>
  .ob (V_i_ServerOk a0) fun r2 =>
  .br (!r2.1) (
   .leaf (r1, (([] : List YOut), ()), (([] : List YNote), ()), ((1 : Int), ()))) (
   .ob (V_i_within a1 ((0 : Int), ()) ((1000000 : Int), ())) fun r3 =>
   .br (!r3.1) (
    .leaf (r1, (([] : List YOut), ()), (([] : List YNote), ()), ((1 : Int), ()))) (
    .br (decide (a2.1 < (0 : Int))) (
     .leaf (r1, (([] : List YOut), ()), (([] : List YNote), ()), ((8 : Int), ()))) (
     .br (decide (a2.1 ≥ (a0.2.2.2.2.2.1.length : Int))) (
      .leaf (r1, (([] : List YOut), ()), (([] : List YNote), ()), ((8 : Int), ()))) (
      .ob (idx a0.2.2.2.2.2.1 a2.1) fun e4 =>
      .ob (V_i_SessSend e4 a3) fun r5 =>
      .br (r5.2.2.2.1 != (0 : Int)) (
       .leaf (r1, (([] : List YOut), ()), (([] : List YNote), ()), r5.2.2.2)) (
       .ob (V_i_PutSess (a0.2.2.2.2.1, a0.2.2.2.2.2.1, ()) a2 r5.1) fun r6 =>
       .leaf ((r1.1, r1.2.1, r1.2.2.1, r1.2.2.2.1, r6.1.1, r6.1.2.1, r1.2.2.2.2.2.2.1, ()), r5.2.1, r5.2.2.1, ((0 : Int), ())))))))
def V_i_ServerSend (a0 : YServer) (a1 : YI) (a2 : YI) (a3 : YBs) : Option ((YServer) × ((List YOut) × Unit) × ((List YNote) × Unit) × (YI)) := (T_i_ServerSend a0 a1 a2 a3).val
def B_l_eqByteS_4 (x1 : (List YB) × (List YB) × Int × Unit) : Option (((List YB) × (List YB) × Int × Unit) ⊕ ((Bool × Unit) ⊕ (Unit))) :=
  Tree.val (α := ((List YB) × (List YB) × Int × Unit) ⊕ ((Bool × Unit) ⊕ (Unit))) <|
  .br (decide (x1.2.2.1 < (x1.1.length : Int))) (
   .ob (idx x1.1 x1.2.2.1) fun e2 =>
   .ob (idx x1.2.1 x1.2.2.1) fun e3 =>
   .br (e2.1 != e3.1) (
    .leaf (.inr (.inl (false, ())))) (
    .leaf (.inl (x1.1, x1.2.1, (IntKind.i64.wrap (x1.2.2.1 + (1 : Int))), ())))) (
   .leaf (.inr (.inr ())))
def T_l_eqByteS (a0 : YBs) (a1 : YBs) : Tree ((Bool × Unit)) :=
  .br ((a0.1.length : Int) != (a1.1.length : Int)) (
   .leaf (false, ())) (
   .ob (iterO B_l_eqByteS_4 (a0.1, a1.1, (0 : Int), ())) fun o4 =>
   .sm o4 (fun o5 =>
    .leaf o5) (fun o6 =>
    .leaf (true, ())))
def V_l_eqByteS (a0 : YBs) (a1 : YBs) : Option ((Bool × Unit)) := (T_l_eqByteS a0 a1).val
def B_l_eqByteSS_4 (x1 : (List YBs) × (List YBs) × Int × Unit) : Option (((List YBs) × (List YBs) × Int × Unit) ⊕ ((Bool × Unit) ⊕ (Unit))) :=
  Tree.val (α := ((List YBs) × (List YBs) × Int × Unit) ⊕ ((Bool × Unit) ⊕ (Unit))) <|
  .br (decide (x1.2.2.1 < (x1.1.length : Int))) (
   .ob (idx x1.1 x1.2.2.1) fun e2 =>
   .ob (idx x1.2.1 x1.2.2.1) fun e3 =>
   .ob (V_l_eqByteS e2 e3) fun r4 =>
   .br (!r4.1) (
    .leaf (.inr (.inl (false, ())))) (
    .leaf (.inl (x1.1, x1.2.1, (IntKind.i64.wrap (x1.2.2.1 + (1 : Int))), ())))) (
   .leaf (.inr (.inr ())))
def T_l_eqByteSS (a0 : (List YBs) × Unit) (a1 : (List YBs) × Unit) : Tree ((Bool × Unit)) :=
  .br ((a0.1.length : Int) != (a1.1.length : Int)) (
   .leaf (false, ())) (
   .ob (iterO B_l_eqByteSS_4 (a0.1, a1.1, (0 : Int), ())) fun o5 =>
   .sm o5 (fun o6 =>
    .leaf o6) (fun o7 =>
    .leaf (true, ())))
def V_l_eqByteSS (a0 : (List YBs) × Unit) (a1 : (List YBs) × Unit) : Option ((Bool × Unit)) := (T_l_eqByteSS a0 a1).val
def T_l_eqJar (a0 : YBs) (a1 : YBs) : Tree ((Bool × Unit)) :=
  .ob (V_l_eqByteS a0 a1) fun r1 =>
  .br (!r1.1) (
   .leaf (false, ())) (
   .leaf (true, ()))
def V_l_eqJar (a0 : YBs) (a1 : YBs) : Option ((Bool × Unit)) := (T_l_eqJar a0 a1).val
def T_l_eqDice (a0 : YDice) (a1 : YDice) : Tree ((Bool × Unit)) :=
  .ob (V_l_eqByteS (a0.1, ()) (a1.1, ())) fun r1 =>
  .br (!r1.1) (
   .leaf (false, ())) (
   .br (a0.2.1 != a1.2.1) (
    .leaf (false, ())) (
    .leaf (true, ())))
def V_l_eqDice (a0 : YDice) (a1 : YDice) : Option ((Bool × Unit)) := (T_l_eqDice a0 a1).val
def B_l_eqIntS_4 (x1 : (List YI) × (List YI) × Int × Unit) : Option (((List YI) × (List YI) × Int × Unit) ⊕ ((Bool × Unit) ⊕ (Unit))) :=
  Tree.val (α := ((List YI) × (List YI) × Int × Unit) ⊕ ((Bool × Unit) ⊕ (Unit))) <|
  .br (decide (x1.2.2.1 < (x1.1.length : Int))) (
   .ob (idx x1.1 x1.2.2.1) fun e2 =>
   .ob (idx x1.2.1 x1.2.2.1) fun e3 =>
   .br (e2.1 != e3.1) (
    .leaf (.inr (.inl (false, ())))) (
    .leaf (.inl (x1.1, x1.2.1, (IntKind.i64.wrap (x1.2.2.1 + (1 : Int))), ())))) (
   .leaf (.inr (.inr ())))
def T_l_eqIntS (a0 : (List YI) × Unit) (a1 : (List YI) × Unit) : Tree ((Bool × Unit)) :=
  .br ((a0.1.length : Int) != (a1.1.length : Int)) (
   .leaf (false, ())) (
   .ob (iterO B_l_eqIntS_4 (a0.1, a1.1, (0 : Int), ())) fun o4 =>
   .sm o4 (fun o5 =>
    .leaf o5) (fun o6 =>
    .leaf (true, ())))
def V_l_eqIntS (a0 : (List YI) × Unit) (a1 : (List YI) × Unit) : Option ((Bool × Unit)) := (T_l_eqIntS a0 a1).val
def T_l_eqWin (a0 : YWin) (a1 : YWin) : Tree ((Bool × Unit)) :=
  .br (a0.1 != a1.1) (
   .leaf (false, ())) (
   .ob (V_l_eqIntS (a0.2.1, ()) (a1.2.1, ())) fun r1 =>
   .br (!r1.1) (
    .leaf (false, ())) (
    .leaf (true, ())))
def V_l_eqWin (a0 : YWin) (a1 : YWin) : Option ((Bool × Unit)) := (T_l_eqWin a0 a1).val
def T_l_eqEp (a0 : YEp) (a1 : YEp) : Tree ((Bool × Unit)) :=
  .br (a0.1 != a1.1) (
   .leaf (false, ())) (
   .ob (V_l_eqByteS (a0.2.1, ()) (a1.2.1, ())) fun r1 =>
   .br (!r1.1) (
    .leaf (false, ())) (
    .br (a0.2.2.1 != a1.2.2.1) (
     .leaf (false, ())) (
     .ob (V_l_eqWin (a0.2.2.2.1, a0.2.2.2.2.1, ()) (a1.2.2.2.1, a1.2.2.2.2.1, ())) fun r2 =>
     .br (!r2.1) (
      .leaf (false, ())) (
      .leaf (true, ())))))
def V_l_eqEp (a0 : YEp) (a1 : YEp) : Option ((Bool × Unit)) := (T_l_eqEp a0 a1).val
def T_l_eqChan (a0 : YChan) (a1 : YChan) : Tree ((Bool × Unit)) :=
  .br (a0.1 != a1.1) (
   .leaf (false, ())) (
   .ob (V_l_eqByteS (a0.2.1, ()) (a1.2.1, ())) fun r1 =>
   .br (!r1.1) (
    .leaf (false, ())) (
    .ob (V_l_eqEp (a0.2.2.1, a0.2.2.2.1, a0.2.2.2.2.1, a0.2.2.2.2.2.1, a0.2.2.2.2.2.2.1, ()) (a1.2.2.1, a1.2.2.2.1, a1.2.2.2.2.1, a1.2.2.2.2.2.1, a1.2.2.2.2.2.2.1, ())) fun r2 =>
    .br (!r2.1) (
     .leaf (false, ())) (
     .ob (V_l_eqEp (a0.2.2.2.2.2.2.2.1, a0.2.2.2.2.2.2.2.2.1, a0.2.2.2.2.2.2.2.2.2.1, a0.2.2.2.2.2.2.2.2.2.2.1, a0.2.2.2.2.2.2.2.2.2.2.2.1, ()) (a1.2.2.2.2.2.2.2.1, a1.2.2.2.2.2.2.2.2.1, a1.2.2.2.2.2.2.2.2.2.1, a1.2.2.2.2.2.2.2.2.2.2.1, a1.2.2.2.2.2.2.2.2.2.2.2.1, ())) fun r3 =>
     .br (!r3.1) (
      .leaf (false, ())) (
      .br (!(a0.2.2.2.2.2.2.2.2.2.2.2.2.1 == a1.2.2.2.2.2.2.2.2.2.2.2.2.1)) (
       .leaf (false, ())) (
       .br (a0.2.2.2.2.2.2.2.2.2.2.2.2.2.1 != a1.2.2.2.2.2.2.2.2.2.2.2.2.2.1) (
        .leaf (false, ())) (
        .ob (V_l_eqByteS (a0.2.2.2.2.2.2.2.2.2.2.2.2.2.2.1, ()) (a1.2.2.2.2.2.2.2.2.2.2.2.2.2.2.1, ())) fun r4 =>
        .br (!r4.1) (
         .leaf (false, ())) (
         .leaf (true, ()))))))))
def V_l_eqChan (a0 : YChan) (a1 : YChan) : Option ((Bool × Unit)) := (T_l_eqChan a0 a1).val
def T_l_eqAddr (a0 : YAddr) (a1 : YAddr) : Tree ((Bool × Unit)) :=
  .br (a0.1 != a1.1) (
   .leaf (false, ())) (
   .br (a0.2.1 != a1.2.1) (
    .leaf (false, ())) (
    .leaf (true, ())))
def V_l_eqAddr (a0 : YAddr) (a1 : YAddr) : Option ((Bool × Unit)) := (T_l_eqAddr a0 a1).val
def T_l_eqCand (a0 : YCand) (a1 : YCand) : Tree ((Bool × Unit)) :=
  .ob (V_l_eqAddr (a0.1, a0.2.1, ()) (a1.1, a1.2.1, ())) fun r1 =>
  .br (!r1.1) (
   .leaf (false, ())) (
   .ob (V_l_eqByteS (a0.2.2.1, ()) (a1.2.2.1, ())) fun r2 =>
   .br (!r2.1) (
    .leaf (false, ())) (
    .br (a0.2.2.2.1 != a1.2.2.2.1) (
     .leaf (false, ())) (
     .leaf (true, ()))))
def V_l_eqCand (a0 : YCand) (a1 : YCand) : Option ((Bool × Unit)) := (T_l_eqCand a0 a1).val
def B_l_eqCandS_4 (x1 : (List YCand) × (List YCand) × Int × Unit) : Option (((List YCand) × (List YCand) × Int × Unit) ⊕ ((Bool × Unit) ⊕ (Unit))) :=
  Tree.val (α := ((List YCand) × (List YCand) × Int × Unit) ⊕ ((Bool × Unit) ⊕ (Unit))) <|
  .br (decide (x1.2.2.1 < (x1.1.length : Int))) (
   .ob (idx x1.1 x1.2.2.1) fun e2 =>
   .ob (idx x1.2.1 x1.2.2.1) fun e3 =>
   .ob (V_l_eqCand e2 e3) fun r4 =>
   .br (!r4.1) (
    .leaf (.inr (.inl (false, ())))) (
    .leaf (.inl (x1.1, x1.2.1, (IntKind.i64.wrap (x1.2.2.1 + (1 : Int))), ())))) (
   .leaf (.inr (.inr ())))
def T_l_eqCandS (a0 : (List YCand) × Unit) (a1 : (List YCand) × Unit) : Tree ((Bool × Unit)) :=
  .br ((a0.1.length : Int) != (a1.1.length : Int)) (
   .leaf (false, ())) (
   .ob (iterO B_l_eqCandS_4 (a0.1, a1.1, (0 : Int), ())) fun o5 =>
   .sm o5 (fun o6 =>
    .leaf o6) (fun o7 =>
    .leaf (true, ())))
def V_l_eqCandS (a0 : (List YCand) × Unit) (a1 : (List YCand) × Unit) : Option ((Bool × Unit)) := (T_l_eqCandS a0 a1).val
def T_l_eqPaths (a0 : YPaths) (a1 : YPaths) : Tree ((Bool × Unit)) :=
  .ob (V_l_eqAddr (a0.1, a0.2.1, ()) (a1.1, a1.2.1, ())) fun r1 =>
  .br (!r1.1) (
   .leaf (false, ())) (
   .ob (V_l_eqCandS (a0.2.2.1, ()) (a1.2.2.1, ())) fun r2 =>
   .br (!r2.1) (
    .leaf (false, ())) (
    .leaf (true, ())))
def V_l_eqPaths (a0 : YPaths) (a1 : YPaths) : Option ((Bool × Unit)) := (T_l_eqPaths a0 a1).val
def T_l_eqSess (a0 : YSess) (a1 : YSess) : Tree ((Bool × Unit)) :=
  .br (a0.1 != a1.1) (
   .leaf (false, ())) (
   .ob (V_l_eqByteS (a0.2.1, ()) (a1.2.1, ())) fun r1 =>
   .br (!r1.1) (
    .leaf (false, ())) (
    .ob (V_l_eqByteS (a0.2.2.1, ()) (a1.2.2.1, ())) fun r2 =>
    .br (!r2.1) (
     .leaf (false, ())) (
     .ob (V_l_eqChan (a0.2.2.2.1, a0.2.2.2.2.1, a0.2.2.2.2.2.1, a0.2.2.2.2.2.2.1, a0.2.2.2.2.2.2.2.1, a0.2.2.2.2.2.2.2.2.1, a0.2.2.2.2.2.2.2.2.2.1, a0.2.2.2.2.2.2.2.2.2.2.1, a0.2.2.2.2.2.2.2.2.2.2.2.1, a0.2.2.2.2.2.2.2.2.2.2.2.2.1, a0.2.2.2.2.2.2.2.2.2.2.2.2.2.1, a0.2.2.2.2.2.2.2.2.2.2.2.2.2.2.1, a0.2.2.2.2.2.2.2.2.2.2.2.2.2.2.2.1, a0.2.2.2.2.2.2.2.2.2.2.2.2.2.2.2.2.1, a0.2.2.2.2.2.2.2.2.2.2.2.2.2.2.2.2.2.1, ()) (a1.2.2.2.1, a1.2.2.2.2.1, a1.2.2.2.2.2.1, a1.2.2.2.2.2.2.1, a1.2.2.2.2.2.2.2.1, a1.2.2.2.2.2.2.2.2.1, a1.2.2.2.2.2.2.2.2.2.1, a1.2.2.2.2.2.2.2.2.2.2.1, a1.2.2.2.2.2.2.2.2.2.2.2.1, a1.2.2.2.2.2.2.2.2.2.2.2.2.1, a1.2.2.2.2.2.2.2.2.2.2.2.2.2.1, a1.2.2.2.2.2.2.2.2.2.2.2.2.2.2.1, a1.2.2.2.2.2.2.2.2.2.2.2.2.2.2.2.1, a1.2.2.2.2.2.2.2.2.2.2.2.2.2.2.2.2.1, a1.2.2.2.2.2.2.2.2.2.2.2.2.2.2.2.2.2.1, ())) fun r3 =>
     .br (!r3.1) (
      .leaf (false, ())) (
      .ob (V_l_eqPaths (a0.2.2.2.2.2.2.2.2.2.2.2.2.2.2.2.2.2.2.1, a0.2.2.2.2.2.2.2.2.2.2.2.2.2.2.2.2.2.2.2.1, a0.2.2.2.2.2.2.2.2.2.2.2.2.2.2.2.2.2.2.2.2.1, ()) (a1.2.2.2.2.2.2.2.2.2.2.2.2.2.2.2.2.2.2.1, a1.2.2.2.2.2.2.2.2.2.2.2.2.2.2.2.2.2.2.2.1, a1.2.2.2.2.2.2.2.2.2.2.2.2.2.2.2.2.2.2.2.2.1, ())) fun r4 =>
      .br (!r4.1) (
       .leaf (false, ())) (
       .br (a0.2.2.2.2.2.2.2.2.2.2.2.2.2.2.2.2.2.2.2.2.2.1 != a1.2.2.2.2.2.2.2.2.2.2.2.2.2.2.2.2.2.2.2.2.2.1) (
        .leaf (false, ())) (
        .br (a0.2.2.2.2.2.2.2.2.2.2.2.2.2.2.2.2.2.2.2.2.2.2.1 != a1.2.2.2.2.2.2.2.2.2.2.2.2.2.2.2.2.2.2.2.2.2.2.1) (
         .leaf (false, ())) (
         .br (!(a0.2.2.2.2.2.2.2.2.2.2.2.2.2.2.2.2.2.2.2.2.2.2.2.1 == a1.2.2.2.2.2.2.2.2.2.2.2.2.2.2.2.2.2.2.2.2.2.2.2.1)) (
          .leaf (false, ())) (
          .leaf (true, ())))))))))
def V_l_eqSess (a0 : YSess) (a1 : YSess) : Option ((Bool × Unit)) := (T_l_eqSess a0 a1).val
def B_l_eqSessS_4 (x1 : (List YSess) × (List YSess) × Int × Unit) : Option (((List YSess) × (List YSess) × Int × Unit) ⊕ ((Bool × Unit) ⊕ (Unit))) :=
  Tree.val (α := ((List YSess) × (List YSess) × Int × Unit) ⊕ ((Bool × Unit) ⊕ (Unit))) <|
  .br (decide (x1.2.2.1 < (x1.1.length : Int))) (
   .ob (idx x1.1 x1.2.2.1) fun e2 =>
   .ob (idx x1.2.1 x1.2.2.1) fun e3 =>
   .ob (V_l_eqSess e2 e3) fun r4 =>
   .br (!r4.1) (
    .leaf (.inr (.inl (false, ())))) (
    .leaf (.inl (x1.1, x1.2.1, (IntKind.i64.wrap (x1.2.2.1 + (1 : Int))), ())))) (
   .leaf (.inr (.inr ())))
def T_l_eqSessS (a0 : (List YSess) × Unit) (a1 : (List YSess) × Unit) : Tree ((Bool × Unit)) :=
  .br ((a0.1.length : Int) != (a1.1.length : Int)) (
   .leaf (false, ())) (
   .ob (iterO B_l_eqSessS_4 (a0.1, a1.1, (0 : Int), ())) fun o5 =>
   .sm o5 (fun o6 =>
    .leaf o6) (fun o7 =>
    .leaf (true, ())))
def V_l_eqSessS (a0 : (List YSess) × Unit) (a1 : (List YSess) × Unit) : Option ((Bool × Unit)) := (T_l_eqSessS a0 a1).val
def T_l_eqTab (a0 : YTab) (a1 : YTab) : Tree ((Bool × Unit)) :=
  .br (a0.1 != a1.1) (
   .leaf (false, ())) (
   .ob (V_l_eqSessS (a0.2.1, ()) (a1.2.1, ())) fun r1 =>
   .br (!r1.1) (
    .leaf (false, ())) (
    .leaf (true, ())))
def V_l_eqTab (a0 : YTab) (a1 : YTab) : Option ((Bool × Unit)) := (T_l_eqTab a0 a1).val
def T_l_eqCredit (a0 : YCredit) (a1 : YCredit) : Tree ((Bool × Unit)) :=
  .ob (V_l_eqAddr (a0.1, a0.2.1, ()) (a1.1, a1.2.1, ())) fun r1 =>
  .br (!r1.1) (
   .leaf (false, ())) (
   .br (a0.2.2.1 != a1.2.2.1) (
    .leaf (false, ())) (
    .br (a0.2.2.2.1 != a1.2.2.2.1) (
     .leaf (false, ())) (
     .leaf (true, ()))))
def V_l_eqCredit (a0 : YCredit) (a1 : YCredit) : Option ((Bool × Unit)) := (T_l_eqCredit a0 a1).val
def B_l_eqCreditS_4 (x1 : (List YCredit) × (List YCredit) × Int × Unit) : Option (((List YCredit) × (List YCredit) × Int × Unit) ⊕ ((Bool × Unit) ⊕ (Unit))) :=
  Tree.val (α := ((List YCredit) × (List YCredit) × Int × Unit) ⊕ ((Bool × Unit) ⊕ (Unit))) <|
  .br (decide (x1.2.2.1 < (x1.1.length : Int))) (
   .ob (idx x1.1 x1.2.2.1) fun e2 =>
   .ob (idx x1.2.1 x1.2.2.1) fun e3 =>
   .ob (V_l_eqCredit e2 e3) fun r4 =>
   .br (!r4.1) (
    .leaf (.inr (.inl (false, ())))) (
    .leaf (.inl (x1.1, x1.2.1, (IntKind.i64.wrap (x1.2.2.1 + (1 : Int))), ())))) (
   .leaf (.inr (.inr ())))
def T_l_eqCreditS (a0 : (List YCredit) × Unit) (a1 : (List YCredit) × Unit) : Tree ((Bool × Unit)) :=
  .br ((a0.1.length : Int) != (a1.1.length : Int)) (
   .leaf (false, ())) (
   .ob (iterO B_l_eqCreditS_4 (a0.1, a1.1, (0 : Int), ())) fun o5 =>
   .sm o5 (fun o6 =>
    .leaf o6) (fun o7 =>
    .leaf (true, ())))
def V_l_eqCreditS (a0 : (List YCredit) × Unit) (a1 : (List YCredit) × Unit) : Option ((Bool × Unit)) := (T_l_eqCreditS a0 a1).val
def T_l_eqServer (a0 : YServer) (a1 : YServer) : Tree ((Bool × Unit)) :=
  .ob (V_l_eqByteSS (a0.1, ()) (a1.1, ())) fun r1 =>
  .br (!r1.1) (
   .leaf (false, ())) (
   .ob (V_l_eqJar (a0.2.1, ()) (a1.2.1, ())) fun r2 =>
   .br (!r2.1) (
    .leaf (false, ())) (
    .ob (V_l_eqDice (a0.2.2.1, a0.2.2.2.1, ()) (a1.2.2.1, a1.2.2.2.1, ())) fun r3 =>
    .br (!r3.1) (
     .leaf (false, ())) (
     .ob (V_l_eqTab (a0.2.2.2.2.1, a0.2.2.2.2.2.1, ()) (a1.2.2.2.2.1, a1.2.2.2.2.2.1, ())) fun r4 =>
     .br (!r4.1) (
      .leaf (false, ())) (
      .ob (V_l_eqCreditS (a0.2.2.2.2.2.2.1, ()) (a1.2.2.2.2.2.2.1, ())) fun r5 =>
      .br (!r5.1) (
       .leaf (false, ())) (
       .leaf (true, ()))))))
def V_l_eqServer (a0 : YServer) (a1 : YServer) : Option ((Bool × Unit)) := (T_l_eqServer a0 a1).val
def T_l_eqFrame (a0 : YFrame) (a1 : YFrame) : Tree ((Bool × Unit)) :=
  .br (a0.1 != a1.1) (
   .leaf (false, ())) (
   .br (a0.2.1 != a1.2.1) (
    .leaf (false, ())) (
    .ob (V_l_eqByteS (a0.2.2.1, ()) (a1.2.2.1, ())) fun r1 =>
    .br (!r1.1) (
     .leaf (false, ())) (
     .ob (V_l_eqByteS (a0.2.2.2.1, ()) (a1.2.2.2.1, ())) fun r2 =>
     .br (!r2.1) (
      .leaf (false, ())) (
      .br (a0.2.2.2.2.1 != a1.2.2.2.2.1) (
       .leaf (false, ())) (
       .ob (V_l_eqByteS (a0.2.2.2.2.2.1, ()) (a1.2.2.2.2.2.1, ())) fun r3 =>
       .br (!r3.1) (
        .leaf (false, ())) (
        .ob (V_l_eqByteS (a0.2.2.2.2.2.2.1, ()) (a1.2.2.2.2.2.2.1, ())) fun r4 =>
        .br (!r4.1) (
         .leaf (false, ())) (
         .br (a0.2.2.2.2.2.2.2.1 != a1.2.2.2.2.2.2.2.1) (
          .leaf (false, ())) (
          .br (a0.2.2.2.2.2.2.2.2.1 != a1.2.2.2.2.2.2.2.2.1) (
           .leaf (false, ())) (
           .ob (V_l_eqByteS (a0.2.2.2.2.2.2.2.2.2.1, ()) (a1.2.2.2.2.2.2.2.2.2.1, ())) fun r5 =>
           .br (!r5.1) (
            .leaf (false, ())) (
            .ob (V_l_eqByteS (a0.2.2.2.2.2.2.2.2.2.2.1, ()) (a1.2.2.2.2.2.2.2.2.2.2.1, ())) fun r6 =>
            .br (!r6.1) (
             .leaf (false, ())) (
             .leaf (true, ()))))))))))))
def V_l_eqFrame (a0 : YFrame) (a1 : YFrame) : Option ((Bool × Unit)) := (T_l_eqFrame a0 a1).val
def T_l_eqOut (a0 : YOut) (a1 : YOut) : Tree ((Bool × Unit)) :=
  .ob (V_l_eqAddr (a0.1, a0.2.1, ()) (a1.1, a1.2.1, ())) fun r1 =>
  .br (!r1.1) (
   .leaf (false, ())) (
   .ob (V_l_eqFrame (a0.2.2.1, a0.2.2.2.1, a0.2.2.2.2.1, a0.2.2.2.2.2.1, a0.2.2.2.2.2.2.1, a0.2.2.2.2.2.2.2.1, a0.2.2.2.2.2.2.2.2.1, a0.2.2.2.2.2.2.2.2.2.1, a0.2.2.2.2.2.2.2.2.2.2.1, a0.2.2.2.2.2.2.2.2.2.2.2.1, a0.2.2.2.2.2.2.2.2.2.2.2.2.1, ()) (a1.2.2.1, a1.2.2.2.1, a1.2.2.2.2.1, a1.2.2.2.2.2.1, a1.2.2.2.2.2.2.1, a1.2.2.2.2.2.2.2.1, a1.2.2.2.2.2.2.2.2.1, a1.2.2.2.2.2.2.2.2.2.1, a1.2.2.2.2.2.2.2.2.2.2.1, a1.2.2.2.2.2.2.2.2.2.2.2.1, a1.2.2.2.2.2.2.2.2.2.2.2.2.1, ())) fun r2 =>
   .br (!r2.1) (
    .leaf (false, ())) (
    .leaf (true, ())))
def V_l_eqOut (a0 : YOut) (a1 : YOut) : Option ((Bool × Unit)) := (T_l_eqOut a0 a1).val
def B_l_eqOutS_4 (x1 : (List YOut) × (List YOut) × Int × Unit) : Option (((List YOut) × (List YOut) × Int × Unit) ⊕ ((Bool × Unit) ⊕ (Unit))) :=
  Tree.val (α := ((List YOut) × (List YOut) × Int × Unit) ⊕ ((Bool × Unit) ⊕ (Unit))) <|
  .br (decide (x1.2.2.1 < (x1.1.length : Int))) (
   .ob (idx x1.1 x1.2.2.1) fun e2 =>
   .ob (idx x1.2.1 x1.2.2.1) fun e3 =>
   .ob (V_l_eqOut e2 e3) fun r4 =>
   .br (!r4.1) (
    .leaf (.inr (.inl (false, ())))) (
    .leaf (.inl (x1.1, x1.2.1, (IntKind.i64.wrap (x1.2.2.1 + (1 : Int))), ())))) (
   .leaf (.inr (.inr ())))
def T_l_eqOutS (a0 : (List YOut) × Unit) (a1 : (List YOut) × Unit) : Tree ((Bool × Unit)) :=
  .br ((a0.1.length : Int) != (a1.1.length : Int)) (
   .leaf (false, ())) (
   .ob (iterO B_l_eqOutS_4 (a0.1, a1.1, (0 : Int), ())) fun o5 =>
   .sm o5 (fun o6 =>
    .leaf o6) (fun o7 =>
    .leaf (true, ())))
def V_l_eqOutS (a0 : (List YOut) × Unit) (a1 : (List YOut) × Unit) : Option ((Bool × Unit)) := (T_l_eqOutS a0 a1).val
def T_l_eqNote (a0 : YNote) (a1 : YNote) : Tree ((Bool × Unit)) :=
  .br (a0.1 != a1.1) (
   .leaf (false, ())) (
   .br (a0.2.1 != a1.2.1) (
    .leaf (false, ())) (
    .br (a0.2.2.1 != a1.2.2.1) (
     .leaf (false, ())) (
     .ob (V_l_eqByteS (a0.2.2.2.1, ()) (a1.2.2.2.1, ())) fun r1 =>
     .br (!r1.1) (
      .leaf (false, ())) (
      .ob (V_l_eqByteS (a0.2.2.2.2.1, ()) (a1.2.2.2.2.1, ())) fun r2 =>
      .br (!r2.1) (
       .leaf (false, ())) (
       .br (a0.2.2.2.2.2.1 != a1.2.2.2.2.2.1) (
        .leaf (false, ())) (
        .br (a0.2.2.2.2.2.2.1 != a1.2.2.2.2.2.2.1) (
         .leaf (false, ())) (
         .ob (V_l_eqByteS (a0.2.2.2.2.2.2.2.1, ()) (a1.2.2.2.2.2.2.2.1, ())) fun r3 =>
         .br (!r3.1) (
          .leaf (false, ())) (
          .ob (V_l_eqByteS (a0.2.2.2.2.2.2.2.2.1, ()) (a1.2.2.2.2.2.2.2.2.1, ())) fun r4 =>
          .br (!r4.1) (
           .leaf (false, ())) (
           .ob (V_l_eqAddr (a0.2.2.2.2.2.2.2.2.2.1, a0.2.2.2.2.2.2.2.2.2.2.1, ()) (a1.2.2.2.2.2.2.2.2.2.1, a1.2.2.2.2.2.2.2.2.2.2.1, ())) fun r5 =>
           .br (!r5.1) (
            .leaf (false, ())) (
            .br (a0.2.2.2.2.2.2.2.2.2.2.2.1 != a1.2.2.2.2.2.2.2.2.2.2.2.1) (
             .leaf (false, ())) (
             .leaf (true, ()))))))))))))
def V_l_eqNote (a0 : YNote) (a1 : YNote) : Option ((Bool × Unit)) := (T_l_eqNote a0 a1).val
def B_l_eqNoteS_4 (x1 : (List YNote) × (List YNote) × Int × Unit) : Option (((List YNote) × (List YNote) × Int × Unit) ⊕ ((Bool × Unit) ⊕ (Unit))) :=
  Tree.val (α := ((List YNote) × (List YNote) × Int × Unit) ⊕ ((Bool × Unit) ⊕ (Unit))) <|
  .br (decide (x1.2.2.1 < (x1.1.length : Int))) (
   .ob (idx x1.1 x1.2.2.1) fun e2 =>
   .ob (idx x1.2.1 x1.2.2.1) fun e3 =>
   .ob (V_l_eqNote e2 e3) fun r4 =>
   .br (!r4.1) (
    .leaf (.inr (.inl (false, ())))) (
    .leaf (.inl (x1.1, x1.2.1, (IntKind.i64.wrap (x1.2.2.1 + (1 : Int))), ())))) (
   .leaf (.inr (.inr ())))
def T_l_eqNoteS (a0 : (List YNote) × Unit) (a1 : (List YNote) × Unit) : Tree ((Bool × Unit)) :=
  .br ((a0.1.length : Int) != (a1.1.length : Int)) (
   .leaf (false, ())) (
   .ob (iterO B_l_eqNoteS_4 (a0.1, a1.1, (0 : Int), ())) fun o5 =>
   .sm o5 (fun o6 =>
    .leaf o6) (fun o7 =>
    .leaf (true, ())))
def V_l_eqNoteS (a0 : (List YNote) × Unit) (a1 : (List YNote) × Unit) : Option ((Bool × Unit)) := (T_l_eqNoteS a0 a1).val
def B_l_markByteS_2 (x1 : (List YB) × Int × Int × Unit) : Option (((List YB) × Int × Int × Unit) ⊕ ((YDice))) :=
  Tree.val (α := ((List YB) × Int × Int × Unit) ⊕ ((YDice))) <|
  .br (decide (x1.2.2.1 < (x1.1.length : Int))) (
   .ob (idx x1.1 x1.2.2.1) fun e2 =>
   let q3 := (x1.1.set (x1.2.2.1).toNat ((IntKind.u8.wrap (x1.2.1)), ()))
   .leaf (.inl (q3, (IntKind.i64.wrap (x1.2.1 + (1 : Int))), (IntKind.i64.wrap (x1.2.2.1 + (1 : Int))), ()))) (
   .leaf (.inr (x1.1, x1.2.1, ())))
def T_l_markByteS (a0 : YBs) (a1 : YI) : Tree ((YI) × (YBs)) :=
  .ob (iterO B_l_markByteS_2 (a0.1, a1.1, (0 : Int), ())) fun o4 =>
  .leaf ((o4.2.1, ()), (o4.1, ()))
def V_l_markByteS (a0 : YBs) (a1 : YI) : Option ((YI) × (YBs)) := (T_l_markByteS a0 a1).val
def B_l_markByteSS_2 (x1 : (List YBs) × Int × Int × Unit) : Option (((List YBs) × Int × Int × Unit) ⊕ (((List YBs) × Int × Unit))) :=
  Tree.val (α := ((List YBs) × Int × Int × Unit) ⊕ (((List YBs) × Int × Unit))) <|
  .br (decide (x1.2.2.1 < (x1.1.length : Int))) (
   .ob (idx x1.1 x1.2.2.1) fun e2 =>
   .ob (V_l_markByteS e2 (x1.2.1, ())) fun r3 =>
   let q4 := (x1.1.set (x1.2.2.1).toNat r3.2)
   .leaf (.inl (q4, r3.1.1, (IntKind.i64.wrap (x1.2.2.1 + (1 : Int))), ()))) (
   .leaf (.inr (x1.1, x1.2.1, ())))
def T_l_markByteSS (a0 : (List YBs) × Unit) (a1 : YI) : Tree ((YI) × ((List YBs) × Unit)) :=
  .ob (iterO B_l_markByteSS_2 (a0.1, a1.1, (0 : Int), ())) fun o5 =>
  .leaf ((o5.2.1, ()), (o5.1, ()))
def V_l_markByteSS (a0 : (List YBs) × Unit) (a1 : YI) : Option ((YI) × ((List YBs) × Unit)) := (T_l_markByteSS a0 a1).val
def T_l_markJar (a0 : YBs) (a1 : YI) : Tree ((YI) × (YBs)) :=
  .ob (V_l_markByteS a0 a1) fun r1 =>
  .leaf (r1.1, r1.2)
def V_l_markJar (a0 : YBs) (a1 : YI) : Option ((YI) × (YBs)) := (T_l_markJar a0 a1).val
def T_l_markDice (a0 : YDice) (a1 : YI) : Tree ((YI) × (YDice)) :=
  .ob (V_l_markByteS (a0.1, ()) a1) fun r1 =>
  .leaf (r1.1, (r1.2.1, a0.2.1, ()))
def V_l_markDice (a0 : YDice) (a1 : YI) : Option ((YI) × (YDice)) := (T_l_markDice a0 a1).val
def B_l_markIntS_2 (x1 : (List YI) × Int × Int × Unit) : Option (((List YI) × Int × Int × Unit) ⊕ (((List YI) × Int × Unit))) :=
  Tree.val (α := ((List YI) × Int × Int × Unit) ⊕ (((List YI) × Int × Unit))) <|
  .br (decide (x1.2.2.1 < (x1.1.length : Int))) (
   .ob (idx x1.1 x1.2.2.1) fun e2 =>
   let q3 := (x1.1.set (x1.2.2.1).toNat (x1.2.1, ()))
   .leaf (.inl (q3, (IntKind.i64.wrap (x1.2.1 + (1 : Int))), (IntKind.i64.wrap (x1.2.2.1 + (1 : Int))), ()))) (
   .leaf (.inr (x1.1, x1.2.1, ())))
def T_l_markIntS (a0 : (List YI) × Unit) (a1 : YI) : Tree ((YI) × ((List YI) × Unit)) :=
  .ob (iterO B_l_markIntS_2 (a0.1, a1.1, (0 : Int), ())) fun o4 =>
  .leaf ((o4.2.1, ()), (o4.1, ()))
def V_l_markIntS (a0 : (List YI) × Unit) (a1 : YI) : Option ((YI) × ((List YI) × Unit)) := (T_l_markIntS a0 a1).val
def B_l_markCandS_2 (x1 : (List YCand) × Int × Int × Unit) : Option (((List YCand) × Int × Int × Unit) ⊕ (((List YCand) × Int × Unit))) :=
  Tree.val (α := ((List YCand) × Int × Int × Unit) ⊕ (((List YCand) × Int × Unit))) <|
  .br (decide (x1.2.2.1 < (x1.1.length : Int))) (
   .ob (idx x1.1 x1.2.2.1) fun e2 =>
   let q3 := (x1.1.set (x1.2.2.1).toNat (x1.2.1, e2.2.1, e2.2.2.1, e2.2.2.2.1, ()))
   .ob (idx q3 x1.2.2.1) fun e4 =>
   let q5 := (q3.set (x1.2.2.1).toNat (e4.1, (IntKind.i64.wrap (x1.2.1 + (1 : Int))), e4.2.2.1, e4.2.2.2.1, ()))
   .ob (idx q5 x1.2.2.1) fun e6 =>
   .ob (V_l_markByteS (e6.2.2.1, ()) ((IntKind.i64.wrap ((IntKind.i64.wrap (x1.2.1 + (1 : Int))) + (1 : Int))), ())) fun r7 =>
   let q8 := (q5.set (x1.2.2.1).toNat (e6.1, e6.2.1, r7.2.1, e6.2.2.2.1, ()))
   .ob (idx q8 x1.2.2.1) fun e9 =>
   let q10 := (q8.set (x1.2.2.1).toNat (e9.1, e9.2.1, e9.2.2.1, r7.1.1, ()))
   .leaf (.inl (q10, (IntKind.i64.wrap (r7.1.1 + (1 : Int))), (IntKind.i64.wrap (x1.2.2.1 + (1 : Int))), ()))) (
   .leaf (.inr (x1.1, x1.2.1, ())))
def T_l_markCandS (a0 : (List YCand) × Unit) (a1 : YI) : Tree ((YI) × ((List YCand) × Unit)) :=
  .ob (iterO B_l_markCandS_2 (a0.1, a1.1, (0 : Int), ())) fun o11 =>
  .leaf ((o11.2.1, ()), (o11.1, ()))
def V_l_markCandS (a0 : (List YCand) × Unit) (a1 : YI) : Option ((YI) × ((List YCand) × Unit)) := (T_l_markCandS a0 a1).val
def B_l_markSessS_2 (x1 : (List YSess) × Int × Int × Unit) : Option (((List YSess) × Int × Int × Unit) ⊕ (((List YSess) × Int × Unit))) :=
  Tree.val (α := ((List YSess) × Int × Int × Unit) ⊕ (((List YSess) × Int × Unit))) <|
  .br (decide (x1.2.2.1 < (x1.1.length : Int))) (
   .ob (idx x1.1 x1.2.2.1) fun e2 =>
   let q3 := (x1.1.set (x1.2.2.1).toNat (x1.2.1, e2.2.1, e2.2.2.1, e2.2.2.2.1, e2.2.2.2.2.1, e2.2.2.2.2.2.1, e2.2.2.2.2.2.2.1, e2.2.2.2.2.2.2.2.1, e2.2.2.2.2.2.2.2.2.1, e2.2.2.2.2.2.2.2.2.2.1, e2.2.2.2.2.2.2.2.2.2.2.1, e2.2.2.2.2.2.2.2.2.2.2.2.1, e2.2.2.2.2.2.2.2.2.2.2.2.2.1, e2.2.2.2.2.2.2.2.2.2.2.2.2.2.1, e2.2.2.2.2.2.2.2.2.2.2.2.2.2.2.1, e2.2.2.2.2.2.2.2.2.2.2.2.2.2.2.2.1, e2.2.2.2.2.2.2.2.2.2.2.2.2.2.2.2.2.1, e2.2.2.2.2.2.2.2.2.2.2.2.2.2.2.2.2.2.1, e2.2.2.2.2.2.2.2.2.2.2.2.2.2.2.2.2.2.2.1, e2.2.2.2.2.2.2.2.2.2.2.2.2.2.2.2.2.2.2.2.1, e2.2.2.2.2.2.2.2.2.2.2.2.2.2.2.2.2.2.2.2.2.1, e2.2.2.2.2.2.2.2.2.2.2.2.2.2.2.2.2.2.2.2.2.2.1, e2.2.2.2.2.2.2.2.2.2.2.2.2.2.2.2.2.2.2.2.2.2.2.1, e2.2.2.2.2.2.2.2.2.2.2.2.2.2.2.2.2.2.2.2.2.2.2.2.1, ()))
   .ob (idx q3 x1.2.2.1) fun e4 =>
   .ob (V_l_markByteS (e4.2.1, ()) ((IntKind.i64.wrap (x1.2.1 + (1 : Int))), ())) fun r5 =>
   let q6 := (q3.set (x1.2.2.1).toNat (e4.1, r5.2.1, e4.2.2.1, e4.2.2.2.1, e4.2.2.2.2.1, e4.2.2.2.2.2.1, e4.2.2.2.2.2.2.1, e4.2.2.2.2.2.2.2.1, e4.2.2.2.2.2.2.2.2.1, e4.2.2.2.2.2.2.2.2.2.1, e4.2.2.2.2.2.2.2.2.2.2.1, e4.2.2.2.2.2.2.2.2.2.2.2.1, e4.2.2.2.2.2.2.2.2.2.2.2.2.1, e4.2.2.2.2.2.2.2.2.2.2.2.2.2.1, e4.2.2.2.2.2.2.2.2.2.2.2.2.2.2.1, e4.2.2.2.2.2.2.2.2.2.2.2.2.2.2.2.1, e4.2.2.2.2.2.2.2.2.2.2.2.2.2.2.2.2.1, e4.2.2.2.2.2.2.2.2.2.2.2.2.2.2.2.2.2.1, e4.2.2.2.2.2.2.2.2.2.2.2.2.2.2.2.2.2.2.1, e4.2.2.2.2.2.2.2.2.2.2.2.2.2.2.2.2.2.2.2.1, e4.2.2.2.2.2.2.2.2.2.2.2.2.2.2.2.2.2.2.2.2.1, e4.2.2.2.2.2.2.2.2.2.2.2.2.2.2.2.2.2.2.2.2.2.1, e4.2.2.2.2.2.2.2.2.2.2.2.2.2.2.2.2.2.2.2.2.2.2.1, e4.2.2.2.2.2.2.2.2.2.2.2.2.2.2.2.2.2.2.2.2.2.2.2.1, ()))
   .ob (idx q6 x1.2.2.1) fun e7 =>
   .ob (V_l_markByteS (e7.2.2.1, ()) r5.1) fun r8 =>
   let q9 := (q6.set (x1.2.2.1).toNat (e7.1, e7.2.1, r8.2.1, e7.2.2.2.1, e7.2.2.2.2.1, e7.2.2.2.2.2.1, e7.2.2.2.2.2.2.1, e7.2.2.2.2.2.2.2.1, e7.2.2.2.2.2.2.2.2.1, e7.2.2.2.2.2.2.2.2.2.1, e7.2.2.2.2.2.2.2.2.2.2.1, e7.2.2.2.2.2.2.2.2.2.2.2.1, e7.2.2.2.2.2.2.2.2.2.2.2.2.1, e7.2.2.2.2.2.2.2.2.2.2.2.2.2.1, e7.2.2.2.2.2.2.2.2.2.2.2.2.2.2.1, e7.2.2.2.2.2.2.2.2.2.2.2.2.2.2.2.1, e7.2.2.2.2.2.2.2.2.2.2.2.2.2.2.2.2.1, e7.2.2.2.2.2.2.2.2.2.2.2.2.2.2.2.2.2.1, e7.2.2.2.2.2.2.2.2.2.2.2.2.2.2.2.2.2.2.1, e7.2.2.2.2.2.2.2.2.2.2.2.2.2.2.2.2.2.2.2.1, e7.2.2.2.2.2.2.2.2.2.2.2.2.2.2.2.2.2.2.2.2.1, e7.2.2.2.2.2.2.2.2.2.2.2.2.2.2.2.2.2.2.2.2.2.1, e7.2.2.2.2.2.2.2.2.2.2.2.2.2.2.2.2.2.2.2.2.2.2.1, e7.2.2.2.2.2.2.2.2.2.2.2.2.2.2.2.2.2.2.2.2.2.2.2.1, ()))
   .ob (idx q9 x1.2.2.1) fun e10 =>
   let q11 := (q9.set (x1.2.2.1).toNat (e10.1, e10.2.1, e10.2.2.1, r8.1.1, e10.2.2.2.2.1, e10.2.2.2.2.2.1, e10.2.2.2.2.2.2.1, e10.2.2.2.2.2.2.2.1, e10.2.2.2.2.2.2.2.2.1, e10.2.2.2.2.2.2.2.2.2.1, e10.2.2.2.2.2.2.2.2.2.2.1, e10.2.2.2.2.2.2.2.2.2.2.2.1, e10.2.2.2.2.2.2.2.2.2.2.2.2.1, e10.2.2.2.2.2.2.2.2.2.2.2.2.2.1, e10.2.2.2.2.2.2.2.2.2.2.2.2.2.2.1, e10.2.2.2.2.2.2.2.2.2.2.2.2.2.2.2.1, e10.2.2.2.2.2.2.2.2.2.2.2.2.2.2.2.2.1, e10.2.2.2.2.2.2.2.2.2.2.2.2.2.2.2.2.2.1, e10.2.2.2.2.2.2.2.2.2.2.2.2.2.2.2.2.2.2.1, e10.2.2.2.2.2.2.2.2.2.2.2.2.2.2.2.2.2.2.2.1, e10.2.2.2.2.2.2.2.2.2.2.2.2.2.2.2.2.2.2.2.2.1, e10.2.2.2.2.2.2.2.2.2.2.2.2.2.2.2.2.2.2.2.2.2.1, e10.2.2.2.2.2.2.2.2.2.2.2.2.2.2.2.2.2.2.2.2.2.2.1, e10.2.2.2.2.2.2.2.2.2.2.2.2.2.2.2.2.2.2.2.2.2.2.2.1, ()))
   .ob (idx q11 x1.2.2.1) fun e12 =>
   .ob (V_l_markByteS (e12.2.2.2.2.1, ()) ((IntKind.i64.wrap (r8.1.1 + (1 : Int))), ())) fun r13 =>
   let q14 := (q11.set (x1.2.2.1).toNat (e12.1, e12.2.1, e12.2.2.1, e12.2.2.2.1, r13.2.1, e12.2.2.2.2.2.1, e12.2.2.2.2.2.2.1, e12.2.2.2.2.2.2.2.1, e12.2.2.2.2.2.2.2.2.1, e12.2.2.2.2.2.2.2.2.2.1, e12.2.2.2.2.2.2.2.2.2.2.1, e12.2.2.2.2.2.2.2.2.2.2.2.1, e12.2.2.2.2.2.2.2.2.2.2.2.2.1, e12.2.2.2.2.2.2.2.2.2.2.2.2.2.1, e12.2.2.2.2.2.2.2.2.2.2.2.2.2.2.1, e12.2.2.2.2.2.2.2.2.2.2.2.2.2.2.2.1, e12.2.2.2.2.2.2.2.2.2.2.2.2.2.2.2.2.1, e12.2.2.2.2.2.2.2.2.2.2.2.2.2.2.2.2.2.1, e12.2.2.2.2.2.2.2.2.2.2.2.2.2.2.2.2.2.2.1, e12.2.2.2.2.2.2.2.2.2.2.2.2.2.2.2.2.2.2.2.1, e12.2.2.2.2.2.2.2.2.2.2.2.2.2.2.2.2.2.2.2.2.1, e12.2.2.2.2.2.2.2.2.2.2.2.2.2.2.2.2.2.2.2.2.2.1, e12.2.2.2.2.2.2.2.2.2.2.2.2.2.2.2.2.2.2.2.2.2.2.1, e12.2.2.2.2.2.2.2.2.2.2.2.2.2.2.2.2.2.2.2.2.2.2.2.1, ()))
   .ob (idx q14 x1.2.2.1) fun e15 =>
   let q16 := (q14.set (x1.2.2.1).toNat (e15.1, e15.2.1, e15.2.2.1, e15.2.2.2.1, e15.2.2.2.2.1, r13.1.1, e15.2.2.2.2.2.2.1, e15.2.2.2.2.2.2.2.1, e15.2.2.2.2.2.2.2.2.1, e15.2.2.2.2.2.2.2.2.2.1, e15.2.2.2.2.2.2.2.2.2.2.1, e15.2.2.2.2.2.2.2.2.2.2.2.1, e15.2.2.2.2.2.2.2.2.2.2.2.2.1, e15.2.2.2.2.2.2.2.2.2.2.2.2.2.1, e15.2.2.2.2.2.2.2.2.2.2.2.2.2.2.1, e15.2.2.2.2.2.2.2.2.2.2.2.2.2.2.2.1, e15.2.2.2.2.2.2.2.2.2.2.2.2.2.2.2.2.1, e15.2.2.2.2.2.2.2.2.2.2.2.2.2.2.2.2.2.1, e15.2.2.2.2.2.2.2.2.2.2.2.2.2.2.2.2.2.2.1, e15.2.2.2.2.2.2.2.2.2.2.2.2.2.2.2.2.2.2.2.1, e15.2.2.2.2.2.2.2.2.2.2.2.2.2.2.2.2.2.2.2.2.1, e15.2.2.2.2.2.2.2.2.2.2.2.2.2.2.2.2.2.2.2.2.2.1, e15.2.2.2.2.2.2.2.2.2.2.2.2.2.2.2.2.2.2.2.2.2.2.1, e15.2.2.2.2.2.2.2.2.2.2.2.2.2.2.2.2.2.2.2.2.2.2.2.1, ()))
   .ob (idx q16 x1.2.2.1) fun e17 =>
   .ob (V_l_markByteS (e17.2.2.2.2.2.2.1, ()) ((IntKind.i64.wrap (r13.1.1 + (1 : Int))), ())) fun r18 =>
   let q19 := (q16.set (x1.2.2.1).toNat (e17.1, e17.2.1, e17.2.2.1, e17.2.2.2.1, e17.2.2.2.2.1, e17.2.2.2.2.2.1, r18.2.1, e17.2.2.2.2.2.2.2.1, e17.2.2.2.2.2.2.2.2.1, e17.2.2.2.2.2.2.2.2.2.1, e17.2.2.2.2.2.2.2.2.2.2.1, e17.2.2.2.2.2.2.2.2.2.2.2.1, e17.2.2.2.2.2.2.2.2.2.2.2.2.1, e17.2.2.2.2.2.2.2.2.2.2.2.2.2.1, e17.2.2.2.2.2.2.2.2.2.2.2.2.2.2.1, e17.2.2.2.2.2.2.2.2.2.2.2.2.2.2.2.1, e17.2.2.2.2.2.2.2.2.2.2.2.2.2.2.2.2.1, e17.2.2.2.2.2.2.2.2.2.2.2.2.2.2.2.2.2.1, e17.2.2.2.2.2.2.2.2.2.2.2.2.2.2.2.2.2.2.1, e17.2.2.2.2.2.2.2.2.2.2.2.2.2.2.2.2.2.2.2.1, e17.2.2.2.2.2.2.2.2.2.2.2.2.2.2.2.2.2.2.2.2.1, e17.2.2.2.2.2.2.2.2.2.2.2.2.2.2.2.2.2.2.2.2.2.1, e17.2.2.2.2.2.2.2.2.2.2.2.2.2.2.2.2.2.2.2.2.2.2.1, e17.2.2.2.2.2.2.2.2.2.2.2.2.2.2.2.2.2.2.2.2.2.2.2.1, ()))
   .ob (idx q19 x1.2.2.1) fun e20 =>
   let q21 := (q19.set (x1.2.2.1).toNat (e20.1, e20.2.1, e20.2.2.1, e20.2.2.2.1, e20.2.2.2.2.1, e20.2.2.2.2.2.1, e20.2.2.2.2.2.2.1, r18.1.1, e20.2.2.2.2.2.2.2.2.1, e20.2.2.2.2.2.2.2.2.2.1, e20.2.2.2.2.2.2.2.2.2.2.1, e20.2.2.2.2.2.2.2.2.2.2.2.1, e20.2.2.2.2.2.2.2.2.2.2.2.2.1, e20.2.2.2.2.2.2.2.2.2.2.2.2.2.1, e20.2.2.2.2.2.2.2.2.2.2.2.2.2.2.1, e20.2.2.2.2.2.2.2.2.2.2.2.2.2.2.2.1, e20.2.2.2.2.2.2.2.2.2.2.2.2.2.2.2.2.1, e20.2.2.2.2.2.2.2.2.2.2.2.2.2.2.2.2.2.1, e20.2.2.2.2.2.2.2.2.2.2.2.2.2.2.2.2.2.2.1, e20.2.2.2.2.2.2.2.2.2.2.2.2.2.2.2.2.2.2.2.1, e20.2.2.2.2.2.2.2.2.2.2.2.2.2.2.2.2.2.2.2.2.1, e20.2.2.2.2.2.2.2.2.2.2.2.2.2.2.2.2.2.2.2.2.2.1, e20.2.2.2.2.2.2.2.2.2.2.2.2.2.2.2.2.2.2.2.2.2.2.1, e20.2.2.2.2.2.2.2.2.2.2.2.2.2.2.2.2.2.2.2.2.2.2.2.1, ()))
   .ob (idx q21 x1.2.2.1) fun e22 =>
   let q23 := (q21.set (x1.2.2.1).toNat (e22.1, e22.2.1, e22.2.2.1, e22.2.2.2.1, e22.2.2.2.2.1, e22.2.2.2.2.2.1, e22.2.2.2.2.2.2.1, e22.2.2.2.2.2.2.2.1, (IntKind.i64.wrap (r18.1.1 + (1 : Int))), e22.2.2.2.2.2.2.2.2.2.1, e22.2.2.2.2.2.2.2.2.2.2.1, e22.2.2.2.2.2.2.2.2.2.2.2.1, e22.2.2.2.2.2.2.2.2.2.2.2.2.1, e22.2.2.2.2.2.2.2.2.2.2.2.2.2.1, e22.2.2.2.2.2.2.2.2.2.2.2.2.2.2.1, e22.2.2.2.2.2.2.2.2.2.2.2.2.2.2.2.1, e22.2.2.2.2.2.2.2.2.2.2.2.2.2.2.2.2.1, e22.2.2.2.2.2.2.2.2.2.2.2.2.2.2.2.2.2.1, e22.2.2.2.2.2.2.2.2.2.2.2.2.2.2.2.2.2.2.1, e22.2.2.2.2.2.2.2.2.2.2.2.2.2.2.2.2.2.2.2.1, e22.2.2.2.2.2.2.2.2.2.2.2.2.2.2.2.2.2.2.2.2.1, e22.2.2.2.2.2.2.2.2.2.2.2.2.2.2.2.2.2.2.2.2.2.1, e22.2.2.2.2.2.2.2.2.2.2.2.2.2.2.2.2.2.2.2.2.2.2.1, e22.2.2.2.2.2.2.2.2.2.2.2.2.2.2.2.2.2.2.2.2.2.2.2.1, ()))
   .ob (idx q23 x1.2.2.1) fun e24 =>
   .ob (V_l_markIntS (e24.2.2.2.2.2.2.2.2.2.1, ()) ((IntKind.i64.wrap ((IntKind.i64.wrap (r18.1.1 + (1 : Int))) + (1 : Int))), ())) fun r25 =>
   let q26 := (q23.set (x1.2.2.1).toNat (e24.1, e24.2.1, e24.2.2.1, e24.2.2.2.1, e24.2.2.2.2.1, e24.2.2.2.2.2.1, e24.2.2.2.2.2.2.1, e24.2.2.2.2.2.2.2.1, e24.2.2.2.2.2.2.2.2.1, r25.2.1, e24.2.2.2.2.2.2.2.2.2.2.1, e24.2.2.2.2.2.2.2.2.2.2.2.1, e24.2.2.2.2.2.2.2.2.2.2.2.2.1, e24.2.2.2.2.2.2.2.2.2.2.2.2.2.1, e24.2.2.2.2.2.2.2.2.2.2.2.2.2.2.1, e24.2.2.2.2.2.2.2.2.2.2.2.2.2.2.2.1, e24.2.2.2.2.2.2.2.2.2.2.2.2.2.2.2.2.1, e24.2.2.2.2.2.2.2.2.2.2.2.2.2.2.2.2.2.1, e24.2.2.2.2.2.2.2.2.2.2.2.2.2.2.2.2.2.2.1, e24.2.2.2.2.2.2.2.2.2.2.2.2.2.2.2.2.2.2.2.1, e24.2.2.2.2.2.2.2.2.2.2.2.2.2.2.2.2.2.2.2.2.1, e24.2.2.2.2.2.2.2.2.2.2.2.2.2.2.2.2.2.2.2.2.2.1, e24.2.2.2.2.2.2.2.2.2.2.2.2.2.2.2.2.2.2.2.2.2.2.1, e24.2.2.2.2.2.2.2.2.2.2.2.2.2.2.2.2.2.2.2.2.2.2.2.1, ()))
   .ob (idx q26 x1.2.2.1) fun e27 =>
   let q28 := (q26.set (x1.2.2.1).toNat (e27.1, e27.2.1, e27.2.2.1, e27.2.2.2.1, e27.2.2.2.2.1, e27.2.2.2.2.2.1, e27.2.2.2.2.2.2.1, e27.2.2.2.2.2.2.2.1, e27.2.2.2.2.2.2.2.2.1, e27.2.2.2.2.2.2.2.2.2.1, r25.1.1, e27.2.2.2.2.2.2.2.2.2.2.2.1, e27.2.2.2.2.2.2.2.2.2.2.2.2.1, e27.2.2.2.2.2.2.2.2.2.2.2.2.2.1, e27.2.2.2.2.2.2.2.2.2.2.2.2.2.2.1, e27.2.2.2.2.2.2.2.2.2.2.2.2.2.2.2.1, e27.2.2.2.2.2.2.2.2.2.2.2.2.2.2.2.2.1, e27.2.2.2.2.2.2.2.2.2.2.2.2.2.2.2.2.2.1, e27.2.2.2.2.2.2.2.2.2.2.2.2.2.2.2.2.2.2.1, e27.2.2.2.2.2.2.2.2.2.2.2.2.2.2.2.2.2.2.2.1, e27.2.2.2.2.2.2.2.2.2.2.2.2.2.2.2.2.2.2.2.2.1, e27.2.2.2.2.2.2.2.2.2.2.2.2.2.2.2.2.2.2.2.2.2.1, e27.2.2.2.2.2.2.2.2.2.2.2.2.2.2.2.2.2.2.2.2.2.2.1, e27.2.2.2.2.2.2.2.2.2.2.2.2.2.2.2.2.2.2.2.2.2.2.2.1, ()))
   .ob (idx q28 x1.2.2.1) fun e29 =>
   .ob (V_l_markByteS (e29.2.2.2.2.2.2.2.2.2.2.2.1, ()) ((IntKind.i64.wrap (r25.1.1 + (1 : Int))), ())) fun r30 =>
   let q31 := (q28.set (x1.2.2.1).toNat (e29.1, e29.2.1, e29.2.2.1, e29.2.2.2.1, e29.2.2.2.2.1, e29.2.2.2.2.2.1, e29.2.2.2.2.2.2.1, e29.2.2.2.2.2.2.2.1, e29.2.2.2.2.2.2.2.2.1, e29.2.2.2.2.2.2.2.2.2.1, e29.2.2.2.2.2.2.2.2.2.2.1, r30.2.1, e29.2.2.2.2.2.2.2.2.2.2.2.2.1, e29.2.2.2.2.2.2.2.2.2.2.2.2.2.1, e29.2.2.2.2.2.2.2.2.2.2.2.2.2.2.1, e29.2.2.2.2.2.2.2.2.2.2.2.2.2.2.2.1, e29.2.2.2.2.2.2.2.2.2.2.2.2.2.2.2.2.1, e29.2.2.2.2.2.2.2.2.2.2.2.2.2.2.2.2.2.1, e29.2.2.2.2.2.2.2.2.2.2.2.2.2.2.2.2.2.2.1, e29.2.2.2.2.2.2.2.2.2.2.2.2.2.2.2.2.2.2.2.1, e29.2.2.2.2.2.2.2.2.2.2.2.2.2.2.2.2.2.2.2.2.1, e29.2.2.2.2.2.2.2.2.2.2.2.2.2.2.2.2.2.2.2.2.2.1, e29.2.2.2.2.2.2.2.2.2.2.2.2.2.2.2.2.2.2.2.2.2.2.1, e29.2.2.2.2.2.2.2.2.2.2.2.2.2.2.2.2.2.2.2.2.2.2.2.1, ()))
   .ob (idx q31 x1.2.2.1) fun e32 =>
   let q33 := (q31.set (x1.2.2.1).toNat (e32.1, e32.2.1, e32.2.2.1, e32.2.2.2.1, e32.2.2.2.2.1, e32.2.2.2.2.2.1, e32.2.2.2.2.2.2.1, e32.2.2.2.2.2.2.2.1, e32.2.2.2.2.2.2.2.2.1, e32.2.2.2.2.2.2.2.2.2.1, e32.2.2.2.2.2.2.2.2.2.2.1, e32.2.2.2.2.2.2.2.2.2.2.2.1, r30.1.1, e32.2.2.2.2.2.2.2.2.2.2.2.2.2.1, e32.2.2.2.2.2.2.2.2.2.2.2.2.2.2.1, e32.2.2.2.2.2.2.2.2.2.2.2.2.2.2.2.1, e32.2.2.2.2.2.2.2.2.2.2.2.2.2.2.2.2.1, e32.2.2.2.2.2.2.2.2.2.2.2.2.2.2.2.2.2.1, e32.2.2.2.2.2.2.2.2.2.2.2.2.2.2.2.2.2.2.1, e32.2.2.2.2.2.2.2.2.2.2.2.2.2.2.2.2.2.2.2.1, e32.2.2.2.2.2.2.2.2.2.2.2.2.2.2.2.2.2.2.2.2.1, e32.2.2.2.2.2.2.2.2.2.2.2.2.2.2.2.2.2.2.2.2.2.1, e32.2.2.2.2.2.2.2.2.2.2.2.2.2.2.2.2.2.2.2.2.2.2.1, e32.2.2.2.2.2.2.2.2.2.2.2.2.2.2.2.2.2.2.2.2.2.2.2.1, ()))
   .ob (idx q33 x1.2.2.1) fun e34 =>
   let q35 := (q33.set (x1.2.2.1).toNat (e34.1, e34.2.1, e34.2.2.1, e34.2.2.2.1, e34.2.2.2.2.1, e34.2.2.2.2.2.1, e34.2.2.2.2.2.2.1, e34.2.2.2.2.2.2.2.1, e34.2.2.2.2.2.2.2.2.1, e34.2.2.2.2.2.2.2.2.2.1, e34.2.2.2.2.2.2.2.2.2.2.1, e34.2.2.2.2.2.2.2.2.2.2.2.1, e34.2.2.2.2.2.2.2.2.2.2.2.2.1, (IntKind.i64.wrap (r30.1.1 + (1 : Int))), e34.2.2.2.2.2.2.2.2.2.2.2.2.2.2.1, e34.2.2.2.2.2.2.2.2.2.2.2.2.2.2.2.1, e34.2.2.2.2.2.2.2.2.2.2.2.2.2.2.2.2.1, e34.2.2.2.2.2.2.2.2.2.2.2.2.2.2.2.2.2.1, e34.2.2.2.2.2.2.2.2.2.2.2.2.2.2.2.2.2.2.1, e34.2.2.2.2.2.2.2.2.2.2.2.2.2.2.2.2.2.2.2.1, e34.2.2.2.2.2.2.2.2.2.2.2.2.2.2.2.2.2.2.2.2.1, e34.2.2.2.2.2.2.2.2.2.2.2.2.2.2.2.2.2.2.2.2.2.1, e34.2.2.2.2.2.2.2.2.2.2.2.2.2.2.2.2.2.2.2.2.2.2.1, e34.2.2.2.2.2.2.2.2.2.2.2.2.2.2.2.2.2.2.2.2.2.2.2.1, ()))
   .ob (idx q35 x1.2.2.1) fun e36 =>
   .ob (V_l_markIntS (e36.2.2.2.2.2.2.2.2.2.2.2.2.2.2.1, ()) ((IntKind.i64.wrap ((IntKind.i64.wrap (r30.1.1 + (1 : Int))) + (1 : Int))), ())) fun r37 =>
   let q38 := (q35.set (x1.2.2.1).toNat (e36.1, e36.2.1, e36.2.2.1, e36.2.2.2.1, e36.2.2.2.2.1, e36.2.2.2.2.2.1, e36.2.2.2.2.2.2.1, e36.2.2.2.2.2.2.2.1, e36.2.2.2.2.2.2.2.2.1, e36.2.2.2.2.2.2.2.2.2.1, e36.2.2.2.2.2.2.2.2.2.2.1, e36.2.2.2.2.2.2.2.2.2.2.2.1, e36.2.2.2.2.2.2.2.2.2.2.2.2.1, e36.2.2.2.2.2.2.2.2.2.2.2.2.2.1, r37.2.1, e36.2.2.2.2.2.2.2.2.2.2.2.2.2.2.2.1, e36.2.2.2.2.2.2.2.2.2.2.2.2.2.2.2.2.1, e36.2.2.2.2.2.2.2.2.2.2.2.2.2.2.2.2.2.1, e36.2.2.2.2.2.2.2.2.2.2.2.2.2.2.2.2.2.2.1, e36.2.2.2.2.2.2.2.2.2.2.2.2.2.2.2.2.2.2.2.1, e36.2.2.2.2.2.2.2.2.2.2.2.2.2.2.2.2.2.2.2.2.1, e36.2.2.2.2.2.2.2.2.2.2.2.2.2.2.2.2.2.2.2.2.2.1, e36.2.2.2.2.2.2.2.2.2.2.2.2.2.2.2.2.2.2.2.2.2.2.1, e36.2.2.2.2.2.2.2.2.2.2.2.2.2.2.2.2.2.2.2.2.2.2.2.1, ()))
   .chk (decide ((0 : Int) ≤ r37.1.1)) <|
   .ob (idx q38 x1.2.2.1) fun e39 =>
   let q40 := (q38.set (x1.2.2.1).toNat (e39.1, e39.2.1, e39.2.2.1, e39.2.2.2.1, e39.2.2.2.2.1, e39.2.2.2.2.2.1, e39.2.2.2.2.2.2.1, e39.2.2.2.2.2.2.2.1, e39.2.2.2.2.2.2.2.2.1, e39.2.2.2.2.2.2.2.2.2.1, e39.2.2.2.2.2.2.2.2.2.2.1, e39.2.2.2.2.2.2.2.2.2.2.2.1, e39.2.2.2.2.2.2.2.2.2.2.2.2.1, e39.2.2.2.2.2.2.2.2.2.2.2.2.2.1, e39.2.2.2.2.2.2.2.2.2.2.2.2.2.2.1, ((r37.1.1 % (3 : Int)) == (0 : Int)), e39.2.2.2.2.2.2.2.2.2.2.2.2.2.2.2.2.1, e39.2.2.2.2.2.2.2.2.2.2.2.2.2.2.2.2.2.1, e39.2.2.2.2.2.2.2.2.2.2.2.2.2.2.2.2.2.2.1, e39.2.2.2.2.2.2.2.2.2.2.2.2.2.2.2.2.2.2.2.1, e39.2.2.2.2.2.2.2.2.2.2.2.2.2.2.2.2.2.2.2.2.1, e39.2.2.2.2.2.2.2.2.2.2.2.2.2.2.2.2.2.2.2.2.2.1, e39.2.2.2.2.2.2.2.2.2.2.2.2.2.2.2.2.2.2.2.2.2.2.1, e39.2.2.2.2.2.2.2.2.2.2.2.2.2.2.2.2.2.2.2.2.2.2.2.1, ()))
   .ob (idx q40 x1.2.2.1) fun e41 =>
   let q42 := (q40.set (x1.2.2.1).toNat (e41.1, e41.2.1, e41.2.2.1, e41.2.2.2.1, e41.2.2.2.2.1, e41.2.2.2.2.2.1, e41.2.2.2.2.2.2.1, e41.2.2.2.2.2.2.2.1, e41.2.2.2.2.2.2.2.2.1, e41.2.2.2.2.2.2.2.2.2.1, e41.2.2.2.2.2.2.2.2.2.2.1, e41.2.2.2.2.2.2.2.2.2.2.2.1, e41.2.2.2.2.2.2.2.2.2.2.2.2.1, e41.2.2.2.2.2.2.2.2.2.2.2.2.2.1, e41.2.2.2.2.2.2.2.2.2.2.2.2.2.2.1, e41.2.2.2.2.2.2.2.2.2.2.2.2.2.2.2.1, (IntKind.i64.wrap (r37.1.1 + (1 : Int))), e41.2.2.2.2.2.2.2.2.2.2.2.2.2.2.2.2.2.1, e41.2.2.2.2.2.2.2.2.2.2.2.2.2.2.2.2.2.2.1, e41.2.2.2.2.2.2.2.2.2.2.2.2.2.2.2.2.2.2.2.1, e41.2.2.2.2.2.2.2.2.2.2.2.2.2.2.2.2.2.2.2.2.1, e41.2.2.2.2.2.2.2.2.2.2.2.2.2.2.2.2.2.2.2.2.2.1, e41.2.2.2.2.2.2.2.2.2.2.2.2.2.2.2.2.2.2.2.2.2.2.1, e41.2.2.2.2.2.2.2.2.2.2.2.2.2.2.2.2.2.2.2.2.2.2.2.1, ()))
   .ob (idx q42 x1.2.2.1) fun e43 =>
   .ob (V_l_markByteS (e43.2.2.2.2.2.2.2.2.2.2.2.2.2.2.2.2.2.1, ()) ((IntKind.i64.wrap ((IntKind.i64.wrap (r37.1.1 + (1 : Int))) + (1 : Int))), ())) fun r44 =>
   let q45 := (q42.set (x1.2.2.1).toNat (e43.1, e43.2.1, e43.2.2.1, e43.2.2.2.1, e43.2.2.2.2.1, e43.2.2.2.2.2.1, e43.2.2.2.2.2.2.1, e43.2.2.2.2.2.2.2.1, e43.2.2.2.2.2.2.2.2.1, e43.2.2.2.2.2.2.2.2.2.1, e43.2.2.2.2.2.2.2.2.2.2.1, e43.2.2.2.2.2.2.2.2.2.2.2.1, e43.2.2.2.2.2.2.2.2.2.2.2.2.1, e43.2.2.2.2.2.2.2.2.2.2.2.2.2.1, e43.2.2.2.2.2.2.2.2.2.2.2.2.2.2.1, e43.2.2.2.2.2.2.2.2.2.2.2.2.2.2.2.1, e43.2.2.2.2.2.2.2.2.2.2.2.2.2.2.2.2.1, r44.2.1, e43.2.2.2.2.2.2.2.2.2.2.2.2.2.2.2.2.2.2.1, e43.2.2.2.2.2.2.2.2.2.2.2.2.2.2.2.2.2.2.2.1, e43.2.2.2.2.2.2.2.2.2.2.2.2.2.2.2.2.2.2.2.2.1, e43.2.2.2.2.2.2.2.2.2.2.2.2.2.2.2.2.2.2.2.2.2.1, e43.2.2.2.2.2.2.2.2.2.2.2.2.2.2.2.2.2.2.2.2.2.2.1, e43.2.2.2.2.2.2.2.2.2.2.2.2.2.2.2.2.2.2.2.2.2.2.2.1, ()))
   .ob (idx q45 x1.2.2.1) fun e46 =>
   let q47 := (q45.set (x1.2.2.1).toNat (e46.1, e46.2.1, e46.2.2.1, e46.2.2.2.1, e46.2.2.2.2.1, e46.2.2.2.2.2.1, e46.2.2.2.2.2.2.1, e46.2.2.2.2.2.2.2.1, e46.2.2.2.2.2.2.2.2.1, e46.2.2.2.2.2.2.2.2.2.1, e46.2.2.2.2.2.2.2.2.2.2.1, e46.2.2.2.2.2.2.2.2.2.2.2.1, e46.2.2.2.2.2.2.2.2.2.2.2.2.1, e46.2.2.2.2.2.2.2.2.2.2.2.2.2.1, e46.2.2.2.2.2.2.2.2.2.2.2.2.2.2.1, e46.2.2.2.2.2.2.2.2.2.2.2.2.2.2.2.1, e46.2.2.2.2.2.2.2.2.2.2.2.2.2.2.2.2.1, e46.2.2.2.2.2.2.2.2.2.2.2.2.2.2.2.2.2.1, r44.1.1, e46.2.2.2.2.2.2.2.2.2.2.2.2.2.2.2.2.2.2.2.1, e46.2.2.2.2.2.2.2.2.2.2.2.2.2.2.2.2.2.2.2.2.1, e46.2.2.2.2.2.2.2.2.2.2.2.2.2.2.2.2.2.2.2.2.2.1, e46.2.2.2.2.2.2.2.2.2.2.2.2.2.2.2.2.2.2.2.2.2.2.1, e46.2.2.2.2.2.2.2.2.2.2.2.2.2.2.2.2.2.2.2.2.2.2.2.1, ()))
   .ob (idx q47 x1.2.2.1) fun e48 =>
   let q49 := (q47.set (x1.2.2.1).toNat (e48.1, e48.2.1, e48.2.2.1, e48.2.2.2.1, e48.2.2.2.2.1, e48.2.2.2.2.2.1, e48.2.2.2.2.2.2.1, e48.2.2.2.2.2.2.2.1, e48.2.2.2.2.2.2.2.2.1, e48.2.2.2.2.2.2.2.2.2.1, e48.2.2.2.2.2.2.2.2.2.2.1, e48.2.2.2.2.2.2.2.2.2.2.2.1, e48.2.2.2.2.2.2.2.2.2.2.2.2.1, e48.2.2.2.2.2.2.2.2.2.2.2.2.2.1, e48.2.2.2.2.2.2.2.2.2.2.2.2.2.2.1, e48.2.2.2.2.2.2.2.2.2.2.2.2.2.2.2.1, e48.2.2.2.2.2.2.2.2.2.2.2.2.2.2.2.2.1, e48.2.2.2.2.2.2.2.2.2.2.2.2.2.2.2.2.2.1, e48.2.2.2.2.2.2.2.2.2.2.2.2.2.2.2.2.2.2.1, (IntKind.i64.wrap (r44.1.1 + (1 : Int))), e48.2.2.2.2.2.2.2.2.2.2.2.2.2.2.2.2.2.2.2.2.1, e48.2.2.2.2.2.2.2.2.2.2.2.2.2.2.2.2.2.2.2.2.2.1, e48.2.2.2.2.2.2.2.2.2.2.2.2.2.2.2.2.2.2.2.2.2.2.1, e48.2.2.2.2.2.2.2.2.2.2.2.2.2.2.2.2.2.2.2.2.2.2.2.1, ()))
   .ob (idx q49 x1.2.2.1) fun e50 =>
   .ob (V_l_markCandS (e50.2.2.2.2.2.2.2.2.2.2.2.2.2.2.2.2.2.2.2.2.1, ()) ((IntKind.i64.wrap ((IntKind.i64.wrap (r44.1.1 + (1 : Int))) + (1 : Int))), ())) fun r51 =>
   let q52 := (q49.set (x1.2.2.1).toNat (e50.1, e50.2.1, e50.2.2.1, e50.2.2.2.1, e50.2.2.2.2.1, e50.2.2.2.2.2.1, e50.2.2.2.2.2.2.1, e50.2.2.2.2.2.2.2.1, e50.2.2.2.2.2.2.2.2.1, e50.2.2.2.2.2.2.2.2.2.1, e50.2.2.2.2.2.2.2.2.2.2.1, e50.2.2.2.2.2.2.2.2.2.2.2.1, e50.2.2.2.2.2.2.2.2.2.2.2.2.1, e50.2.2.2.2.2.2.2.2.2.2.2.2.2.1, e50.2.2.2.2.2.2.2.2.2.2.2.2.2.2.1, e50.2.2.2.2.2.2.2.2.2.2.2.2.2.2.2.1, e50.2.2.2.2.2.2.2.2.2.2.2.2.2.2.2.2.1, e50.2.2.2.2.2.2.2.2.2.2.2.2.2.2.2.2.2.1, e50.2.2.2.2.2.2.2.2.2.2.2.2.2.2.2.2.2.2.1, e50.2.2.2.2.2.2.2.2.2.2.2.2.2.2.2.2.2.2.2.1, r51.2.1, e50.2.2.2.2.2.2.2.2.2.2.2.2.2.2.2.2.2.2.2.2.2.1, e50.2.2.2.2.2.2.2.2.2.2.2.2.2.2.2.2.2.2.2.2.2.2.1, e50.2.2.2.2.2.2.2.2.2.2.2.2.2.2.2.2.2.2.2.2.2.2.2.1, ()))
   .ob (idx q52 x1.2.2.1) fun e53 =>
   let q54 := (q52.set (x1.2.2.1).toNat (e53.1, e53.2.1, e53.2.2.1, e53.2.2.2.1, e53.2.2.2.2.1, e53.2.2.2.2.2.1, e53.2.2.2.2.2.2.1, e53.2.2.2.2.2.2.2.1, e53.2.2.2.2.2.2.2.2.1, e53.2.2.2.2.2.2.2.2.2.1, e53.2.2.2.2.2.2.2.2.2.2.1, e53.2.2.2.2.2.2.2.2.2.2.2.1, e53.2.2.2.2.2.2.2.2.2.2.2.2.1, e53.2.2.2.2.2.2.2.2.2.2.2.2.2.1, e53.2.2.2.2.2.2.2.2.2.2.2.2.2.2.1, e53.2.2.2.2.2.2.2.2.2.2.2.2.2.2.2.1, e53.2.2.2.2.2.2.2.2.2.2.2.2.2.2.2.2.1, e53.2.2.2.2.2.2.2.2.2.2.2.2.2.2.2.2.2.1, e53.2.2.2.2.2.2.2.2.2.2.2.2.2.2.2.2.2.2.1, e53.2.2.2.2.2.2.2.2.2.2.2.2.2.2.2.2.2.2.2.1, e53.2.2.2.2.2.2.2.2.2.2.2.2.2.2.2.2.2.2.2.2.1, r51.1.1, e53.2.2.2.2.2.2.2.2.2.2.2.2.2.2.2.2.2.2.2.2.2.2.1, e53.2.2.2.2.2.2.2.2.2.2.2.2.2.2.2.2.2.2.2.2.2.2.2.1, ()))
   .ob (idx q54 x1.2.2.1) fun e55 =>
   let q56 := (q54.set (x1.2.2.1).toNat (e55.1, e55.2.1, e55.2.2.1, e55.2.2.2.1, e55.2.2.2.2.1, e55.2.2.2.2.2.1, e55.2.2.2.2.2.2.1, e55.2.2.2.2.2.2.2.1, e55.2.2.2.2.2.2.2.2.1, e55.2.2.2.2.2.2.2.2.2.1, e55.2.2.2.2.2.2.2.2.2.2.1, e55.2.2.2.2.2.2.2.2.2.2.2.1, e55.2.2.2.2.2.2.2.2.2.2.2.2.1, e55.2.2.2.2.2.2.2.2.2.2.2.2.2.1, e55.2.2.2.2.2.2.2.2.2.2.2.2.2.2.1, e55.2.2.2.2.2.2.2.2.2.2.2.2.2.2.2.1, e55.2.2.2.2.2.2.2.2.2.2.2.2.2.2.2.2.1, e55.2.2.2.2.2.2.2.2.2.2.2.2.2.2.2.2.2.1, e55.2.2.2.2.2.2.2.2.2.2.2.2.2.2.2.2.2.2.1, e55.2.2.2.2.2.2.2.2.2.2.2.2.2.2.2.2.2.2.2.1, e55.2.2.2.2.2.2.2.2.2.2.2.2.2.2.2.2.2.2.2.2.1, e55.2.2.2.2.2.2.2.2.2.2.2.2.2.2.2.2.2.2.2.2.2.1, (IntKind.i64.wrap (r51.1.1 + (1 : Int))), e55.2.2.2.2.2.2.2.2.2.2.2.2.2.2.2.2.2.2.2.2.2.2.2.1, ()))
   .chk (decide ((0 : Int) ≤ (IntKind.i64.wrap ((IntKind.i64.wrap (r51.1.1 + (1 : Int))) + (1 : Int))))) <|
   .ob (idx q56 x1.2.2.1) fun e57 =>
   let q58 := (q56.set (x1.2.2.1).toNat (e57.1, e57.2.1, e57.2.2.1, e57.2.2.2.1, e57.2.2.2.2.1, e57.2.2.2.2.2.1, e57.2.2.2.2.2.2.1, e57.2.2.2.2.2.2.2.1, e57.2.2.2.2.2.2.2.2.1, e57.2.2.2.2.2.2.2.2.2.1, e57.2.2.2.2.2.2.2.2.2.2.1, e57.2.2.2.2.2.2.2.2.2.2.2.1, e57.2.2.2.2.2.2.2.2.2.2.2.2.1, e57.2.2.2.2.2.2.2.2.2.2.2.2.2.1, e57.2.2.2.2.2.2.2.2.2.2.2.2.2.2.1, e57.2.2.2.2.2.2.2.2.2.2.2.2.2.2.2.1, e57.2.2.2.2.2.2.2.2.2.2.2.2.2.2.2.2.1, e57.2.2.2.2.2.2.2.2.2.2.2.2.2.2.2.2.2.1, e57.2.2.2.2.2.2.2.2.2.2.2.2.2.2.2.2.2.2.1, e57.2.2.2.2.2.2.2.2.2.2.2.2.2.2.2.2.2.2.2.1, e57.2.2.2.2.2.2.2.2.2.2.2.2.2.2.2.2.2.2.2.2.1, e57.2.2.2.2.2.2.2.2.2.2.2.2.2.2.2.2.2.2.2.2.2.1, e57.2.2.2.2.2.2.2.2.2.2.2.2.2.2.2.2.2.2.2.2.2.2.1, (((IntKind.i64.wrap ((IntKind.i64.wrap (r51.1.1 + (1 : Int))) + (1 : Int))) % (3 : Int)) == (0 : Int)), ()))
   .leaf (.inl (q58, (IntKind.i64.wrap ((IntKind.i64.wrap ((IntKind.i64.wrap (r51.1.1 + (1 : Int))) + (1 : Int))) + (1 : Int))), (IntKind.i64.wrap (x1.2.2.1 + (1 : Int))), ()))) (
   .leaf (.inr (x1.1, x1.2.1, ())))
def T_l_markSessS (a0 : (List YSess) × Unit) (a1 : YI) : Tree ((YI) × ((List YSess) × Unit)) :=
  .ob (iterO B_l_markSessS_2 (a0.1, a1.1, (0 : Int), ())) fun o59 =>
  .leaf ((o59.2.1, ()), (o59.1, ()))
def V_l_markSessS (a0 : (List YSess) × Unit) (a1 : YI) : Option ((YI) × ((List YSess) × Unit)) := (T_l_markSessS a0 a1).val
def T_l_markTab (a0 : YTab) (a1 : YI) : Tree ((YI) × (YTab)) :=
  .ob (V_l_markSessS (a0.2.1, ()) a1) fun r1 =>
  .leaf (r1.1, (a0.1, r1.2.1, ()))
def V_l_markTab (a0 : YTab) (a1 : YI) : Option ((YI) × (YTab)) := (T_l_markTab a0 a1).val
def B_l_markCreditS_2 (x1 : (List YCredit) × Int × Int × Unit) : Option (((List YCredit) × Int × Int × Unit) ⊕ (((List YCredit) × Int × Unit))) :=
  Tree.val (α := ((List YCredit) × Int × Int × Unit) ⊕ (((List YCredit) × Int × Unit))) <|
  .br (decide (x1.2.2.1 < (x1.1.length : Int))) (
   .ob (idx x1.1 x1.2.2.1) fun e2 =>
   let q3 := (x1.1.set (x1.2.2.1).toNat (x1.2.1, e2.2.1, e2.2.2.1, e2.2.2.2.1, ()))
   .ob (idx q3 x1.2.2.1) fun e4 =>
   let q5 := (q3.set (x1.2.2.1).toNat (e4.1, (IntKind.i64.wrap (x1.2.1 + (1 : Int))), e4.2.2.1, e4.2.2.2.1, ()))
   .ob (idx q5 x1.2.2.1) fun e6 =>
   let q7 := (q5.set (x1.2.2.1).toNat (e6.1, e6.2.1, (IntKind.i64.wrap ((IntKind.i64.wrap (x1.2.1 + (1 : Int))) + (1 : Int))), e6.2.2.2.1, ()))
   .ob (idx q7 x1.2.2.1) fun e8 =>
   let q9 := (q7.set (x1.2.2.1).toNat (e8.1, e8.2.1, e8.2.2.1, (IntKind.i64.wrap ((IntKind.i64.wrap ((IntKind.i64.wrap (x1.2.1 + (1 : Int))) + (1 : Int))) + (1 : Int))), ()))
   .leaf (.inl (q9, (IntKind.i64.wrap ((IntKind.i64.wrap ((IntKind.i64.wrap ((IntKind.i64.wrap (x1.2.1 + (1 : Int))) + (1 : Int))) + (1 : Int))) + (1 : Int))), (IntKind.i64.wrap (x1.2.2.1 + (1 : Int))), ()))) (
   .leaf (.inr (x1.1, x1.2.1, ())))
def T_l_markCreditS (a0 : (List YCredit) × Unit) (a1 : YI) : Tree ((YI) × ((List YCredit) × Unit)) :=
  .ob (iterO B_l_markCreditS_2 (a0.1, a1.1, (0 : Int), ())) fun o10 =>
  .leaf ((o10.2.1, ()), (o10.1, ()))
def V_l_markCreditS (a0 : (List YCredit) × Unit) (a1 : YI) : Option ((YI) × ((List YCredit) × Unit)) := (T_l_markCreditS a0 a1).val
def T_l_markServer (a0 : YServer) (a1 : YI) : Tree ((YI) × (YServer)) :=
  .ob (V_l_markByteSS (a0.1, ()) a1) fun r1 =>
  .ob (V_l_markJar (a0.2.1, ()) r1.1) fun r2 =>
  .ob (V_l_markDice (a0.2.2.1, a0.2.2.2.1, ()) r2.1) fun r3 =>
  .ob (V_l_markTab (a0.2.2.2.2.1, a0.2.2.2.2.2.1, ()) r3.1) fun r4 =>
  .ob (V_l_markCreditS (a0.2.2.2.2.2.2.1, ()) r4.1) fun r5 =>
  .leaf (r5.1, (r1.2.1, r2.2.1, r3.2.1, a0.2.2.2.1, a0.2.2.2.2.1, r4.2.2.1, r5.2.1, ()))
def V_l_markServer (a0 : YServer) (a1 : YI) : Option ((YI) × (YServer)) := (T_l_markServer a0 a1).val
def B_l_markOutS_2 (x1 : (List YOut) × Int × Int × Unit) : Option (((List YOut) × Int × Int × Unit) ⊕ (((List YOut) × Int × Unit))) :=
  Tree.val (α := ((List YOut) × Int × Int × Unit) ⊕ (((List YOut) × Int × Unit))) <|
  .br (decide (x1.2.2.1 < (x1.1.length : Int))) (
   .ob (idx x1.1 x1.2.2.1) fun e2 =>
   let q3 := (x1.1.set (x1.2.2.1).toNat (x1.2.1, e2.2.1, e2.2.2.1, e2.2.2.2.1, e2.2.2.2.2.1, e2.2.2.2.2.2.1, e2.2.2.2.2.2.2.1, e2.2.2.2.2.2.2.2.1, e2.2.2.2.2.2.2.2.2.1, e2.2.2.2.2.2.2.2.2.2.1, e2.2.2.2.2.2.2.2.2.2.2.1, e2.2.2.2.2.2.2.2.2.2.2.2.1, e2.2.2.2.2.2.2.2.2.2.2.2.2.1, ()))
   .ob (idx q3 x1.2.2.1) fun e4 =>
   let q5 := (q3.set (x1.2.2.1).toNat (e4.1, (IntKind.i64.wrap (x1.2.1 + (1 : Int))), e4.2.2.1, e4.2.2.2.1, e4.2.2.2.2.1, e4.2.2.2.2.2.1, e4.2.2.2.2.2.2.1, e4.2.2.2.2.2.2.2.1, e4.2.2.2.2.2.2.2.2.1, e4.2.2.2.2.2.2.2.2.2.1, e4.2.2.2.2.2.2.2.2.2.2.1, e4.2.2.2.2.2.2.2.2.2.2.2.1, e4.2.2.2.2.2.2.2.2.2.2.2.2.1, ()))
   .ob (idx q5 x1.2.2.1) fun e6 =>
   let q7 := (q5.set (x1.2.2.1).toNat (e6.1, e6.2.1, (IntKind.i64.wrap ((IntKind.i64.wrap (x1.2.1 + (1 : Int))) + (1 : Int))), e6.2.2.2.1, e6.2.2.2.2.1, e6.2.2.2.2.2.1, e6.2.2.2.2.2.2.1, e6.2.2.2.2.2.2.2.1, e6.2.2.2.2.2.2.2.2.1, e6.2.2.2.2.2.2.2.2.2.1, e6.2.2.2.2.2.2.2.2.2.2.1, e6.2.2.2.2.2.2.2.2.2.2.2.1, e6.2.2.2.2.2.2.2.2.2.2.2.2.1, ()))
   .ob (idx q7 x1.2.2.1) fun e8 =>
   let q9 := (q7.set (x1.2.2.1).toNat (e8.1, e8.2.1, e8.2.2.1, (IntKind.i64.wrap ((IntKind.i64.wrap ((IntKind.i64.wrap (x1.2.1 + (1 : Int))) + (1 : Int))) + (1 : Int))), e8.2.2.2.2.1, e8.2.2.2.2.2.1, e8.2.2.2.2.2.2.1, e8.2.2.2.2.2.2.2.1, e8.2.2.2.2.2.2.2.2.1, e8.2.2.2.2.2.2.2.2.2.1, e8.2.2.2.2.2.2.2.2.2.2.1, e8.2.2.2.2.2.2.2.2.2.2.2.1, e8.2.2.2.2.2.2.2.2.2.2.2.2.1, ()))
   .ob (idx q9 x1.2.2.1) fun e10 =>
   .ob (V_l_markByteS (e10.2.2.2.2.1, ()) ((IntKind.i64.wrap ((IntKind.i64.wrap ((IntKind.i64.wrap ((IntKind.i64.wrap (x1.2.1 + (1 : Int))) + (1 : Int))) + (1 : Int))) + (1 : Int))), ())) fun r11 =>
   let q12 := (q9.set (x1.2.2.1).toNat (e10.1, e10.2.1, e10.2.2.1, e10.2.2.2.1, r11.2.1, e10.2.2.2.2.2.1, e10.2.2.2.2.2.2.1, e10.2.2.2.2.2.2.2.1, e10.2.2.2.2.2.2.2.2.1, e10.2.2.2.2.2.2.2.2.2.1, e10.2.2.2.2.2.2.2.2.2.2.1, e10.2.2.2.2.2.2.2.2.2.2.2.1, e10.2.2.2.2.2.2.2.2.2.2.2.2.1, ()))
   .ob (idx q12 x1.2.2.1) fun e13 =>
   .ob (V_l_markByteS (e13.2.2.2.2.2.1, ()) r11.1) fun r14 =>
   let q15 := (q12.set (x1.2.2.1).toNat (e13.1, e13.2.1, e13.2.2.1, e13.2.2.2.1, e13.2.2.2.2.1, r14.2.1, e13.2.2.2.2.2.2.1, e13.2.2.2.2.2.2.2.1, e13.2.2.2.2.2.2.2.2.1, e13.2.2.2.2.2.2.2.2.2.1, e13.2.2.2.2.2.2.2.2.2.2.1, e13.2.2.2.2.2.2.2.2.2.2.2.1, e13.2.2.2.2.2.2.2.2.2.2.2.2.1, ()))
   .ob (idx q15 x1.2.2.1) fun e16 =>
   let q17 := (q15.set (x1.2.2.1).toNat (e16.1, e16.2.1, e16.2.2.1, e16.2.2.2.1, e16.2.2.2.2.1, e16.2.2.2.2.2.1, r14.1.1, e16.2.2.2.2.2.2.2.1, e16.2.2.2.2.2.2.2.2.1, e16.2.2.2.2.2.2.2.2.2.1, e16.2.2.2.2.2.2.2.2.2.2.1, e16.2.2.2.2.2.2.2.2.2.2.2.1, e16.2.2.2.2.2.2.2.2.2.2.2.2.1, ()))
   .ob (idx q17 x1.2.2.1) fun e18 =>
   .ob (V_l_markByteS (e18.2.2.2.2.2.2.2.1, ()) ((IntKind.i64.wrap (r14.1.1 + (1 : Int))), ())) fun r19 =>
   let q20 := (q17.set (x1.2.2.1).toNat (e18.1, e18.2.1, e18.2.2.1, e18.2.2.2.1, e18.2.2.2.2.1, e18.2.2.2.2.2.1, e18.2.2.2.2.2.2.1, r19.2.1, e18.2.2.2.2.2.2.2.2.1, e18.2.2.2.2.2.2.2.2.2.1, e18.2.2.2.2.2.2.2.2.2.2.1, e18.2.2.2.2.2.2.2.2.2.2.2.1, e18.2.2.2.2.2.2.2.2.2.2.2.2.1, ()))
   .ob (idx q20 x1.2.2.1) fun e21 =>
   .ob (V_l_markByteS (e21.2.2.2.2.2.2.2.2.1, ()) r19.1) fun r22 =>
   let q23 := (q20.set (x1.2.2.1).toNat (e21.1, e21.2.1, e21.2.2.1, e21.2.2.2.1, e21.2.2.2.2.1, e21.2.2.2.2.2.1, e21.2.2.2.2.2.2.1, e21.2.2.2.2.2.2.2.1, r22.2.1, e21.2.2.2.2.2.2.2.2.2.1, e21.2.2.2.2.2.2.2.2.2.2.1, e21.2.2.2.2.2.2.2.2.2.2.2.1, e21.2.2.2.2.2.2.2.2.2.2.2.2.1, ()))
   .ob (idx q23 x1.2.2.1) fun e24 =>
   let q25 := (q23.set (x1.2.2.1).toNat (e24.1, e24.2.1, e24.2.2.1, e24.2.2.2.1, e24.2.2.2.2.1, e24.2.2.2.2.2.1, e24.2.2.2.2.2.2.1, e24.2.2.2.2.2.2.2.1, e24.2.2.2.2.2.2.2.2.1, r22.1.1, e24.2.2.2.2.2.2.2.2.2.2.1, e24.2.2.2.2.2.2.2.2.2.2.2.1, e24.2.2.2.2.2.2.2.2.2.2.2.2.1, ()))
   .ob (idx q25 x1.2.2.1) fun e26 =>
   let q27 := (q25.set (x1.2.2.1).toNat (e26.1, e26.2.1, e26.2.2.1, e26.2.2.2.1, e26.2.2.2.2.1, e26.2.2.2.2.2.1, e26.2.2.2.2.2.2.1, e26.2.2.2.2.2.2.2.1, e26.2.2.2.2.2.2.2.2.1, e26.2.2.2.2.2.2.2.2.2.1, (IntKind.i64.wrap (r22.1.1 + (1 : Int))), e26.2.2.2.2.2.2.2.2.2.2.2.1, e26.2.2.2.2.2.2.2.2.2.2.2.2.1, ()))
   .ob (idx q27 x1.2.2.1) fun e28 =>
   .ob (V_l_markByteS (e28.2.2.2.2.2.2.2.2.2.2.2.1, ()) ((IntKind.i64.wrap ((IntKind.i64.wrap (r22.1.1 + (1 : Int))) + (1 : Int))), ())) fun r29 =>
   let q30 := (q27.set (x1.2.2.1).toNat (e28.1, e28.2.1, e28.2.2.1, e28.2.2.2.1, e28.2.2.2.2.1, e28.2.2.2.2.2.1, e28.2.2.2.2.2.2.1, e28.2.2.2.2.2.2.2.1, e28.2.2.2.2.2.2.2.2.1, e28.2.2.2.2.2.2.2.2.2.1, e28.2.2.2.2.2.2.2.2.2.2.1, r29.2.1, e28.2.2.2.2.2.2.2.2.2.2.2.2.1, ()))
   .ob (idx q30 x1.2.2.1) fun e31 =>
   .ob (V_l_markByteS (e31.2.2.2.2.2.2.2.2.2.2.2.2.1, ()) r29.1) fun r32 =>
   let q33 := (q30.set (x1.2.2.1).toNat (e31.1, e31.2.1, e31.2.2.1, e31.2.2.2.1, e31.2.2.2.2.1, e31.2.2.2.2.2.1, e31.2.2.2.2.2.2.1, e31.2.2.2.2.2.2.2.1, e31.2.2.2.2.2.2.2.2.1, e31.2.2.2.2.2.2.2.2.2.1, e31.2.2.2.2.2.2.2.2.2.2.1, e31.2.2.2.2.2.2.2.2.2.2.2.1, r32.2.1, ()))
   .leaf (.inl (q33, r32.1.1, (IntKind.i64.wrap (x1.2.2.1 + (1 : Int))), ()))) (
   .leaf (.inr (x1.1, x1.2.1, ())))
def T_l_markOutS (a0 : (List YOut) × Unit) (a1 : YI) : Tree ((YI) × ((List YOut) × Unit)) :=
  .ob (iterO B_l_markOutS_2 (a0.1, a1.1, (0 : Int), ())) fun o34 =>
  .leaf ((o34.2.1, ()), (o34.1, ()))
def V_l_markOutS (a0 : (List YOut) × Unit) (a1 : YI) : Option ((YI) × ((List YOut) × Unit)) := (T_l_markOutS a0 a1).val
def B_l_markNoteS_2 (x1 : (List YNote) × Int × Int × Unit) : Option (((List YNote) × Int × Int × Unit) ⊕ (((List YNote) × Int × Unit))) :=
  Tree.val (α := ((List YNote) × Int × Int × Unit) ⊕ (((List YNote) × Int × Unit))) <|
  .br (decide (x1.2.2.1 < (x1.1.length : Int))) (
   .ob (idx x1.1 x1.2.2.1) fun e2 =>
   let q3 := (x1.1.set (x1.2.2.1).toNat (x1.2.1, e2.2.1, e2.2.2.1, e2.2.2.2.1, e2.2.2.2.2.1, e2.2.2.2.2.2.1, e2.2.2.2.2.2.2.1, e2.2.2.2.2.2.2.2.1, e2.2.2.2.2.2.2.2.2.1, e2.2.2.2.2.2.2.2.2.2.1, e2.2.2.2.2.2.2.2.2.2.2.1, e2.2.2.2.2.2.2.2.2.2.2.2.1, ()))
   .ob (idx q3 x1.2.2.1) fun e4 =>
   let q5 := (q3.set (x1.2.2.1).toNat (e4.1, (IntKind.i64.wrap (x1.2.1 + (1 : Int))), e4.2.2.1, e4.2.2.2.1, e4.2.2.2.2.1, e4.2.2.2.2.2.1, e4.2.2.2.2.2.2.1, e4.2.2.2.2.2.2.2.1, e4.2.2.2.2.2.2.2.2.1, e4.2.2.2.2.2.2.2.2.2.1, e4.2.2.2.2.2.2.2.2.2.2.1, e4.2.2.2.2.2.2.2.2.2.2.2.1, ()))
   .ob (idx q5 x1.2.2.1) fun e6 =>
   let q7 := (q5.set (x1.2.2.1).toNat (e6.1, e6.2.1, (IntKind.i64.wrap ((IntKind.i64.wrap (x1.2.1 + (1 : Int))) + (1 : Int))), e6.2.2.2.1, e6.2.2.2.2.1, e6.2.2.2.2.2.1, e6.2.2.2.2.2.2.1, e6.2.2.2.2.2.2.2.1, e6.2.2.2.2.2.2.2.2.1, e6.2.2.2.2.2.2.2.2.2.1, e6.2.2.2.2.2.2.2.2.2.2.1, e6.2.2.2.2.2.2.2.2.2.2.2.1, ()))
   .ob (idx q7 x1.2.2.1) fun e8 =>
   .ob (V_l_markByteS (e8.2.2.2.1, ()) ((IntKind.i64.wrap ((IntKind.i64.wrap ((IntKind.i64.wrap (x1.2.1 + (1 : Int))) + (1 : Int))) + (1 : Int))), ())) fun r9 =>
   let q10 := (q7.set (x1.2.2.1).toNat (e8.1, e8.2.1, e8.2.2.1, r9.2.1, e8.2.2.2.2.1, e8.2.2.2.2.2.1, e8.2.2.2.2.2.2.1, e8.2.2.2.2.2.2.2.1, e8.2.2.2.2.2.2.2.2.1, e8.2.2.2.2.2.2.2.2.2.1, e8.2.2.2.2.2.2.2.2.2.2.1, e8.2.2.2.2.2.2.2.2.2.2.2.1, ()))
   .ob (idx q10 x1.2.2.1) fun e11 =>
   .ob (V_l_markByteS (e11.2.2.2.2.1, ()) r9.1) fun r12 =>
   let q13 := (q10.set (x1.2.2.1).toNat (e11.1, e11.2.1, e11.2.2.1, e11.2.2.2.1, r12.2.1, e11.2.2.2.2.2.1, e11.2.2.2.2.2.2.1, e11.2.2.2.2.2.2.2.1, e11.2.2.2.2.2.2.2.2.1, e11.2.2.2.2.2.2.2.2.2.1, e11.2.2.2.2.2.2.2.2.2.2.1, e11.2.2.2.2.2.2.2.2.2.2.2.1, ()))
   .ob (idx q13 x1.2.2.1) fun e14 =>
   let q15 := (q13.set (x1.2.2.1).toNat (e14.1, e14.2.1, e14.2.2.1, e14.2.2.2.1, e14.2.2.2.2.1, r12.1.1, e14.2.2.2.2.2.2.1, e14.2.2.2.2.2.2.2.1, e14.2.2.2.2.2.2.2.2.1, e14.2.2.2.2.2.2.2.2.2.1, e14.2.2.2.2.2.2.2.2.2.2.1, e14.2.2.2.2.2.2.2.2.2.2.2.1, ()))
   .ob (idx q15 x1.2.2.1) fun e16 =>
   let q17 := (q15.set (x1.2.2.1).toNat (e16.1, e16.2.1, e16.2.2.1, e16.2.2.2.1, e16.2.2.2.2.1, e16.2.2.2.2.2.1, (IntKind.i64.wrap (r12.1.1 + (1 : Int))), e16.2.2.2.2.2.2.2.1, e16.2.2.2.2.2.2.2.2.1, e16.2.2.2.2.2.2.2.2.2.1, e16.2.2.2.2.2.2.2.2.2.2.1, e16.2.2.2.2.2.2.2.2.2.2.2.1, ()))
   .ob (idx q17 x1.2.2.1) fun e18 =>
   .ob (V_l_markByteS (e18.2.2.2.2.2.2.2.1, ()) ((IntKind.i64.wrap ((IntKind.i64.wrap (r12.1.1 + (1 : Int))) + (1 : Int))), ())) fun r19 =>
   let q20 := (q17.set (x1.2.2.1).toNat (e18.1, e18.2.1, e18.2.2.1, e18.2.2.2.1, e18.2.2.2.2.1, e18.2.2.2.2.2.1, e18.2.2.2.2.2.2.1, r19.2.1, e18.2.2.2.2.2.2.2.2.1, e18.2.2.2.2.2.2.2.2.2.1, e18.2.2.2.2.2.2.2.2.2.2.1, e18.2.2.2.2.2.2.2.2.2.2.2.1, ()))
   .ob (idx q20 x1.2.2.1) fun e21 =>
   .ob (V_l_markByteS (e21.2.2.2.2.2.2.2.2.1, ()) r19.1) fun r22 =>
   let q23 := (q20.set (x1.2.2.1).toNat (e21.1, e21.2.1, e21.2.2.1, e21.2.2.2.1, e21.2.2.2.2.1, e21.2.2.2.2.2.1, e21.2.2.2.2.2.2.1, e21.2.2.2.2.2.2.2.1, r22.2.1, e21.2.2.2.2.2.2.2.2.2.1, e21.2.2.2.2.2.2.2.2.2.2.1, e21.2.2.2.2.2.2.2.2.2.2.2.1, ()))
   .ob (idx q23 x1.2.2.1) fun e24 =>
   let q25 := (q23.set (x1.2.2.1).toNat (e24.1, e24.2.1, e24.2.2.1, e24.2.2.2.1, e24.2.2.2.2.1, e24.2.2.2.2.2.1, e24.2.2.2.2.2.2.1, e24.2.2.2.2.2.2.2.1, e24.2.2.2.2.2.2.2.2.1, r22.1.1, e24.2.2.2.2.2.2.2.2.2.2.1, e24.2.2.2.2.2.2.2.2.2.2.2.1, ()))
   .ob (idx q25 x1.2.2.1) fun e26 =>
   let q27 := (q25.set (x1.2.2.1).toNat (e26.1, e26.2.1, e26.2.2.1, e26.2.2.2.1, e26.2.2.2.2.1, e26.2.2.2.2.2.1, e26.2.2.2.2.2.2.1, e26.2.2.2.2.2.2.2.1, e26.2.2.2.2.2.2.2.2.1, e26.2.2.2.2.2.2.2.2.2.1, (IntKind.i64.wrap (r22.1.1 + (1 : Int))), e26.2.2.2.2.2.2.2.2.2.2.2.1, ()))
   .ob (idx q27 x1.2.2.1) fun e28 =>
   let q29 := (q27.set (x1.2.2.1).toNat (e28.1, e28.2.1, e28.2.2.1, e28.2.2.2.1, e28.2.2.2.2.1, e28.2.2.2.2.2.1, e28.2.2.2.2.2.2.1, e28.2.2.2.2.2.2.2.1, e28.2.2.2.2.2.2.2.2.1, e28.2.2.2.2.2.2.2.2.2.1, e28.2.2.2.2.2.2.2.2.2.2.1, (IntKind.i64.wrap ((IntKind.i64.wrap (r22.1.1 + (1 : Int))) + (1 : Int))), ()))
   .leaf (.inl (q29, (IntKind.i64.wrap ((IntKind.i64.wrap ((IntKind.i64.wrap (r22.1.1 + (1 : Int))) + (1 : Int))) + (1 : Int))), (IntKind.i64.wrap (x1.2.2.1 + (1 : Int))), ()))) (
   .leaf (.inr (x1.1, x1.2.1, ())))
def T_l_markNoteS (a0 : (List YNote) × Unit) (a1 : YI) : Tree ((YI) × ((List YNote) × Unit)) :=
  .ob (iterO B_l_markNoteS_2 (a0.1, a1.1, (0 : Int), ())) fun o30 =>
  .leaf ((o30.2.1, ()), (o30.1, ()))
def V_l_markNoteS (a0 : (List YNote) × Unit) (a1 : YI) : Option ((YI) × ((List YNote) × Unit)) := (T_l_markNoteS a0 a1).val
def B_l_heldByteS_2 (x1 : (List YB) × Int × Int × Unit) : Option (((List YB) × Int × Int × Unit) ⊕ ((YI) ⊕ (YI))) :=
  Tree.val (α := ((List YB) × Int × Int × Unit) ⊕ ((YI) ⊕ (YI))) <|
  .br (decide (x1.2.2.1 < (x1.1.length : Int))) (
   .ob (idx x1.1 x1.2.2.1) fun e2 =>
   .br (e2.1 != (IntKind.u8.wrap (x1.2.1))) (
    .leaf (.inr (.inl ((-1 : Int), ())))) (
    .leaf (.inl (x1.1, (IntKind.i64.wrap (x1.2.1 + (1 : Int))), (IntKind.i64.wrap (x1.2.2.1 + (1 : Int))), ())))) (
   .leaf (.inr (.inr (x1.2.1, ()))))
def T_l_heldByteS (a0 : YBs) (a1 : YI) : Tree ((YI)) :=
  .ob (iterO B_l_heldByteS_2 (a0.1, a1.1, (0 : Int), ())) fun o3 =>
  .sm o3 (fun o4 =>
   .leaf o4) (fun o5 =>
   .leaf o5)
def V_l_heldByteS (a0 : YBs) (a1 : YI) : Option ((YI)) := (T_l_heldByteS a0 a1).val
def B_l_heldByteSS_2 (x1 : (List YBs) × Int × Int × Unit) : Option (((List YBs) × Int × Int × Unit) ⊕ ((YI) ⊕ (YI))) :=
  Tree.val (α := ((List YBs) × Int × Int × Unit) ⊕ ((YI) ⊕ (YI))) <|
  .br (decide (x1.2.2.1 < (x1.1.length : Int))) (
   .ob (idx x1.1 x1.2.2.1) fun e2 =>
   .ob (V_l_heldByteS e2 (x1.2.1, ())) fun r3 =>
   .br (decide (r3.1 < (0 : Int))) (
    .leaf (.inr (.inl ((-1 : Int), ())))) (
    .leaf (.inl (x1.1, r3.1, (IntKind.i64.wrap (x1.2.2.1 + (1 : Int))), ())))) (
   .leaf (.inr (.inr (x1.2.1, ()))))
def T_l_heldByteSS (a0 : (List YBs) × Unit) (a1 : YI) : Tree ((YI)) :=
  .ob (iterO B_l_heldByteSS_2 (a0.1, a1.1, (0 : Int), ())) fun o4 =>
  .sm o4 (fun o5 =>
   .leaf o5) (fun o6 =>
   .leaf o6)
def V_l_heldByteSS (a0 : (List YBs) × Unit) (a1 : YI) : Option ((YI)) := (T_l_heldByteSS a0 a1).val
def T_l_heldJar (a0 : YBs) (a1 : YI) : Tree ((YI)) :=
  .ob (V_l_heldByteS a0 a1) fun r1 =>
  .br (decide (r1.1 < (0 : Int))) (
   .leaf ((-1 : Int), ())) (
   .leaf r1)
def V_l_heldJar (a0 : YBs) (a1 : YI) : Option ((YI)) := (T_l_heldJar a0 a1).val
def T_l_heldDice (a0 : YDice) (a1 : YI) : Tree ((YI)) :=
  .ob (V_l_heldByteS (a0.1, ()) a1) fun r1 =>
  .br (decide (r1.1 < (0 : Int))) (
   .leaf ((-1 : Int), ())) (
   .leaf r1)
def V_l_heldDice (a0 : YDice) (a1 : YI) : Option ((YI)) := (T_l_heldDice a0 a1).val
def B_l_heldIntS_2 (x1 : (List YI) × Int × Int × Unit) : Option (((List YI) × Int × Int × Unit) ⊕ ((YI) ⊕ (YI))) :=
  Tree.val (α := ((List YI) × Int × Int × Unit) ⊕ ((YI) ⊕ (YI))) <|
  .br (decide (x1.2.2.1 < (x1.1.length : Int))) (
   .ob (idx x1.1 x1.2.2.1) fun e2 =>
   .br (e2.1 != x1.2.1) (
    .leaf (.inr (.inl ((-1 : Int), ())))) (
    .leaf (.inl (x1.1, (IntKind.i64.wrap (x1.2.1 + (1 : Int))), (IntKind.i64.wrap (x1.2.2.1 + (1 : Int))), ())))) (
   .leaf (.inr (.inr (x1.2.1, ()))))
def T_l_heldIntS (a0 : (List YI) × Unit) (a1 : YI) : Tree ((YI)) :=
  .ob (iterO B_l_heldIntS_2 (a0.1, a1.1, (0 : Int), ())) fun o3 =>
  .sm o3 (fun o4 =>
   .leaf o4) (fun o5 =>
   .leaf o5)
def V_l_heldIntS (a0 : (List YI) × Unit) (a1 : YI) : Option ((YI)) := (T_l_heldIntS a0 a1).val
def B_l_heldCandS_2 (x1 : (List YCand) × Int × Int × Unit) : Option (((List YCand) × Int × Int × Unit) ⊕ ((YI) ⊕ (YI))) :=
  Tree.val (α := ((List YCand) × Int × Int × Unit) ⊕ ((YI) ⊕ (YI))) <|
  .br (decide (x1.2.2.1 < (x1.1.length : Int))) (
   .ob (idx x1.1 x1.2.2.1) fun e2 =>
   .br (e2.1 != x1.2.1) (
    .leaf (.inr (.inl ((-1 : Int), ())))) (
    .ob (idx x1.1 x1.2.2.1) fun e3 =>
    .br (e3.2.1 != (IntKind.i64.wrap (x1.2.1 + (1 : Int)))) (
     .leaf (.inr (.inl ((-1 : Int), ())))) (
     .ob (idx x1.1 x1.2.2.1) fun e4 =>
     .ob (V_l_heldByteS (e4.2.2.1, ()) ((IntKind.i64.wrap ((IntKind.i64.wrap (x1.2.1 + (1 : Int))) + (1 : Int))), ())) fun r5 =>
     .br (decide (r5.1 < (0 : Int))) (
      .leaf (.inr (.inl ((-1 : Int), ())))) (
      .ob (idx x1.1 x1.2.2.1) fun e6 =>
      .br (e6.2.2.2.1 != r5.1) (
       .leaf (.inr (.inl ((-1 : Int), ())))) (
       .leaf (.inl (x1.1, (IntKind.i64.wrap (r5.1 + (1 : Int))), (IntKind.i64.wrap (x1.2.2.1 + (1 : Int))), ()))))))) (
   .leaf (.inr (.inr (x1.2.1, ()))))
def T_l_heldCandS (a0 : (List YCand) × Unit) (a1 : YI) : Tree ((YI)) :=
  .ob (iterO B_l_heldCandS_2 (a0.1, a1.1, (0 : Int), ())) fun o7 =>
  .sm o7 (fun o8 =>
   .leaf o8) (fun o9 =>
   .leaf o9)
def V_l_heldCandS (a0 : (List YCand) × Unit) (a1 : YI) : Option ((YI)) := (T_l_heldCandS a0 a1).val
def B_l_heldSessS_2 (x1 : (List YSess) × Int × Int × Unit) : Option (((List YSess) × Int × Int × Unit) ⊕ ((YI) ⊕ (YI))) :=
  Tree.val (α := ((List YSess) × Int × Int × Unit) ⊕ ((YI) ⊕ (YI))) <|
  .br (decide (x1.2.2.1 < (x1.1.length : Int))) (
   .ob (idx x1.1 x1.2.2.1) fun e2 =>
   .br (e2.1 != x1.2.1) (
    .leaf (.inr (.inl ((-1 : Int), ())))) (
    .ob (idx x1.1 x1.2.2.1) fun e3 =>
    .ob (V_l_heldByteS (e3.2.1, ()) ((IntKind.i64.wrap (x1.2.1 + (1 : Int))), ())) fun r4 =>
    .br (decide (r4.1 < (0 : Int))) (
     .leaf (.inr (.inl ((-1 : Int), ())))) (
     .ob (idx x1.1 x1.2.2.1) fun e5 =>
     .ob (V_l_heldByteS (e5.2.2.1, ()) r4) fun r6 =>
     .br (decide (r6.1 < (0 : Int))) (
      .leaf (.inr (.inl ((-1 : Int), ())))) (
      .ob (idx x1.1 x1.2.2.1) fun e7 =>
      .br (e7.2.2.2.1 != r6.1) (
       .leaf (.inr (.inl ((-1 : Int), ())))) (
       .ob (idx x1.1 x1.2.2.1) fun e8 =>
       .ob (V_l_heldByteS (e8.2.2.2.2.1, ()) ((IntKind.i64.wrap (r6.1 + (1 : Int))), ())) fun r9 =>
       .br (decide (r9.1 < (0 : Int))) (
        .leaf (.inr (.inl ((-1 : Int), ())))) (
        .ob (idx x1.1 x1.2.2.1) fun e10 =>
        .br (e10.2.2.2.2.2.1 != r9.1) (
         .leaf (.inr (.inl ((-1 : Int), ())))) (
         .ob (idx x1.1 x1.2.2.1) fun e11 =>
         .ob (V_l_heldByteS (e11.2.2.2.2.2.2.1, ()) ((IntKind.i64.wrap (r9.1 + (1 : Int))), ())) fun r12 =>
         .br (decide (r12.1 < (0 : Int))) (
          .leaf (.inr (.inl ((-1 : Int), ())))) (
          .ob (idx x1.1 x1.2.2.1) fun e13 =>
          .br (e13.2.2.2.2.2.2.2.1 != r12.1) (
           .leaf (.inr (.inl ((-1 : Int), ())))) (
           .ob (idx x1.1 x1.2.2.1) fun e14 =>
           .br (e14.2.2.2.2.2.2.2.2.1 != (IntKind.i64.wrap (r12.1 + (1 : Int)))) (
            .leaf (.inr (.inl ((-1 : Int), ())))) (
            .ob (idx x1.1 x1.2.2.1) fun e15 =>
            .ob (V_l_heldIntS (e15.2.2.2.2.2.2.2.2.2.1, ()) ((IntKind.i64.wrap ((IntKind.i64.wrap (r12.1 + (1 : Int))) + (1 : Int))), ())) fun r16 =>
            .br (decide (r16.1 < (0 : Int))) (
             .leaf (.inr (.inl ((-1 : Int), ())))) (
             .ob (idx x1.1 x1.2.2.1) fun e17 =>
             .br (e17.2.2.2.2.2.2.2.2.2.2.1 != r16.1) (
              .leaf (.inr (.inl ((-1 : Int), ())))) (
              .ob (idx x1.1 x1.2.2.1) fun e18 =>
              .ob (V_l_heldByteS (e18.2.2.2.2.2.2.2.2.2.2.2.1, ()) ((IntKind.i64.wrap (r16.1 + (1 : Int))), ())) fun r19 =>
              .br (decide (r19.1 < (0 : Int))) (
               .leaf (.inr (.inl ((-1 : Int), ())))) (
               .ob (idx x1.1 x1.2.2.1) fun e20 =>
               .br (e20.2.2.2.2.2.2.2.2.2.2.2.2.1 != r19.1) (
                .leaf (.inr (.inl ((-1 : Int), ())))) (
                .ob (idx x1.1 x1.2.2.1) fun e21 =>
                .br (e21.2.2.2.2.2.2.2.2.2.2.2.2.2.1 != (IntKind.i64.wrap (r19.1 + (1 : Int)))) (
                 .leaf (.inr (.inl ((-1 : Int), ())))) (
                 .ob (idx x1.1 x1.2.2.1) fun e22 =>
                 .ob (V_l_heldIntS (e22.2.2.2.2.2.2.2.2.2.2.2.2.2.2.1, ()) ((IntKind.i64.wrap ((IntKind.i64.wrap (r19.1 + (1 : Int))) + (1 : Int))), ())) fun r23 =>
                 .br (decide (r23.1 < (0 : Int))) (
                  .leaf (.inr (.inl ((-1 : Int), ())))) (
                  .ob (idx x1.1 x1.2.2.1) fun e24 =>
                  .chk (decide ((0 : Int) ≤ r23.1)) <|
                  .br (!(e24.2.2.2.2.2.2.2.2.2.2.2.2.2.2.2.1 == ((r23.1 % (3 : Int)) == (0 : Int)))) (
                   .leaf (.inr (.inl ((-1 : Int), ())))) (
                   .ob (idx x1.1 x1.2.2.1) fun e25 =>
                   .br (e25.2.2.2.2.2.2.2.2.2.2.2.2.2.2.2.2.1 != (IntKind.i64.wrap (r23.1 + (1 : Int)))) (
                    .leaf (.inr (.inl ((-1 : Int), ())))) (
                    .ob (idx x1.1 x1.2.2.1) fun e26 =>
                    .ob (V_l_heldByteS (e26.2.2.2.2.2.2.2.2.2.2.2.2.2.2.2.2.2.1, ()) ((IntKind.i64.wrap ((IntKind.i64.wrap (r23.1 + (1 : Int))) + (1 : Int))), ())) fun r27 =>
                    .br (decide (r27.1 < (0 : Int))) (
                     .leaf (.inr (.inl ((-1 : Int), ())))) (
                     .ob (idx x1.1 x1.2.2.1) fun e28 =>
                     .br (e28.2.2.2.2.2.2.2.2.2.2.2.2.2.2.2.2.2.2.1 != r27.1) (
                      .leaf (.inr (.inl ((-1 : Int), ())))) (
                      .ob (idx x1.1 x1.2.2.1) fun e29 =>
                      .br (e29.2.2.2.2.2.2.2.2.2.2.2.2.2.2.2.2.2.2.2.1 != (IntKind.i64.wrap (r27.1 + (1 : Int)))) (
                       .leaf (.inr (.inl ((-1 : Int), ())))) (
                       .ob (idx x1.1 x1.2.2.1) fun e30 =>
                       .ob (V_l_heldCandS (e30.2.2.2.2.2.2.2.2.2.2.2.2.2.2.2.2.2.2.2.2.1, ()) ((IntKind.i64.wrap ((IntKind.i64.wrap (r27.1 + (1 : Int))) + (1 : Int))), ())) fun r31 =>
                       .br (decide (r31.1 < (0 : Int))) (
                        .leaf (.inr (.inl ((-1 : Int), ())))) (
                        .ob (idx x1.1 x1.2.2.1) fun e32 =>
                        .br (e32.2.2.2.2.2.2.2.2.2.2.2.2.2.2.2.2.2.2.2.2.2.1 != r31.1) (
                         .leaf (.inr (.inl ((-1 : Int), ())))) (
                         .ob (idx x1.1 x1.2.2.1) fun e33 =>
                         .br (e33.2.2.2.2.2.2.2.2.2.2.2.2.2.2.2.2.2.2.2.2.2.2.1 != (IntKind.i64.wrap (r31.1 + (1 : Int)))) (
                          .leaf (.inr (.inl ((-1 : Int), ())))) (
                          .ob (idx x1.1 x1.2.2.1) fun e34 =>
                          .chk (decide ((0 : Int) ≤ (IntKind.i64.wrap ((IntKind.i64.wrap (r31.1 + (1 : Int))) + (1 : Int))))) <|
                          .br (!(e34.2.2.2.2.2.2.2.2.2.2.2.2.2.2.2.2.2.2.2.2.2.2.2.1 == (((IntKind.i64.wrap ((IntKind.i64.wrap (r31.1 + (1 : Int))) + (1 : Int))) % (3 : Int)) == (0 : Int)))) (
                           .leaf (.inr (.inl ((-1 : Int), ())))) (
                           .leaf (.inl (x1.1, (IntKind.i64.wrap ((IntKind.i64.wrap ((IntKind.i64.wrap (r31.1 + (1 : Int))) + (1 : Int))) + (1 : Int))), (IntKind.i64.wrap (x1.2.2.1 + (1 : Int))), ()))))))))))))))))))))))))))) (
   .leaf (.inr (.inr (x1.2.1, ()))))
def T_l_heldSessS (a0 : (List YSess) × Unit) (a1 : YI) : Tree ((YI)) :=
  .ob (iterO B_l_heldSessS_2 (a0.1, a1.1, (0 : Int), ())) fun o35 =>
  .sm o35 (fun o36 =>
   .leaf o36) (fun o37 =>
   .leaf o37)
def V_l_heldSessS (a0 : (List YSess) × Unit) (a1 : YI) : Option ((YI)) := (T_l_heldSessS a0 a1).val
def T_l_heldTab (a0 : YTab) (a1 : YI) : Tree ((YI)) :=
  .ob (V_l_heldSessS (a0.2.1, ()) a1) fun r1 =>
  .br (decide (r1.1 < (0 : Int))) (
   .leaf ((-1 : Int), ())) (
   .leaf r1)
def V_l_heldTab (a0 : YTab) (a1 : YI) : Option ((YI)) := (T_l_heldTab a0 a1).val
def B_l_heldCreditS_2 (x1 : (List YCredit) × Int × Int × Unit) : Option (((List YCredit) × Int × Int × Unit) ⊕ ((YI) ⊕ (YI))) :=
  Tree.val (α := ((List YCredit) × Int × Int × Unit) ⊕ ((YI) ⊕ (YI))) <|
  .br (decide (x1.2.2.1 < (x1.1.length : Int))) (
   .ob (idx x1.1 x1.2.2.1) fun e2 =>
   .br (e2.1 != x1.2.1) (
    .leaf (.inr (.inl ((-1 : Int), ())))) (
    .ob (idx x1.1 x1.2.2.1) fun e3 =>
    .br (e3.2.1 != (IntKind.i64.wrap (x1.2.1 + (1 : Int)))) (
     .leaf (.inr (.inl ((-1 : Int), ())))) (
     .ob (idx x1.1 x1.2.2.1) fun e4 =>
     .br (e4.2.2.1 != (IntKind.i64.wrap ((IntKind.i64.wrap (x1.2.1 + (1 : Int))) + (1 : Int)))) (
      .leaf (.inr (.inl ((-1 : Int), ())))) (
      .ob (idx x1.1 x1.2.2.1) fun e5 =>
      .br (e5.2.2.2.1 != (IntKind.i64.wrap ((IntKind.i64.wrap ((IntKind.i64.wrap (x1.2.1 + (1 : Int))) + (1 : Int))) + (1 : Int)))) (
       .leaf (.inr (.inl ((-1 : Int), ())))) (
       .leaf (.inl (x1.1, (IntKind.i64.wrap ((IntKind.i64.wrap ((IntKind.i64.wrap ((IntKind.i64.wrap (x1.2.1 + (1 : Int))) + (1 : Int))) + (1 : Int))) + (1 : Int))), (IntKind.i64.wrap (x1.2.2.1 + (1 : Int))), ()))))))) (
   .leaf (.inr (.inr (x1.2.1, ()))))
def T_l_heldCreditS (a0 : (List YCredit) × Unit) (a1 : YI) : Tree ((YI)) :=
  .ob (iterO B_l_heldCreditS_2 (a0.1, a1.1, (0 : Int), ())) fun o6 =>
  .sm o6 (fun o7 =>
   .leaf o7) (fun o8 =>
   .leaf o8)
def V_l_heldCreditS (a0 : (List YCredit) × Unit) (a1 : YI) : Option ((YI)) := (T_l_heldCreditS a0 a1).val
def T_l_heldServer (a0 : YServer) (a1 : YI) : Tree ((YI)) :=
  .ob (V_l_heldByteSS (a0.1, ()) a1) fun r1 =>
  .br (decide (r1.1 < (0 : Int))) (
   .leaf ((-1 : Int), ())) (
   .ob (V_l_heldJar (a0.2.1, ()) r1) fun r2 =>
   .br (decide (r2.1 < (0 : Int))) (
    .leaf ((-1 : Int), ())) (
    .ob (V_l_heldDice (a0.2.2.1, a0.2.2.2.1, ()) r2) fun r3 =>
    .br (decide (r3.1 < (0 : Int))) (
     .leaf ((-1 : Int), ())) (
     .ob (V_l_heldTab (a0.2.2.2.2.1, a0.2.2.2.2.2.1, ()) r3) fun r4 =>
     .br (decide (r4.1 < (0 : Int))) (
      .leaf ((-1 : Int), ())) (
      .ob (V_l_heldCreditS (a0.2.2.2.2.2.2.1, ()) r4) fun r5 =>
      .br (decide (r5.1 < (0 : Int))) (
       .leaf ((-1 : Int), ())) (
       .leaf r5)))))
def V_l_heldServer (a0 : YServer) (a1 : YI) : Option ((YI)) := (T_l_heldServer a0 a1).val
def B_l_heldOutS_2 (x1 : (List YOut) × Int × Int × Unit) : Option (((List YOut) × Int × Int × Unit) ⊕ ((YI) ⊕ (YI))) :=
  Tree.val (α := ((List YOut) × Int × Int × Unit) ⊕ ((YI) ⊕ (YI))) <|
  .br (decide (x1.2.2.1 < (x1.1.length : Int))) (
   .ob (idx x1.1 x1.2.2.1) fun e2 =>
   .br (e2.1 != x1.2.1) (
    .leaf (.inr (.inl ((-1 : Int), ())))) (
    .ob (idx x1.1 x1.2.2.1) fun e3 =>
    .br (e3.2.1 != (IntKind.i64.wrap (x1.2.1 + (1 : Int)))) (
     .leaf (.inr (.inl ((-1 : Int), ())))) (
     .ob (idx x1.1 x1.2.2.1) fun e4 =>
     .br (e4.2.2.1 != (IntKind.i64.wrap ((IntKind.i64.wrap (x1.2.1 + (1 : Int))) + (1 : Int)))) (
      .leaf (.inr (.inl ((-1 : Int), ())))) (
      .ob (idx x1.1 x1.2.2.1) fun e5 =>
      .br (e5.2.2.2.1 != (IntKind.i64.wrap ((IntKind.i64.wrap ((IntKind.i64.wrap (x1.2.1 + (1 : Int))) + (1 : Int))) + (1 : Int)))) (
       .leaf (.inr (.inl ((-1 : Int), ())))) (
       .ob (idx x1.1 x1.2.2.1) fun e6 =>
       .ob (V_l_heldByteS (e6.2.2.2.2.1, ()) ((IntKind.i64.wrap ((IntKind.i64.wrap ((IntKind.i64.wrap ((IntKind.i64.wrap (x1.2.1 + (1 : Int))) + (1 : Int))) + (1 : Int))) + (1 : Int))), ())) fun r7 =>
       .br (decide (r7.1 < (0 : Int))) (
        .leaf (.inr (.inl ((-1 : Int), ())))) (
        .ob (idx x1.1 x1.2.2.1) fun e8 =>
        .ob (V_l_heldByteS (e8.2.2.2.2.2.1, ()) r7) fun r9 =>
        .br (decide (r9.1 < (0 : Int))) (
         .leaf (.inr (.inl ((-1 : Int), ())))) (
         .ob (idx x1.1 x1.2.2.1) fun e10 =>
         .br (e10.2.2.2.2.2.2.1 != r9.1) (
          .leaf (.inr (.inl ((-1 : Int), ())))) (
          .ob (idx x1.1 x1.2.2.1) fun e11 =>
          .ob (V_l_heldByteS (e11.2.2.2.2.2.2.2.1, ()) ((IntKind.i64.wrap (r9.1 + (1 : Int))), ())) fun r12 =>
          .br (decide (r12.1 < (0 : Int))) (
           .leaf (.inr (.inl ((-1 : Int), ())))) (
           .ob (idx x1.1 x1.2.2.1) fun e13 =>
           .ob (V_l_heldByteS (e13.2.2.2.2.2.2.2.2.1, ()) r12) fun r14 =>
           .br (decide (r14.1 < (0 : Int))) (
            .leaf (.inr (.inl ((-1 : Int), ())))) (
            .ob (idx x1.1 x1.2.2.1) fun e15 =>
            .br (e15.2.2.2.2.2.2.2.2.2.1 != r14.1) (
             .leaf (.inr (.inl ((-1 : Int), ())))) (
             .ob (idx x1.1 x1.2.2.1) fun e16 =>
             .br (e16.2.2.2.2.2.2.2.2.2.2.1 != (IntKind.i64.wrap (r14.1 + (1 : Int)))) (
              .leaf (.inr (.inl ((-1 : Int), ())))) (
              .ob (idx x1.1 x1.2.2.1) fun e17 =>
              .ob (V_l_heldByteS (e17.2.2.2.2.2.2.2.2.2.2.2.1, ()) ((IntKind.i64.wrap ((IntKind.i64.wrap (r14.1 + (1 : Int))) + (1 : Int))), ())) fun r18 =>
              .br (decide (r18.1 < (0 : Int))) (
               .leaf (.inr (.inl ((-1 : Int), ())))) (
               .ob (idx x1.1 x1.2.2.1) fun e19 =>
               .ob (V_l_heldByteS (e19.2.2.2.2.2.2.2.2.2.2.2.2.1, ()) r18) fun r20 =>
               .br (decide (r20.1 < (0 : Int))) (
                .leaf (.inr (.inl ((-1 : Int), ())))) (
                .leaf (.inl (x1.1, r20.1, (IntKind.i64.wrap (x1.2.2.1 + (1 : Int))), ())))))))))))))))) (
   .leaf (.inr (.inr (x1.2.1, ()))))
def T_l_heldOutS (a0 : (List YOut) × Unit) (a1 : YI) : Tree ((YI)) :=
  .ob (iterO B_l_heldOutS_2 (a0.1, a1.1, (0 : Int), ())) fun o21 =>
  .sm o21 (fun o22 =>
   .leaf o22) (fun o23 =>
   .leaf o23)
def V_l_heldOutS (a0 : (List YOut) × Unit) (a1 : YI) : Option ((YI)) := (T_l_heldOutS a0 a1).val
def B_l_heldNoteS_2 (x1 : (List YNote) × Int × Int × Unit) : Option (((List YNote) × Int × Int × Unit) ⊕ ((YI) ⊕ (YI))) :=
  Tree.val (α := ((List YNote) × Int × Int × Unit) ⊕ ((YI) ⊕ (YI))) <|
  .br (decide (x1.2.2.1 < (x1.1.length : Int))) (
   .ob (idx x1.1 x1.2.2.1) fun e2 =>
   .br (e2.1 != x1.2.1) (
    .leaf (.inr (.inl ((-1 : Int), ())))) (
    .ob (idx x1.1 x1.2.2.1) fun e3 =>
    .br (e3.2.1 != (IntKind.i64.wrap (x1.2.1 + (1 : Int)))) (
     .leaf (.inr (.inl ((-1 : Int), ())))) (
     .ob (idx x1.1 x1.2.2.1) fun e4 =>
     .br (e4.2.2.1 != (IntKind.i64.wrap ((IntKind.i64.wrap (x1.2.1 + (1 : Int))) + (1 : Int)))) (
      .leaf (.inr (.inl ((-1 : Int), ())))) (
      .ob (idx x1.1 x1.2.2.1) fun e5 =>
      .ob (V_l_heldByteS (e5.2.2.2.1, ()) ((IntKind.i64.wrap ((IntKind.i64.wrap ((IntKind.i64.wrap (x1.2.1 + (1 : Int))) + (1 : Int))) + (1 : Int))), ())) fun r6 =>
      .br (decide (r6.1 < (0 : Int))) (
       .leaf (.inr (.inl ((-1 : Int), ())))) (
       .ob (idx x1.1 x1.2.2.1) fun e7 =>
       .ob (V_l_heldByteS (e7.2.2.2.2.1, ()) r6) fun r8 =>
       .br (decide (r8.1 < (0 : Int))) (
        .leaf (.inr (.inl ((-1 : Int), ())))) (
        .ob (idx x1.1 x1.2.2.1) fun e9 =>
        .br (e9.2.2.2.2.2.1 != r8.1) (
         .leaf (.inr (.inl ((-1 : Int), ())))) (
         .ob (idx x1.1 x1.2.2.1) fun e10 =>
         .br (e10.2.2.2.2.2.2.1 != (IntKind.i64.wrap (r8.1 + (1 : Int)))) (
          .leaf (.inr (.inl ((-1 : Int), ())))) (
          .ob (idx x1.1 x1.2.2.1) fun e11 =>
          .ob (V_l_heldByteS (e11.2.2.2.2.2.2.2.1, ()) ((IntKind.i64.wrap ((IntKind.i64.wrap (r8.1 + (1 : Int))) + (1 : Int))), ())) fun r12 =>
          .br (decide (r12.1 < (0 : Int))) (
           .leaf (.inr (.inl ((-1 : Int), ())))) (
           .ob (idx x1.1 x1.2.2.1) fun e13 =>
           .ob (V_l_heldByteS (e13.2.2.2.2.2.2.2.2.1, ()) r12) fun r14 =>
           .br (decide (r14.1 < (0 : Int))) (
            .leaf (.inr (.inl ((-1 : Int), ())))) (
            .ob (idx x1.1 x1.2.2.1) fun e15 =>
            .br (e15.2.2.2.2.2.2.2.2.2.1 != r14.1) (
             .leaf (.inr (.inl ((-1 : Int), ())))) (
             .ob (idx x1.1 x1.2.2.1) fun e16 =>
             .br (e16.2.2.2.2.2.2.2.2.2.2.1 != (IntKind.i64.wrap (r14.1 + (1 : Int)))) (
              .leaf (.inr (.inl ((-1 : Int), ())))) (
              .ob (idx x1.1 x1.2.2.1) fun e17 =>
              .br (e17.2.2.2.2.2.2.2.2.2.2.2.1 != (IntKind.i64.wrap ((IntKind.i64.wrap (r14.1 + (1 : Int))) + (1 : Int)))) (
               .leaf (.inr (.inl ((-1 : Int), ())))) (
               .leaf (.inl (x1.1, (IntKind.i64.wrap ((IntKind.i64.wrap ((IntKind.i64.wrap (r14.1 + (1 : Int))) + (1 : Int))) + (1 : Int))), (IntKind.i64.wrap (x1.2.2.1 + (1 : Int))), ()))))))))))))))) (
   .leaf (.inr (.inr (x1.2.1, ()))))
def T_l_heldNoteS (a0 : (List YNote) × Unit) (a1 : YI) : Tree ((YI)) :=
  .ob (iterO B_l_heldNoteS_2 (a0.1, a1.1, (0 : Int), ())) fun o18 =>
  .sm o18 (fun o19 =>
   .leaf o19) (fun o20 =>
   .leaf o20)
def V_l_heldNoteS (a0 : (List YNote) × Unit) (a1 : YI) : Option ((YI)) := (T_l_heldNoteS a0 a1).val
def T_l_FnExactServerSend (a0 : YServer) (a1 : YI) (a2 : YI) (a3 : YBs) : Tree ((Bool × Unit)) :=
  .br (decide ((a3.1.length : Int) > (1048576 : Int))) (
   .leaf (true, ())) (
   .ob (V_l_szServer a0 ((1048576 : Int), ())) fun r1 =>
   .br (decide (r1.1 < (0 : Int))) (
    .leaf (true, ())) (
    .ob (V_l_toServer a0) fun r2 =>
    .ob (V_l_toByteS a3) fun r3 =>
    .ob (V_s_ServerSend r2 a1 a2 r3) fun r4 =>
    .ob (V_l_toServer a0) fun r5 =>
    .ob (V_l_toByteS a3) fun r6 =>
    .ob (V_i_ServerSend r5 a1 a2 r6) fun r7 =>
    .ob (V_l_eqServer r7.1 r4.1) fun r8 =>
    .br (!r8.1) (
     .leaf (false, ())) (
     .ob (V_l_eqOutS r7.2.1 r4.2.1) fun r9 =>
     .br (!r9.1) (
      .leaf (false, ())) (
      .ob (V_l_eqNoteS r7.2.2.1 r4.2.2.1) fun r10 =>
      .br (!r10.1) (
       .leaf (false, ())) (
       .br (r7.2.2.2.1 != r4.2.2.2.1) (
        .leaf (false, ())) (
        .ob (V_l_toServer a0) fun r11 =>
        .ob (V_l_eqServer r5 r11) fun r12 =>
        .br (!r12.1) (
         .leaf (false, ())) (
         .ob (V_l_toByteS a3) fun r13 =>
         .ob (V_l_eqByteS r6 r13) fun r14 =>
         .br (!r14.1) (
          .leaf (false, ())) (
          .ob (V_l_markServer r5 ((1 : Int), ())) fun r15 =>
          .ob (V_l_markByteS r6 r15.1) fun r16 =>
          .br (decide (r16.1.1 < (0 : Int))) (
           .leaf (false, ())) (
           .ob (V_l_eqServer r7.1 r4.1) fun r17 =>
           .br (!r17.1) (
            .leaf (false, ())) (
            .ob (V_l_eqOutS r7.2.1 r4.2.1) fun r18 =>
            .br (!r18.1) (
             .leaf (false, ())) (
             .ob (V_l_eqNoteS r7.2.2.1 r4.2.2.1) fun r19 =>
             .br (!r19.1) (
              .leaf (false, ())) (
              .br (r7.2.2.2.1 != r4.2.2.2.1) (
               .leaf (false, ())) (
               .ob (V_l_markServer r7.1 ((1 : Int), ())) fun r20 =>
               .ob (V_l_markOutS r7.2.1 r20.1) fun r21 =>
               .ob (V_l_markNoteS r7.2.2.1 r21.1) fun r22 =>
               .ob (V_l_heldServer (r20.2.1, r20.2.2.1, r20.2.2.2.1, r7.1.2.2.2.1, r7.1.2.2.2.2.1, r20.2.2.2.2.2.2.1, r20.2.2.2.2.2.2.2.1, ()) ((1 : Int), ())) fun r23 =>
               .br (decide (r23.1 < (0 : Int))) (
                .leaf (false, ())) (
                .ob (V_l_heldOutS r21.2 r23) fun r24 =>
                .br (decide (r24.1 < (0 : Int))) (
                 .leaf (false, ())) (
                 .ob (V_l_heldNoteS r22.2 r24) fun r25 =>
                 .br (decide (r25.1 < (0 : Int))) (
                  .leaf (false, ())) (
                  .br (r25.1 != r22.1.1) (
                   .leaf (false, ())) (
                   .ob (V_l_toServer a0) fun r26 =>
                   .ob (V_l_toByteS a3) fun r27 =>
                   .ob (V_i_ServerSend r26 a1 a2 r27) fun r28 =>
                   .ob (V_l_eqServer r28.1 r4.1) fun r29 =>
                   .br (!r29.1) (
                    .leaf (false, ())) (
                    .ob (V_l_eqOutS r28.2.1 r4.2.1) fun r30 =>
                    .br (!r30.1) (
                     .leaf (false, ())) (
                     .ob (V_l_eqNoteS r28.2.2.1 r4.2.2.1) fun r31 =>
                     .br (!r31.1) (
                      .leaf (false, ())) (
                      .br (r28.2.2.2.1 != r4.2.2.2.1) (
                       .leaf (false, ())) (
                       .ob (V_l_heldServer (r20.2.1, r20.2.2.1, r20.2.2.2.1, r7.1.2.2.2.1, r7.1.2.2.2.2.1, r20.2.2.2.2.2.2.1, r20.2.2.2.2.2.2.2.1, ()) ((1 : Int), ())) fun r32 =>
                       .br (decide (r32.1 < (0 : Int))) (
                        .leaf (false, ())) (
                        .ob (V_l_heldOutS r21.2 r32) fun r33 =>
                        .br (decide (r33.1 < (0 : Int))) (
                         .leaf (false, ())) (
                         .ob (V_l_heldNoteS r22.2 r33) fun r34 =>
                         .br (decide (r34.1 < (0 : Int))) (
                          .leaf (false, ())) (
                          .br (r34.1 != r22.1.1) (
                           .leaf (false, ())) (
                           .leaf (true, ()))))))))))))))))))))))))))
def V_l_FnExactServerSend (a0 : YServer) (a1 : YI) (a2 : YI) (a3 : YBs) : Option ((Bool × Unit)) := (T_l_FnExactServerSend a0 a1 a2 a3).val
end
end Go.Proofs.YtdlcjpjflckdlaaGreat

/-
  What the functions of the seat answer, as plain terms (printed by a program, proved in the texts P); nothing is assumed.
-/
import Derived.Test.YtmhhajdeafijmaaGreatW0
namespace Go.Proofs.YtmhhajdeafijmaaGreat
open Go.RowKit IntKind
set_option linter.unusedVariables false
set_option maxRecDepth 100000
set_option maxHeartbeats 4000000
noncomputable section
def Jn (a0:YBs):Tree ((Bool×Unit)):=
 .ob (Ays a0) fun r1=>
 .br r1.1 (
 .leaf (true,())) (
 .ob (Vz a0) fun r2=>letI u1:=r2.2.2;letI u2:=r2.1.2.2.2.2.2.2.2.2.2.2.2.2.2.2.2.2.2.2;
 .ob (Ly r2.1 r2.2.1 u1.1 u1.2.1 u1.2.2) fun r3=>letI u3:=r3.1.2.2.2.2.2.2.2;letI u4:=u3.2.2.2.2.2.2.2.2.2.2.2;
 .ob (Pv r2.1) fun r4=>
 .br (!r4.1) (
 .leaf (false,())) (
 .ob (Pv r3.1) fun r5=>
 .br (!r5.1) (
 .leaf (false,())) (
 .ob (Aea r3.2.1) fun r6=>
 .br (!r6.1) (
 .leaf (false,())) (
 .ob (Aah r3.2.2.1) fun r7=>
 .br (!r7.1) (
 .leaf (false,())) (
 .br u2.2.2.2.2.2.1 (
 .leaf (false,())) (
 .br ((r3.2.2.1.1.length:Int)==(0:Int)) (
 .ob (Wj r3.1 r2.1) fun r8=>
 .br r8.1 (
 .br ((r3.2.1.1.length:Int)==(0:Int)) (
 .leaf ((!r3.2.2.2.1),())) (
 .leaf (false,()))) (
 .leaf (false,()))) (
 .br (u4.2.2.2.2.1 != r2.2.1.1) (
 .leaf (false,())) (
 .br (!(and (u4.1==u2.1) (and (u4.2.1==u2.2.1) true))) (
 .br (!(and (u4.1==u1.1.1) (and (u4.2.1==u1.1.2.1) true))) (
 .leaf (false,())) (
 .ob (Kd (u4.1,u4.2.1,u4.2.2.1,()) u1.1) fun r9=>
 .br r3.2.2.2.1 (
 .br (decide ((i64.wrap ((r3.2.1.1.length:Int)-(1:Int)))≥(0:Int))) (
 .br r9.2.1 (
 .ob (Hx (r9.1.2.2.1,()) u1.2.2) fun r10=>
 .br r10.1 (
 .ob (idx r3.2.1.1 (i64.wrap ((r3.2.1.1.length:Int)-(1:Int)))) fun e11=>
 .br (and (e11.1==u1.1.1) (and (e11.2.1==u1.1.2.1) true)) (
 .ob (idx r3.2.1.1 (i64.wrap ((r3.2.1.1.length:Int)-(1:Int)))) fun e12=>
 .br (e12.2.2.1==(5:Int)) (
 .leaf ((!(and (u4.1==u1.1.1) (and (u4.2.1==u1.1.2.1) true))),())) (
 .leaf (false,()))) (
 .leaf (false,()))) (
 .leaf (false,()))) (
 .leaf (false,()))) (
 .leaf (false,()))) (
 .br (and (u4.1==u1.1.1) (and (u4.2.1==u1.1.2.1) true)) (
 .leaf (true,())) (
 .br r9.2.1 (
 .leaf (true,())) (
 .br ((r3.1.2.2.2.2.2.2.2.2.2.2.2.2.2.2.2.2.2.2.2.2.1.length:Int)==(3:Int)) (
 .leaf (true,())) (
 .br (u3.1==(281474976710656:Int)) (
 .leaf (true,())) (
 .leaf ((decide ((r2.1.2.2.2.2.2.2.2.2.2.2.2.2.2.2.2.2.2.2.2.2.1.length:Int)>(0:Int))),())))))))) (
 .ob (Kd (u4.1,u4.2.1,u4.2.2.1,()) u1.1) fun r13=>
 .br r3.2.2.2.1 (
 .br (decide ((i64.wrap ((r3.2.1.1.length:Int)-(1:Int)))≥(0:Int))) (
 .br r13.2.1 (
 .ob (Hx (r13.1.2.2.1,()) u1.2.2) fun r14=>
 .br r14.1 (
 .ob (idx r3.2.1.1 (i64.wrap ((r3.2.1.1.length:Int)-(1:Int)))) fun e15=>
 .br (and (e15.1==u1.1.1) (and (e15.2.1==u1.1.2.1) true)) (
 .ob (idx r3.2.1.1 (i64.wrap ((r3.2.1.1.length:Int)-(1:Int)))) fun e16=>
 .br (e16.2.2.1==(5:Int)) (
 .leaf ((!(and (u4.1==u1.1.1) (and (u4.2.1==u1.1.2.1) true))),())) (
 .leaf (false,()))) (
 .leaf (false,()))) (
 .leaf (false,()))) (
 .leaf (false,()))) (
 .leaf (false,()))) (
 .br (and (u4.1==u1.1.1) (and (u4.2.1==u1.1.2.1) true)) (
 .leaf (true,())) (
 .br r13.2.1 (
 .leaf (true,())) (
 .br ((r3.1.2.2.2.2.2.2.2.2.2.2.2.2.2.2.2.2.2.2.2.2.1.length:Int)==(3:Int)) (
 .leaf (true,())) (
 .br (u3.1==(281474976710656:Int)) (
 .leaf (true,())) (
 .leaf ((decide ((r2.1.2.2.2.2.2.2.2.2.2.2.2.2.2.2.2.2.2.2.2.2.1.length:Int)>(0:Int))),())))))))))))))))
def Abm (a0:YBs):Option ((Bool×Unit)):=(Jn a0).val
end
end Go.Proofs.YtmhhajdeafijmaaGreat

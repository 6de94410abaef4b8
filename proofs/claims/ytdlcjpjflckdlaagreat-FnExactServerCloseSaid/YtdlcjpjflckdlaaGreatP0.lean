/-
  That the functions of the seat answer what the terms of text W say; nothing is assumed.
-/
import Derived.Test.YtdlcjpjflckdlaaGreatW
import Derived.Test.YtdlcjpjflckdlaaGreatProg
import Derived.KernelRfl
namespace Go.Proofs.YtdlcjpjflckdlaaGreat
open Go.RowKit
set_option linter.unusedVariables false
set_option maxRecDepth 100000
set_option maxHeartbeats 4000000
noncomputable section
abbrev h_0 : List Sh := [.int .i64, .int .i64, .bool, .int .u8]
abbrev h_1 : List Sh := [.bool, .int .i64, .int .i64, .int .i64]
abbrev h_2 : List Sh := [.int .i64, .int .i64, .int .i64, .int .i64]
abbrev h_3 : List Sh := [.sl 3 [.int .i64], .sl 5 [.int .u8], .int .i64]
abbrev h_4 : List Sh := [.int .i64, .int .i64, .sl 5 [.int .u8], .int .i64]
abbrev h_5 : List Sh := [.int .i64, .sl 5 [.int .u8], .int .i64, .int .i64, .sl 3 [.int .i64]]
abbrev h_6 : List Sh := [.int .i64, .int .i64, .sl 272 h_4]
abbrev h_7 : List Sh := [.int .i64, .int .i64, .sl 274 h_4]
abbrev h_8 : List Sh := [.int .i64, .int .i64, .int .i64, .sl 5 [.int .u8], .sl 5 [.int .u8], .int .i64, .int .i64, .sl 5 [.int .u8], .sl 5 [.int .u8], .int .i64, .int .i64, .int .i64]
abbrev h_9 : List Sh := [.int .i64, .int .i64, .sl 5 [.int .u8], .sl 5 [.int .u8], .int .i64, .sl 5 [.int .u8], .sl 5 [.int .u8], .int .i64, .int .i64, .sl 5 [.int .u8], .sl 5 [.int .u8]]
abbrev h_10 : List Sh := [.int .i64, .int .i64, .int .i64, .int .i64, .sl 5 [.int .u8], .sl 5 [.int .u8], .int .i64, .sl 5 [.int .u8], .sl 5 [.int .u8], .int .i64, .int .i64, .sl 5 [.int .u8], .sl 5 [.int .u8]]
abbrev h_11 : List Sh := [.int .i64, .sl 5 [.int .u8], .int .i64, .sl 5 [.int .u8], .int .i64, .int .i64, .sl 3 [.int .i64], .int .i64, .sl 5 [.int .u8], .int .i64, .int .i64, .sl 3 [.int .i64], .bool, .int .i64, .sl 5 [.int .u8]]
abbrev h_12 : List Sh := [.int .i64, .sl 5 [.int .u8], .sl 5 [.int .u8], .int .i64, .sl 5 [.int .u8], .int .i64, .sl 5 [.int .u8], .int .i64, .int .i64, .sl 3 [.int .i64], .int .i64, .sl 5 [.int .u8], .int .i64, .int .i64, .sl 3 [.int .i64], .bool, .int .i64, .sl 5 [.int .u8], .int .i64, .int .i64, .sl 272 h_4, .int .i64, .int .i64, .bool]
abbrev h_13 : List Sh := [.int .i64, .sl 5 [.int .u8], .sl 5 [.int .u8], .int .i64, .sl 5 [.int .u8], .int .i64, .sl 5 [.int .u8], .int .i64, .int .i64, .sl 3 [.int .i64], .int .i64, .sl 5 [.int .u8], .int .i64, .int .i64, .sl 3 [.int .i64], .bool, .int .i64, .sl 5 [.int .u8], .int .i64, .int .i64, .sl 274 h_4, .int .i64, .int .i64, .bool]
abbrev h_14 : List Sh := [.sl 23 [.sl 5 [.int .u8]], .sl 5 [.int .u8], .sl 5 [.int .u8], .int .i64, .int .i64, .sl 94 h_12, .sl 221 h_2]
abbrev h_15 : List Sh := [.sl 23 [.sl 5 [.int .u8]], .sl 5 [.int .u8], .sl 5 [.int .u8], .int .i64, .int .i64, .sl 100 h_13, .sl 218 h_2]
abbrev h_16 : List Sh := [.int .i64, .sl 5 [.int .u8], .int .i64, .int .i64, .int .i64, .sl 5 [.int .u8], .int .i64, .int .i64, .sl 5 [.int .u8], .sl 5 [.int .u8], .int .i64, .sl 5 [.int .u8], .sl 5 [.int .u8], .int .i64, .int .i64, .sl 5 [.int .u8], .sl 5 [.int .u8], .int .i64, .sl 5 [.int .u8], .int .i64, .sl 5 [.int .u8], .int .i64, .int .i64, .sl 3 [.int .i64], .int .i64, .sl 5 [.int .u8], .int .i64, .int .i64, .sl 3 [.int .i64], .bool, .int .i64, .sl 5 [.int .u8], .bool, .int .i64, .int .i64, .int .i64, .bool, .int .i64, .int .i64, .int .i64, .int .i64]
def tys : List (Nat × Ty) := [(3, ⟨false, [.int .i64], [], false⟩),
  (4, ⟨false, [.bool], [], false⟩),
  (5, ⟨false, [.int .u8], [], false⟩),
  (9, ⟨false, [.str], [], false⟩),
  (22, ⟨false, [.sl 23 [.sl 5 [.int .u8]]], [], false⟩),
  (23, ⟨false, [.sl 5 [.int .u8]], [], false⟩),
  (25, ⟨true, [.sl 5 [.int .u8]], [(0, 1)], false⟩),
  (27, ⟨true, [.sl 5 [.int .u8], .int .i64], [(0, 1), (1, 1)], false⟩),
  (28, ⟨false, [.sl 94 [.int .i64, .sl 5 [.int .u8], .sl 5 [.int .u8], .int .i64, .sl 5 [.int .u8], .int .i64, .sl 5 [.int .u8], .int .i64, .int .i64, .sl 3 [.int .i64], .int .i64, .sl 5 [.int .u8], .int .i64, .int .i64, .sl 3 [.int .i64], .bool, .int .i64, .sl 5 [.int .u8], .int .i64, .int .i64, .sl 272 [.int .i64, .int .i64, .sl 5 [.int .u8], .int .i64], .int .i64, .int .i64, .bool]], [], false⟩),
  (30, ⟨true, [.int .i64, .sl 94 [.int .i64, .sl 5 [.int .u8], .sl 5 [.int .u8], .int .i64, .sl 5 [.int .u8], .int .i64, .sl 5 [.int .u8], .int .i64, .int .i64, .sl 3 [.int .i64], .int .i64, .sl 5 [.int .u8], .int .i64, .int .i64, .sl 3 [.int .i64], .bool, .int .i64, .sl 5 [.int .u8], .int .i64, .int .i64, .sl 272 [.int .i64, .int .i64, .sl 5 [.int .u8], .int .i64], .int .i64, .int .i64, .bool]], [(0, 1), (1, 1)], false⟩),
  (31, ⟨false, [.sl 221 [.int .i64, .int .i64, .int .i64, .int .i64]], [], false⟩),
  (33, ⟨true, [.sl 23 [.sl 5 [.int .u8]], .sl 5 [.int .u8], .sl 5 [.int .u8], .int .i64, .int .i64, .sl 94 [.int .i64, .sl 5 [.int .u8], .sl 5 [.int .u8], .int .i64, .sl 5 [.int .u8], .int .i64, .sl 5 [.int .u8], .int .i64, .int .i64, .sl 3 [.int .i64], .int .i64, .sl 5 [.int .u8], .int .i64, .int .i64, .sl 3 [.int .i64], .bool, .int .i64, .sl 5 [.int .u8], .int .i64, .int .i64, .sl 272 [.int .i64, .int .i64, .sl 5 [.int .u8], .int .i64], .int .i64, .int .i64, .bool], .sl 221 [.int .i64, .int .i64, .int .i64, .int .i64]], [(0, 1), (1, 1), (2, 2), (4, 2), (6, 1)], false⟩),
  (35, ⟨true, [.sl 5 [.int .u8]], [(0, 1)], false⟩),
  (36, ⟨true, [.sl 5 [.int .u8], .int .i64], [(0, 1), (1, 1)], false⟩),
  (37, ⟨false, [.sl 100 [.int .i64, .sl 5 [.int .u8], .sl 5 [.int .u8], .int .i64, .sl 5 [.int .u8], .int .i64, .sl 5 [.int .u8], .int .i64, .int .i64, .sl 3 [.int .i64], .int .i64, .sl 5 [.int .u8], .int .i64, .int .i64, .sl 3 [.int .i64], .bool, .int .i64, .sl 5 [.int .u8], .int .i64, .int .i64, .sl 274 [.int .i64, .int .i64, .sl 5 [.int .u8], .int .i64], .int .i64, .int .i64, .bool]], [], false⟩),
  (39, ⟨true, [.int .i64, .sl 100 [.int .i64, .sl 5 [.int .u8], .sl 5 [.int .u8], .int .i64, .sl 5 [.int .u8], .int .i64, .sl 5 [.int .u8], .int .i64, .int .i64, .sl 3 [.int .i64], .int .i64, .sl 5 [.int .u8], .int .i64, .int .i64, .sl 3 [.int .i64], .bool, .int .i64, .sl 5 [.int .u8], .int .i64, .int .i64, .sl 274 [.int .i64, .int .i64, .sl 5 [.int .u8], .int .i64], .int .i64, .int .i64, .bool]], [(0, 1), (1, 1)], false⟩),
  (40, ⟨false, [.sl 218 [.int .i64, .int .i64, .int .i64, .int .i64]], [], false⟩),
  (42, ⟨true, [.sl 23 [.sl 5 [.int .u8]], .sl 5 [.int .u8], .sl 5 [.int .u8], .int .i64, .int .i64, .sl 100 [.int .i64, .sl 5 [.int .u8], .sl 5 [.int .u8], .int .i64, .sl 5 [.int .u8], .int .i64, .sl 5 [.int .u8], .int .i64, .int .i64, .sl 3 [.int .i64], .int .i64, .sl 5 [.int .u8], .int .i64, .int .i64, .sl 3 [.int .i64], .bool, .int .i64, .sl 5 [.int .u8], .int .i64, .int .i64, .sl 274 [.int .i64, .int .i64, .sl 5 [.int .u8], .int .i64], .int .i64, .int .i64, .bool], .sl 218 [.int .i64, .int .i64, .int .i64, .int .i64]], [(0, 1), (1, 1), (2, 2), (4, 2), (6, 1)], false⟩),
  (43, ⟨false, [.sl 139 [.int .i64, .int .i64, .int .i64, .sl 5 [.int .u8], .sl 5 [.int .u8], .int .i64, .int .i64, .sl 5 [.int .u8], .sl 5 [.int .u8], .int .i64, .int .i64, .int .i64]], [], false⟩),
  (53, ⟨true, [.int .i64, .int .i64], [(0, 1), (1, 1)], true⟩),
  (56, ⟨false, [.sl 3 [.int .i64]], [], false⟩),
  (58, ⟨true, [.int .i64, .sl 3 [.int .i64]], [(0, 1), (1, 1)], false⟩),
  (60, ⟨true, [.int .i64, .sl 5 [.int .u8], .int .i64, .int .i64, .sl 3 [.int .i64]], [(0, 1), (1, 1), (2, 1), (3, 2)], false⟩),
  (62, ⟨true, [.int .i64, .sl 5 [.int .u8], .int .i64, .sl 5 [.int .u8], .int .i64, .int .i64, .sl 3 [.int .i64], .int .i64, .sl 5 [.int .u8], .int .i64, .int .i64, .sl 3 [.int .i64], .bool, .int .i64, .sl 5 [.int .u8]], [(0, 1), (1, 1), (2, 5), (7, 5), (12, 1), (13, 1), (14, 1)], false⟩),
  (68, ⟨true, [.int .i64, .int .i64], [(0, 1), (1, 1)], true⟩),
  (70, ⟨true, [.int .i64, .sl 3 [.int .i64]], [(0, 1), (1, 1)], false⟩),
  (72, ⟨true, [.int .i64, .sl 5 [.int .u8], .int .i64, .int .i64, .sl 3 [.int .i64]], [(0, 1), (1, 1), (2, 1), (3, 2)], false⟩),
  (74, ⟨true, [.int .i64, .sl 5 [.int .u8], .int .i64, .sl 5 [.int .u8], .int .i64, .int .i64, .sl 3 [.int .i64], .int .i64, .sl 5 [.int .u8], .int .i64, .int .i64, .sl 3 [.int .i64], .bool, .int .i64, .sl 5 [.int .u8]], [(0, 1), (1, 1), (2, 5), (7, 5), (12, 1), (13, 1), (14, 1)], false⟩),
  (90, ⟨false, [.sl 272 [.int .i64, .int .i64, .sl 5 [.int .u8], .int .i64]], [], false⟩),
  (92, ⟨true, [.int .i64, .int .i64, .sl 272 [.int .i64, .int .i64, .sl 5 [.int .u8], .int .i64]], [(0, 2), (2, 1)], false⟩),
  (94, ⟨true, [.int .i64, .sl 5 [.int .u8], .sl 5 [.int .u8], .int .i64, .sl 5 [.int .u8], .int .i64, .sl 5 [.int .u8], .int .i64, .int .i64, .sl 3 [.int .i64], .int .i64, .sl 5 [.int .u8], .int .i64, .int .i64, .sl 3 [.int .i64], .bool, .int .i64, .sl 5 [.int .u8], .int .i64, .int .i64, .sl 272 [.int .i64, .int .i64, .sl 5 [.int .u8], .int .i64], .int .i64, .int .i64, .bool], [(0, 1), (1, 1), (2, 1), (3, 15), (18, 3), (21, 1), (22, 1), (23, 1)], false⟩),
  (96, ⟨false, [.sl 274 [.int .i64, .int .i64, .sl 5 [.int .u8], .int .i64]], [], false⟩),
  (98, ⟨true, [.int .i64, .int .i64, .sl 274 [.int .i64, .int .i64, .sl 5 [.int .u8], .int .i64]], [(0, 2), (2, 1)], false⟩),
  (100, ⟨true, [.int .i64, .sl 5 [.int .u8], .sl 5 [.int .u8], .int .i64, .sl 5 [.int .u8], .int .i64, .sl 5 [.int .u8], .int .i64, .int .i64, .sl 3 [.int .i64], .int .i64, .sl 5 [.int .u8], .int .i64, .int .i64, .sl 3 [.int .i64], .bool, .int .i64, .sl 5 [.int .u8], .int .i64, .int .i64, .sl 274 [.int .i64, .int .i64, .sl 5 [.int .u8], .int .i64], .int .i64, .int .i64, .bool], [(0, 1), (1, 1), (2, 1), (3, 15), (18, 3), (21, 1), (22, 1), (23, 1)], false⟩),
  (139, ⟨true, [.int .i64, .int .i64, .int .i64, .sl 5 [.int .u8], .sl 5 [.int .u8], .int .i64, .int .i64, .sl 5 [.int .u8], .sl 5 [.int .u8], .int .i64, .int .i64, .int .i64], [(0, 1), (1, 1), (2, 1), (3, 1), (4, 1), (5, 1), (6, 1), (7, 1), (8, 1), (9, 2), (11, 1)], false⟩),
  (218, ⟨true, [.int .i64, .int .i64, .int .i64, .int .i64], [(0, 2), (2, 1), (3, 1)], false⟩),
  (221, ⟨true, [.int .i64, .int .i64, .int .i64, .int .i64], [(0, 2), (2, 1), (3, 1)], false⟩),
  (272, ⟨true, [.int .i64, .int .i64, .sl 5 [.int .u8], .int .i64], [(0, 2), (2, 1), (3, 1)], false⟩),
  (274, ⟨true, [.int .i64, .int .i64, .sl 5 [.int .u8], .int .i64], [(0, 2), (2, 1), (3, 1)], false⟩)]
theorem tys_ok : tysB Tryz.prog tys = true := by kernel_rfl
theorem mixed : Tryz.prog.follows .mixedOrders = true := by kernel_rfl
def P_l_szByteS : List (Bool × List Sh) := [(false, [.sl 5 [.int .u8]]), (false, [.int .i64])]
def O_l_szByteS (r : (YI)) : List RV × List RV := ([rv (false, [.int .i64]) r], [])
def C_l_szByteS : Fns := []
def F_l_szByteS : Fun1 := funV P_l_szByteS (fun d => (T_l_szByteS d.1 d.2.1).val) O_l_szByteS
def Q_l_szByteS : Loops := fun _ _ => .fail
theorem e_l_szByteS : ∀ d, pcall ⟨lookT tys, ctrOf C_l_szByteS, kindOf C_l_szByteS, 3, 4⟩ 0 Q_l_szByteS Tryz.f98 .plain (mkA P_l_szByteS d) = (T_l_szByteS d.1 d.2.1).run fun r => some (O_l_szByteS r) := fun d => by kernel_rfl
theorem fn_l_szByteS : Fn Tryz.prog 98 .plain F_l_szByteS := fn_of (cfgOk_of mixed tys_ok (show FnsOk Tryz.prog C_l_szByteS from trivial)) Tryz.func98 (by kernel_rfl) (by kernel_rfl) (fun cx b hp hb => all_of (by kernel_rfl : loopsOf (Tryz.f98.body.getD .skip) = []) trivial b hb) (R := (YI)) (T := fun (d : aden P_l_szByteS) => T_l_szByteS d.1 d.2.1) e_l_szByteS
def P_l_szByteSS : List (Bool × List Sh) := [(false, [.sl 23 [.sl 5 [.int .u8]]]), (false, [.int .i64])]
def O_l_szByteSS (r : (YI)) : List RV × List RV := ([rv (false, [.int .i64]) r], [])
def C_l_szByteSS : Fns := [(98, .plain, F_l_szByteS)]
def F_l_szByteSS : Fun1 := funV P_l_szByteSS (fun d => (T_l_szByteSS d.1 d.2.1).val) O_l_szByteSS
def K_l_szByteSS_5 : Sk := ⟨[(0, .v false [(.sl 23 [.sl 5 [.int .u8]], .ro)]), (1, .v false [(.int .i64, .nil)]), (5, .v false [(.int .i64, .nil)])], [], []⟩
def X_l_szByteSS_5 : List (Ex × Sk) := [(.ret, ⟨[(4, .v false [(.int .i64, .nil)])], [], []⟩), ((.exit 0), ⟨[(1, .v false [(.int .i64, .nil)])], [], []⟩)]
def Q_l_szByteSS : Loops := fun i st => cond (Nat.beq i 5) (lam K_l_szByteSS_5 6000000 X_l_szByteSS_5 B_l_szByteSS_5 st) <| .fail
theorem lp_l_szByteSS_5 : ∀ d, bod ⟨lookT tys, ctrOf C_l_szByteSS, kindOf C_l_szByteSS, 3, 4⟩ 0 Tryz.f61.ntmps Q_l_szByteSS (nthLoop Tryz.f61 0) K_l_szByteSS_5 6000000 X_l_szByteSS_5 d = B_l_szByteSS_5 d := fun d => by kernel_rfl
theorem lo_l_szByteSS_5 (cx : Cx) (hp : cx.pin.length ≤ 0) : LoopOk Tryz.prog cx Tryz.f61.ntmps Q_l_szByteSS (nthLoop Tryz.f61 0) := loop_of (cfgOk_of mixed tys_ok (show FnsOk Tryz.prog C_l_szByteSS from ⟨fn_l_szByteS, trivial⟩)) hp (all_of (by kernel_rfl : loopsOf (nthLoop Tryz.f61 0) = []) trivial) (by kernel_rfl) lp_l_szByteSS_5
theorem e_l_szByteSS : ∀ d, pcall ⟨lookT tys, ctrOf C_l_szByteSS, kindOf C_l_szByteSS, 3, 4⟩ 0 Q_l_szByteSS Tryz.f61 .plain (mkA P_l_szByteSS d) = (T_l_szByteSS d.1 d.2.1).run fun r => some (O_l_szByteSS r) := fun d => by kernel_rfl
theorem fn_l_szByteSS : Fn Tryz.prog 61 .plain F_l_szByteSS := fn_of (cfgOk_of mixed tys_ok (show FnsOk Tryz.prog C_l_szByteSS from ⟨fn_l_szByteS, trivial⟩)) Tryz.func61 (by kernel_rfl) (by kernel_rfl) (fun cx b hp hb => all_of (by kernel_rfl : loopsOf (Tryz.f61.body.getD .skip) = [nthLoop Tryz.f61 0]) ⟨lo_l_szByteSS_5 cx hp, trivial⟩ b hb) (R := (YI)) (T := fun (d : aden P_l_szByteSS) => T_l_szByteSS d.1 d.2.1) e_l_szByteSS
def P_l_szJar : List (Bool × List Sh) := [(true, [.sl 5 [.int .u8]]), (false, [.int .i64])]
def O_l_szJar (r : (YI)) : List RV × List RV := ([rv (false, [.int .i64]) r], [])
def C_l_szJar : Fns := [(98, .plain, F_l_szByteS)]
def F_l_szJar : Fun1 := funV P_l_szJar (fun d => (T_l_szJar d.1 d.2.1).val) O_l_szJar
def Q_l_szJar : Loops := fun _ _ => .fail
theorem e_l_szJar : ∀ d, pcall ⟨lookT tys, ctrOf C_l_szJar, kindOf C_l_szJar, 3, 4⟩ 0 Q_l_szJar Tryz.f62 .plain (mkA P_l_szJar d) = (T_l_szJar d.1 d.2.1).run fun r => some (O_l_szJar r) := fun d => by kernel_rfl
theorem fn_l_szJar : Fn Tryz.prog 62 .plain F_l_szJar := fn_of (cfgOk_of mixed tys_ok (show FnsOk Tryz.prog C_l_szJar from ⟨fn_l_szByteS, trivial⟩)) Tryz.func62 (by kernel_rfl) (by kernel_rfl) (fun cx b hp hb => all_of (by kernel_rfl : loopsOf (Tryz.f62.body.getD .skip) = []) trivial b hb) (R := (YI)) (T := fun (d : aden P_l_szJar) => T_l_szJar d.1 d.2.1) e_l_szJar
def P_l_szDice : List (Bool × List Sh) := [(true, [.sl 5 [.int .u8], .int .i64]), (false, [.int .i64])]
def O_l_szDice (r : (YI)) : List RV × List RV := ([rv (false, [.int .i64]) r], [])
def C_l_szDice : Fns := [(98, .plain, F_l_szByteS)]
def F_l_szDice : Fun1 := funV P_l_szDice (fun d => (T_l_szDice d.1 d.2.1).val) O_l_szDice
def Q_l_szDice : Loops := fun _ _ => .fail
theorem e_l_szDice : ∀ d, pcall ⟨lookT tys, ctrOf C_l_szDice, kindOf C_l_szDice, 3, 4⟩ 0 Q_l_szDice Tryz.f63 .plain (mkA P_l_szDice d) = (T_l_szDice d.1 d.2.1).run fun r => some (O_l_szDice r) := fun d => by kernel_rfl
theorem fn_l_szDice : Fn Tryz.prog 63 .plain F_l_szDice := fn_of (cfgOk_of mixed tys_ok (show FnsOk Tryz.prog C_l_szDice from ⟨fn_l_szByteS, trivial⟩)) Tryz.func63 (by kernel_rfl) (by kernel_rfl) (fun cx b hp hb => all_of (by kernel_rfl : loopsOf (Tryz.f63.body.getD .skip) = []) trivial b hb) (R := (YI)) (T := fun (d : aden P_l_szDice) => T_l_szDice d.1 d.2.1) e_l_szDice
def P_l_szIntS : List (Bool × List Sh) := [(false, [.sl 3 [.int .i64]]), (false, [.int .i64])]
def O_l_szIntS (r : (YI)) : List RV × List RV := ([rv (false, [.int .i64]) r], [])
def C_l_szIntS : Fns := []
def F_l_szIntS : Fun1 := funV P_l_szIntS (fun d => (T_l_szIntS d.1 d.2.1).val) O_l_szIntS
def Q_l_szIntS : Loops := fun _ _ => .fail
theorem e_l_szIntS : ∀ d, pcall ⟨lookT tys, ctrOf C_l_szIntS, kindOf C_l_szIntS, 3, 4⟩ 0 Q_l_szIntS Tryz.f304 .plain (mkA P_l_szIntS d) = (T_l_szIntS d.1 d.2.1).run fun r => some (O_l_szIntS r) := fun d => by kernel_rfl
theorem fn_l_szIntS : Fn Tryz.prog 304 .plain F_l_szIntS := fn_of (cfgOk_of mixed tys_ok (show FnsOk Tryz.prog C_l_szIntS from trivial)) Tryz.func304 (by kernel_rfl) (by kernel_rfl) (fun cx b hp hb => all_of (by kernel_rfl : loopsOf (Tryz.f304.body.getD .skip) = []) trivial b hb) (R := (YI)) (T := fun (d : aden P_l_szIntS) => T_l_szIntS d.1 d.2.1) e_l_szIntS
def P_l_szWin : List (Bool × List Sh) := [(true, [.int .i64, .sl 3 [.int .i64]]), (false, [.int .i64])]
def O_l_szWin (r : (YI)) : List RV × List RV := ([rv (false, [.int .i64]) r], [])
def C_l_szWin : Fns := [(304, .plain, F_l_szIntS)]
def F_l_szWin : Fun1 := funV P_l_szWin (fun d => (T_l_szWin d.1 d.2.1).val) O_l_szWin
def Q_l_szWin : Loops := fun _ _ => .fail
theorem e_l_szWin : ∀ d, pcall ⟨lookT tys, ctrOf C_l_szWin, kindOf C_l_szWin, 3, 4⟩ 0 Q_l_szWin Tryz.f264 .plain (mkA P_l_szWin d) = (T_l_szWin d.1 d.2.1).run fun r => some (O_l_szWin r) := fun d => by kernel_rfl
theorem fn_l_szWin : Fn Tryz.prog 264 .plain F_l_szWin := fn_of (cfgOk_of mixed tys_ok (show FnsOk Tryz.prog C_l_szWin from ⟨fn_l_szIntS, trivial⟩)) Tryz.func264 (by kernel_rfl) (by kernel_rfl) (fun cx b hp hb => all_of (by kernel_rfl : loopsOf (Tryz.f264.body.getD .skip) = []) trivial b hb) (R := (YI)) (T := fun (d : aden P_l_szWin) => T_l_szWin d.1 d.2.1) e_l_szWin
def P_l_szEp : List (Bool × List Sh) := [(true, h_5), (false, [.int .i64])]
def O_l_szEp (r : (YI)) : List RV × List RV := ([rv (false, [.int .i64]) r], [])
def C_l_szEp : Fns := [(98, .plain, F_l_szByteS), (264, .plain, F_l_szWin)]
def F_l_szEp : Fun1 := funV P_l_szEp (fun d => (T_l_szEp d.1 d.2.1).val) O_l_szEp
def Q_l_szEp : Loops := fun _ _ => .fail
theorem e_l_szEp : ∀ d, pcall ⟨lookT tys, ctrOf C_l_szEp, kindOf C_l_szEp, 3, 4⟩ 0 Q_l_szEp Tryz.f195 .plain (mkA P_l_szEp d) = (T_l_szEp d.1 d.2.1).run fun r => some (O_l_szEp r) := fun d => by kernel_rfl
theorem fn_l_szEp : Fn Tryz.prog 195 .plain F_l_szEp := fn_of (cfgOk_of mixed tys_ok (show FnsOk Tryz.prog C_l_szEp from ⟨fn_l_szByteS, fn_l_szWin, trivial⟩)) Tryz.func195 (by kernel_rfl) (by kernel_rfl) (fun cx b hp hb => all_of (by kernel_rfl : loopsOf (Tryz.f195.body.getD .skip) = []) trivial b hb) (R := (YI)) (T := fun (d : aden P_l_szEp) => T_l_szEp d.1 d.2.1) e_l_szEp
def P_l_szChan : List (Bool × List Sh) := [(true, h_11), (false, [.int .i64])]
def O_l_szChan (r : (YI)) : List RV × List RV := ([rv (false, [.int .i64]) r], [])
def C_l_szChan : Fns := [(98, .plain, F_l_szByteS), (195, .plain, F_l_szEp)]
def F_l_szChan : Fun1 := funV P_l_szChan (fun d => (T_l_szChan d.1 d.2.1).val) O_l_szChan
def Q_l_szChan : Loops := fun _ _ => .fail
theorem e_l_szChan : ∀ d, pcall ⟨lookT tys, ctrOf C_l_szChan, kindOf C_l_szChan, 3, 4⟩ 0 Q_l_szChan Tryz.f99 .plain (mkA P_l_szChan d) = (T_l_szChan d.1 d.2.1).run fun r => some (O_l_szChan r) := fun d => by kernel_rfl
theorem fn_l_szChan : Fn Tryz.prog 99 .plain F_l_szChan := fn_of (cfgOk_of mixed tys_ok (show FnsOk Tryz.prog C_l_szChan from ⟨fn_l_szByteS, fn_l_szEp, trivial⟩)) Tryz.func99 (by kernel_rfl) (by kernel_rfl) (fun cx b hp hb => all_of (by kernel_rfl : loopsOf (Tryz.f99.body.getD .skip) = []) trivial b hb) (R := (YI)) (T := fun (d : aden P_l_szChan) => T_l_szChan d.1 d.2.1) e_l_szChan
def P_l_szCand : List (Bool × List Sh) := [(true, h_4), (false, [.int .i64])]
def O_l_szCand (r : (YI)) : List RV × List RV := ([rv (false, [.int .i64]) r], [])
def C_l_szCand : Fns := [(98, .plain, F_l_szByteS)]
def F_l_szCand : Fun1 := funV P_l_szCand (fun d => (T_l_szCand d.1 d.2.1).val) O_l_szCand
def Q_l_szCand : Loops := fun _ _ => .fail
theorem e_l_szCand : ∀ d, pcall ⟨lookT tys, ctrOf C_l_szCand, kindOf C_l_szCand, 3, 4⟩ 0 Q_l_szCand Tryz.f282 .plain (mkA P_l_szCand d) = (T_l_szCand d.1 d.2.1).run fun r => some (O_l_szCand r) := fun d => by kernel_rfl
theorem fn_l_szCand : Fn Tryz.prog 282 .plain F_l_szCand := fn_of (cfgOk_of mixed tys_ok (show FnsOk Tryz.prog C_l_szCand from ⟨fn_l_szByteS, trivial⟩)) Tryz.func282 (by kernel_rfl) (by kernel_rfl) (fun cx b hp hb => all_of (by kernel_rfl : loopsOf (Tryz.f282.body.getD .skip) = []) trivial b hb) (R := (YI)) (T := fun (d : aden P_l_szCand) => T_l_szCand d.1 d.2.1) e_l_szCand
def P_l_szCandS : List (Bool × List Sh) := [(false, [.sl 272 h_4]), (false, [.int .i64])]
def O_l_szCandS (r : (YI)) : List RV × List RV := ([rv (false, [.int .i64]) r], [])
def C_l_szCandS : Fns := [(282, .plain, F_l_szCand)]
def F_l_szCandS : Fun1 := funV P_l_szCandS (fun d => (T_l_szCandS d.1 d.2.1).val) O_l_szCandS
def K_l_szCandS_5 : Sk := ⟨[(0, .v false [(.sl 272 h_4, .ro)]), (1, .v false [(.int .i64, .nil)]), (5, .v false [(.int .i64, .nil)])], [], []⟩
def X_l_szCandS_5 : List (Ex × Sk) := [(.ret, ⟨[(4, .v false [(.int .i64, .nil)])], [], []⟩), ((.exit 0), ⟨[(1, .v false [(.int .i64, .nil)])], [], []⟩)]
def Q_l_szCandS : Loops := fun i st => cond (Nat.beq i 5) (lam K_l_szCandS_5 6000000 X_l_szCandS_5 B_l_szCandS_5 st) <| .fail
theorem lp_l_szCandS_5 : ∀ d, bod ⟨lookT tys, ctrOf C_l_szCandS, kindOf C_l_szCandS, 3, 4⟩ 0 Tryz.f218.ntmps Q_l_szCandS (nthLoop Tryz.f218 0) K_l_szCandS_5 6000000 X_l_szCandS_5 d = B_l_szCandS_5 d := fun d => by kernel_rfl
theorem lo_l_szCandS_5 (cx : Cx) (hp : cx.pin.length ≤ 0) : LoopOk Tryz.prog cx Tryz.f218.ntmps Q_l_szCandS (nthLoop Tryz.f218 0) := loop_of (cfgOk_of mixed tys_ok (show FnsOk Tryz.prog C_l_szCandS from ⟨fn_l_szCand, trivial⟩)) hp (all_of (by kernel_rfl : loopsOf (nthLoop Tryz.f218 0) = []) trivial) (by kernel_rfl) lp_l_szCandS_5
theorem e_l_szCandS : ∀ d, pcall ⟨lookT tys, ctrOf C_l_szCandS, kindOf C_l_szCandS, 3, 4⟩ 0 Q_l_szCandS Tryz.f218 .plain (mkA P_l_szCandS d) = (T_l_szCandS d.1 d.2.1).run fun r => some (O_l_szCandS r) := fun d => by kernel_rfl
theorem fn_l_szCandS : Fn Tryz.prog 218 .plain F_l_szCandS := fn_of (cfgOk_of mixed tys_ok (show FnsOk Tryz.prog C_l_szCandS from ⟨fn_l_szCand, trivial⟩)) Tryz.func218 (by kernel_rfl) (by kernel_rfl) (fun cx b hp hb => all_of (by kernel_rfl : loopsOf (Tryz.f218.body.getD .skip) = [nthLoop Tryz.f218 0]) ⟨lo_l_szCandS_5 cx hp, trivial⟩ b hb) (R := (YI)) (T := fun (d : aden P_l_szCandS) => T_l_szCandS d.1 d.2.1) e_l_szCandS
def P_l_szPaths : List (Bool × List Sh) := [(true, h_6), (false, [.int .i64])]
def O_l_szPaths (r : (YI)) : List RV × List RV := ([rv (false, [.int .i64]) r], [])
def C_l_szPaths : Fns := [(218, .plain, F_l_szCandS)]
def F_l_szPaths : Fun1 := funV P_l_szPaths (fun d => (T_l_szPaths d.1 d.2.1).val) O_l_szPaths
def Q_l_szPaths : Loops := fun _ _ => .fail
theorem e_l_szPaths : ∀ d, pcall ⟨lookT tys, ctrOf C_l_szPaths, kindOf C_l_szPaths, 3, 4⟩ 0 Q_l_szPaths Tryz.f119 .plain (mkA P_l_szPaths d) = (T_l_szPaths d.1 d.2.1).run fun r => some (O_l_szPaths r) := fun d => by kernel_rfl
theorem fn_l_szPaths : Fn Tryz.prog 119 .plain F_l_szPaths := fn_of (cfgOk_of mixed tys_ok (show FnsOk Tryz.prog C_l_szPaths from ⟨fn_l_szCandS, trivial⟩)) Tryz.func119 (by kernel_rfl) (by kernel_rfl) (fun cx b hp hb => all_of (by kernel_rfl : loopsOf (Tryz.f119.body.getD .skip) = []) trivial b hb) (R := (YI)) (T := fun (d : aden P_l_szPaths) => T_l_szPaths d.1 d.2.1) e_l_szPaths
def P_l_szSess : List (Bool × List Sh) := [(true, h_12), (false, [.int .i64])]
def O_l_szSess (r : (YI)) : List RV × List RV := ([rv (false, [.int .i64]) r], [])
def C_l_szSess : Fns := [(98, .plain, F_l_szByteS), (99, .plain, F_l_szChan), (119, .plain, F_l_szPaths)]
def F_l_szSess : Fun1 := funV P_l_szSess (fun d => (T_l_szSess d.1 d.2.1).val) O_l_szSess
def Q_l_szSess : Loops := fun _ _ => .fail
theorem e_l_szSess : ∀ d, pcall ⟨lookT tys, ctrOf C_l_szSess, kindOf C_l_szSess, 3, 4⟩ 0 Q_l_szSess Tryz.f35 .plain (mkA P_l_szSess d) = (T_l_szSess d.1 d.2.1).run fun r => some (O_l_szSess r) := fun d => by kernel_rfl
theorem fn_l_szSess : Fn Tryz.prog 35 .plain F_l_szSess := fn_of (cfgOk_of mixed tys_ok (show FnsOk Tryz.prog C_l_szSess from ⟨fn_l_szByteS, fn_l_szChan, fn_l_szPaths, trivial⟩)) Tryz.func35 (by kernel_rfl) (by kernel_rfl) (fun cx b hp hb => all_of (by kernel_rfl : loopsOf (Tryz.f35.body.getD .skip) = []) trivial b hb) (R := (YI)) (T := fun (d : aden P_l_szSess) => T_l_szSess d.1 d.2.1) e_l_szSess
def P_l_szSessS : List (Bool × List Sh) := [(false, [.sl 94 h_12]), (false, [.int .i64])]
def O_l_szSessS (r : (YI)) : List RV × List RV := ([rv (false, [.int .i64]) r], [])
def C_l_szSessS : Fns := [(35, .plain, F_l_szSess)]
def F_l_szSessS : Fun1 := funV P_l_szSessS (fun d => (T_l_szSessS d.1 d.2.1).val) O_l_szSessS
def K_l_szSessS_5 : Sk := ⟨[(0, .v false [(.sl 94 h_12, .ro)]), (1, .v false [(.int .i64, .nil)]), (5, .v false [(.int .i64, .nil)])], [], []⟩
def X_l_szSessS_5 : List (Ex × Sk) := [(.ret, ⟨[(4, .v false [(.int .i64, .nil)])], [], []⟩), ((.exit 0), ⟨[(1, .v false [(.int .i64, .nil)])], [], []⟩)]
def Q_l_szSessS : Loops := fun i st => cond (Nat.beq i 5) (lam K_l_szSessS_5 6000000 X_l_szSessS_5 B_l_szSessS_5 st) <| .fail
theorem lp_l_szSessS_5 : ∀ d, bod ⟨lookT tys, ctrOf C_l_szSessS, kindOf C_l_szSessS, 3, 4⟩ 0 Tryz.f173.ntmps Q_l_szSessS (nthLoop Tryz.f173 0) K_l_szSessS_5 6000000 X_l_szSessS_5 d = B_l_szSessS_5 d := fun d => by kernel_rfl
theorem lo_l_szSessS_5 (cx : Cx) (hp : cx.pin.length ≤ 0) : LoopOk Tryz.prog cx Tryz.f173.ntmps Q_l_szSessS (nthLoop Tryz.f173 0) := loop_of (cfgOk_of mixed tys_ok (show FnsOk Tryz.prog C_l_szSessS from ⟨fn_l_szSess, trivial⟩)) hp (all_of (by kernel_rfl : loopsOf (nthLoop Tryz.f173 0) = []) trivial) (by kernel_rfl) lp_l_szSessS_5
theorem e_l_szSessS : ∀ d, pcall ⟨lookT tys, ctrOf C_l_szSessS, kindOf C_l_szSessS, 3, 4⟩ 0 Q_l_szSessS Tryz.f173 .plain (mkA P_l_szSessS d) = (T_l_szSessS d.1 d.2.1).run fun r => some (O_l_szSessS r) := fun d => by kernel_rfl
theorem fn_l_szSessS : Fn Tryz.prog 173 .plain F_l_szSessS := fn_of (cfgOk_of mixed tys_ok (show FnsOk Tryz.prog C_l_szSessS from ⟨fn_l_szSess, trivial⟩)) Tryz.func173 (by kernel_rfl) (by kernel_rfl) (fun cx b hp hb => all_of (by kernel_rfl : loopsOf (Tryz.f173.body.getD .skip) = [nthLoop Tryz.f173 0]) ⟨lo_l_szSessS_5 cx hp, trivial⟩ b hb) (R := (YI)) (T := fun (d : aden P_l_szSessS) => T_l_szSessS d.1 d.2.1) e_l_szSessS
def P_l_szTab : List (Bool × List Sh) := [(true, [.int .i64, .sl 94 h_12]), (false, [.int .i64])]
def O_l_szTab (r : (YI)) : List RV × List RV := ([rv (false, [.int .i64]) r], [])
def C_l_szTab : Fns := [(173, .plain, F_l_szSessS)]
def F_l_szTab : Fun1 := funV P_l_szTab (fun d => (T_l_szTab d.1 d.2.1).val) O_l_szTab
def Q_l_szTab : Loops := fun _ _ => .fail
theorem e_l_szTab : ∀ d, pcall ⟨lookT tys, ctrOf C_l_szTab, kindOf C_l_szTab, 3, 4⟩ 0 Q_l_szTab Tryz.f64 .plain (mkA P_l_szTab d) = (T_l_szTab d.1 d.2.1).run fun r => some (O_l_szTab r) := fun d => by kernel_rfl
theorem fn_l_szTab : Fn Tryz.prog 64 .plain F_l_szTab := fn_of (cfgOk_of mixed tys_ok (show FnsOk Tryz.prog C_l_szTab from ⟨fn_l_szSessS, trivial⟩)) Tryz.func64 (by kernel_rfl) (by kernel_rfl) (fun cx b hp hb => all_of (by kernel_rfl : loopsOf (Tryz.f64.body.getD .skip) = []) trivial b hb) (R := (YI)) (T := fun (d : aden P_l_szTab) => T_l_szTab d.1 d.2.1) e_l_szTab
def P_l_szCreditS : List (Bool × List Sh) := [(false, [.sl 221 h_2]), (false, [.int .i64])]
def O_l_szCreditS (r : (YI)) : List RV × List RV := ([rv (false, [.int .i64]) r], [])
def C_l_szCreditS : Fns := []
def F_l_szCreditS : Fun1 := funV P_l_szCreditS (fun d => (T_l_szCreditS d.1 d.2.1).val) O_l_szCreditS
def Q_l_szCreditS : Loops := fun _ _ => .fail
theorem e_l_szCreditS : ∀ d, pcall ⟨lookT tys, ctrOf C_l_szCreditS, kindOf C_l_szCreditS, 3, 4⟩ 0 Q_l_szCreditS Tryz.f65 .plain (mkA P_l_szCreditS d) = (T_l_szCreditS d.1 d.2.1).run fun r => some (O_l_szCreditS r) := fun d => by kernel_rfl
theorem fn_l_szCreditS : Fn Tryz.prog 65 .plain F_l_szCreditS := fn_of (cfgOk_of mixed tys_ok (show FnsOk Tryz.prog C_l_szCreditS from trivial)) Tryz.func65 (by kernel_rfl) (by kernel_rfl) (fun cx b hp hb => all_of (by kernel_rfl : loopsOf (Tryz.f65.body.getD .skip) = []) trivial b hb) (R := (YI)) (T := fun (d : aden P_l_szCreditS) => T_l_szCreditS d.1 d.2.1) e_l_szCreditS
def P_l_szServer : List (Bool × List Sh) := [(true, h_14), (false, [.int .i64])]
def O_l_szServer (r : (YI)) : List RV × List RV := ([rv (false, [.int .i64]) r], [])
def C_l_szServer : Fns := [(61, .plain, F_l_szByteSS), (62, .plain, F_l_szJar), (63, .plain, F_l_szDice), (64, .plain, F_l_szTab), (65, .plain, F_l_szCreditS)]
def F_l_szServer : Fun1 := funV P_l_szServer (fun d => (T_l_szServer d.1 d.2.1).val) O_l_szServer
def Q_l_szServer : Loops := fun _ _ => .fail
theorem e_l_szServer : ∀ d, pcall ⟨lookT tys, ctrOf C_l_szServer, kindOf C_l_szServer, 3, 4⟩ 0 Q_l_szServer Tryz.f12 .plain (mkA P_l_szServer d) = (T_l_szServer d.1 d.2.1).run fun r => some (O_l_szServer r) := fun d => by kernel_rfl
theorem fn_l_szServer : Fn Tryz.prog 12 .plain F_l_szServer := fn_of (cfgOk_of mixed tys_ok (show FnsOk Tryz.prog C_l_szServer from ⟨fn_l_szByteSS, fn_l_szJar, fn_l_szDice, fn_l_szTab, fn_l_szCreditS, trivial⟩)) Tryz.func12 (by kernel_rfl) (by kernel_rfl) (fun cx b hp hb => all_of (by kernel_rfl : loopsOf (Tryz.f12.body.getD .skip) = []) trivial b hb) (R := (YI)) (T := fun (d : aden P_l_szServer) => T_l_szServer d.1 d.2.1) e_l_szServer
def P_l_toByteS : List (Bool × List Sh) := [(false, [.sl 5 [.int .u8]])]
def O_l_toByteS (r : (YBs)) : List RV × List RV := ([rv (false, [.sl 5 [.int .u8]]) r], [])
def C_l_toByteS : Fns := []
def F_l_toByteS : Fun1 := funV P_l_toByteS (fun d => (T_l_toByteS d.1).val) O_l_toByteS
def K_l_toByteS_3 : Sk := ⟨[(0, .v false [(.sl 5 [.int .u8], .ro)]), (3, .v false [(.sl 5 [.int .u8], (.own 4000000))]), (4, .v false [(.int .i64, .nil)])], [], [4000000]⟩
def X_l_toByteS_3 : List (Ex × Sk) := [((.exit 0), ⟨[(3, .v false [(.sl 5 [.int .u8], (.own 4000000))])], [], [4000000]⟩)]
def Q_l_toByteS : Loops := fun i st => cond (Nat.beq i 3) (lam K_l_toByteS_3 4000000 X_l_toByteS_3 B_l_toByteS_3 st) <| .fail
theorem lp_l_toByteS_3 : ∀ d, bod ⟨lookT tys, ctrOf C_l_toByteS, kindOf C_l_toByteS, 3, 4⟩ 0 Tryz.f25.ntmps Q_l_toByteS (nthLoop Tryz.f25 0) K_l_toByteS_3 4000000 X_l_toByteS_3 d = B_l_toByteS_3 d := fun d => by kernel_rfl
theorem lo_l_toByteS_3 (cx : Cx) (hp : cx.pin.length ≤ 0) : LoopOk Tryz.prog cx Tryz.f25.ntmps Q_l_toByteS (nthLoop Tryz.f25 0) := loop_of (cfgOk_of mixed tys_ok (show FnsOk Tryz.prog C_l_toByteS from trivial)) hp (all_of (by kernel_rfl : loopsOf (nthLoop Tryz.f25 0) = []) trivial) (by kernel_rfl) lp_l_toByteS_3
theorem e_l_toByteS : ∀ d, pcall ⟨lookT tys, ctrOf C_l_toByteS, kindOf C_l_toByteS, 3, 4⟩ 0 Q_l_toByteS Tryz.f25 .plain (mkA P_l_toByteS d) = (T_l_toByteS d.1).run fun r => some (O_l_toByteS r) := fun d => by kernel_rfl
theorem fn_l_toByteS : Fn Tryz.prog 25 .plain F_l_toByteS := fn_of (cfgOk_of mixed tys_ok (show FnsOk Tryz.prog C_l_toByteS from trivial)) Tryz.func25 (by kernel_rfl) (by kernel_rfl) (fun cx b hp hb => all_of (by kernel_rfl : loopsOf (Tryz.f25.body.getD .skip) = [nthLoop Tryz.f25 0]) ⟨lo_l_toByteS_3 cx hp, trivial⟩ b hb) (R := (YBs)) (T := fun (d : aden P_l_toByteS) => T_l_toByteS d.1) e_l_toByteS
def P_l_toByteSS : List (Bool × List Sh) := [(false, [.sl 23 [.sl 5 [.int .u8]]])]
def O_l_toByteSS (r : ((List YBs) × Unit)) : List RV × List RV := ([rv (false, [.sl 23 [.sl 5 [.int .u8]]]) r], [])
def C_l_toByteSS : Fns := [(25, .plain, F_l_toByteS)]
def F_l_toByteSS : Fun1 := funV P_l_toByteSS (fun d => (T_l_toByteSS d.1).val) O_l_toByteSS
def K_l_toByteSS_3 : Sk := ⟨[(0, .v false [(.sl 23 [.sl 5 [.int .u8]], .ro)]), (3, .v false [(.sl 23 [.sl 5 [.int .u8]], (.own 4000000))]), (4, .v false [(.int .i64, .nil)])], [], [4000000]⟩
def X_l_toByteSS_3 : List (Ex × Sk) := [((.exit 0), ⟨[(3, .v false [(.sl 23 [.sl 5 [.int .u8]], (.own 4000000))])], [], [4000000]⟩)]
def Q_l_toByteSS : Loops := fun i st => cond (Nat.beq i 3) (lam K_l_toByteSS_3 4000000 X_l_toByteSS_3 B_l_toByteSS_3 st) <| .fail
theorem lp_l_toByteSS_3 : ∀ d, bod ⟨lookT tys, ctrOf C_l_toByteSS, kindOf C_l_toByteSS, 3, 4⟩ 0 Tryz.f71.ntmps Q_l_toByteSS (nthLoop Tryz.f71 0) K_l_toByteSS_3 4000000 X_l_toByteSS_3 d = B_l_toByteSS_3 d := fun d => by kernel_rfl
theorem lo_l_toByteSS_3 (cx : Cx) (hp : cx.pin.length ≤ 0) : LoopOk Tryz.prog cx Tryz.f71.ntmps Q_l_toByteSS (nthLoop Tryz.f71 0) := loop_of (cfgOk_of mixed tys_ok (show FnsOk Tryz.prog C_l_toByteSS from ⟨fn_l_toByteS, trivial⟩)) hp (all_of (by kernel_rfl : loopsOf (nthLoop Tryz.f71 0) = []) trivial) (by kernel_rfl) lp_l_toByteSS_3
theorem e_l_toByteSS : ∀ d, pcall ⟨lookT tys, ctrOf C_l_toByteSS, kindOf C_l_toByteSS, 3, 4⟩ 0 Q_l_toByteSS Tryz.f71 .plain (mkA P_l_toByteSS d) = (T_l_toByteSS d.1).run fun r => some (O_l_toByteSS r) := fun d => by kernel_rfl
theorem fn_l_toByteSS : Fn Tryz.prog 71 .plain F_l_toByteSS := fn_of (cfgOk_of mixed tys_ok (show FnsOk Tryz.prog C_l_toByteSS from ⟨fn_l_toByteS, trivial⟩)) Tryz.func71 (by kernel_rfl) (by kernel_rfl) (fun cx b hp hb => all_of (by kernel_rfl : loopsOf (Tryz.f71.body.getD .skip) = [nthLoop Tryz.f71 0]) ⟨lo_l_toByteSS_3 cx hp, trivial⟩ b hb) (R := ((List YBs) × Unit)) (T := fun (d : aden P_l_toByteSS) => T_l_toByteSS d.1) e_l_toByteSS
def P_l_toJar : List (Bool × List Sh) := [(true, [.sl 5 [.int .u8]])]
def O_l_toJar (r : (YBs)) : List RV × List RV := ([rv (true, [.sl 5 [.int .u8]]) r], [])
def C_l_toJar : Fns := [(25, .plain, F_l_toByteS)]
def F_l_toJar : Fun1 := funV P_l_toJar (fun d => (T_l_toJar d.1).val) O_l_toJar
def Q_l_toJar : Loops := fun _ _ => .fail
theorem e_l_toJar : ∀ d, pcall ⟨lookT tys, ctrOf C_l_toJar, kindOf C_l_toJar, 3, 4⟩ 0 Q_l_toJar Tryz.f72 .plain (mkA P_l_toJar d) = (T_l_toJar d.1).run fun r => some (O_l_toJar r) := fun d => by kernel_rfl
theorem fn_l_toJar : Fn Tryz.prog 72 .plain F_l_toJar := fn_of (cfgOk_of mixed tys_ok (show FnsOk Tryz.prog C_l_toJar from ⟨fn_l_toByteS, trivial⟩)) Tryz.func72 (by kernel_rfl) (by kernel_rfl) (fun cx b hp hb => all_of (by kernel_rfl : loopsOf (Tryz.f72.body.getD .skip) = []) trivial b hb) (R := (YBs)) (T := fun (d : aden P_l_toJar) => T_l_toJar d.1) e_l_toJar
def P_l_toDice : List (Bool × List Sh) := [(true, [.sl 5 [.int .u8], .int .i64])]
def O_l_toDice (r : (YDice)) : List RV × List RV := ([rv (true, [.sl 5 [.int .u8], .int .i64]) r], [])
def C_l_toDice : Fns := [(25, .plain, F_l_toByteS)]
def F_l_toDice : Fun1 := funV P_l_toDice (fun d => (T_l_toDice d.1).val) O_l_toDice
def Q_l_toDice : Loops := fun _ _ => .fail
theorem e_l_toDice : ∀ d, pcall ⟨lookT tys, ctrOf C_l_toDice, kindOf C_l_toDice, 3, 4⟩ 0 Q_l_toDice Tryz.f73 .plain (mkA P_l_toDice d) = (T_l_toDice d.1).run fun r => some (O_l_toDice r) := fun d => by kernel_rfl
theorem fn_l_toDice : Fn Tryz.prog 73 .plain F_l_toDice := fn_of (cfgOk_of mixed tys_ok (show FnsOk Tryz.prog C_l_toDice from ⟨fn_l_toByteS, trivial⟩)) Tryz.func73 (by kernel_rfl) (by kernel_rfl) (fun cx b hp hb => all_of (by kernel_rfl : loopsOf (Tryz.f73.body.getD .skip) = []) trivial b hb) (R := (YDice)) (T := fun (d : aden P_l_toDice) => T_l_toDice d.1) e_l_toDice
def P_l_toIntS : List (Bool × List Sh) := [(false, [.sl 3 [.int .i64]])]
def O_l_toIntS (r : ((List YI) × Unit)) : List RV × List RV := ([rv (false, [.sl 3 [.int .i64]]) r], [])
def C_l_toIntS : Fns := []
def F_l_toIntS : Fun1 := funV P_l_toIntS (fun d => (T_l_toIntS d.1).val) O_l_toIntS
def K_l_toIntS_3 : Sk := ⟨[(0, .v false [(.sl 3 [.int .i64], .ro)]), (3, .v false [(.sl 3 [.int .i64], (.own 4000000))]), (4, .v false [(.int .i64, .nil)])], [], [4000000]⟩
def X_l_toIntS_3 : List (Ex × Sk) := [((.exit 0), ⟨[(3, .v false [(.sl 3 [.int .i64], (.own 4000000))])], [], [4000000]⟩)]
def Q_l_toIntS : Loops := fun i st => cond (Nat.beq i 3) (lam K_l_toIntS_3 4000000 X_l_toIntS_3 B_l_toIntS_3 st) <| .fail
theorem lp_l_toIntS_3 : ∀ d, bod ⟨lookT tys, ctrOf C_l_toIntS, kindOf C_l_toIntS, 3, 4⟩ 0 Tryz.f308.ntmps Q_l_toIntS (nthLoop Tryz.f308 0) K_l_toIntS_3 4000000 X_l_toIntS_3 d = B_l_toIntS_3 d := fun d => by kernel_rfl
theorem lo_l_toIntS_3 (cx : Cx) (hp : cx.pin.length ≤ 0) : LoopOk Tryz.prog cx Tryz.f308.ntmps Q_l_toIntS (nthLoop Tryz.f308 0) := loop_of (cfgOk_of mixed tys_ok (show FnsOk Tryz.prog C_l_toIntS from trivial)) hp (all_of (by kernel_rfl : loopsOf (nthLoop Tryz.f308 0) = []) trivial) (by kernel_rfl) lp_l_toIntS_3
theorem e_l_toIntS : ∀ d, pcall ⟨lookT tys, ctrOf C_l_toIntS, kindOf C_l_toIntS, 3, 4⟩ 0 Q_l_toIntS Tryz.f308 .plain (mkA P_l_toIntS d) = (T_l_toIntS d.1).run fun r => some (O_l_toIntS r) := fun d => by kernel_rfl
theorem fn_l_toIntS : Fn Tryz.prog 308 .plain F_l_toIntS := fn_of (cfgOk_of mixed tys_ok (show FnsOk Tryz.prog C_l_toIntS from trivial)) Tryz.func308 (by kernel_rfl) (by kernel_rfl) (fun cx b hp hb => all_of (by kernel_rfl : loopsOf (Tryz.f308.body.getD .skip) = [nthLoop Tryz.f308 0]) ⟨lo_l_toIntS_3 cx hp, trivial⟩ b hb) (R := ((List YI) × Unit)) (T := fun (d : aden P_l_toIntS) => T_l_toIntS d.1) e_l_toIntS
def P_l_toWin : List (Bool × List Sh) := [(true, [.int .i64, .sl 3 [.int .i64]])]
def O_l_toWin (r : (YWin)) : List RV × List RV := ([rv (true, [.int .i64, .sl 3 [.int .i64]]) r], [])
def C_l_toWin : Fns := [(308, .plain, F_l_toIntS)]
def F_l_toWin : Fun1 := funV P_l_toWin (fun d => (T_l_toWin d.1).val) O_l_toWin
def Q_l_toWin : Loops := fun _ _ => .fail
theorem e_l_toWin : ∀ d, pcall ⟨lookT tys, ctrOf C_l_toWin, kindOf C_l_toWin, 3, 4⟩ 0 Q_l_toWin Tryz.f270 .plain (mkA P_l_toWin d) = (T_l_toWin d.1).run fun r => some (O_l_toWin r) := fun d => by kernel_rfl
theorem fn_l_toWin : Fn Tryz.prog 270 .plain F_l_toWin := fn_of (cfgOk_of mixed tys_ok (show FnsOk Tryz.prog C_l_toWin from ⟨fn_l_toIntS, trivial⟩)) Tryz.func270 (by kernel_rfl) (by kernel_rfl) (fun cx b hp hb => all_of (by kernel_rfl : loopsOf (Tryz.f270.body.getD .skip) = []) trivial b hb) (R := (YWin)) (T := fun (d : aden P_l_toWin) => T_l_toWin d.1) e_l_toWin
def P_l_toEp : List (Bool × List Sh) := [(true, h_5)]
def O_l_toEp (r : (YEp)) : List RV × List RV := ([rv (true, h_5) r], [])
def C_l_toEp : Fns := [(25, .plain, F_l_toByteS), (270, .plain, F_l_toWin)]
def F_l_toEp : Fun1 := funV P_l_toEp (fun d => (T_l_toEp d.1).val) O_l_toEp
def Q_l_toEp : Loops := fun _ _ => .fail
theorem e_l_toEp : ∀ d, pcall ⟨lookT tys, ctrOf C_l_toEp, kindOf C_l_toEp, 3, 4⟩ 0 Q_l_toEp Tryz.f203 .plain (mkA P_l_toEp d) = (T_l_toEp d.1).run fun r => some (O_l_toEp r) := fun d => by kernel_rfl
theorem fn_l_toEp : Fn Tryz.prog 203 .plain F_l_toEp := fn_of (cfgOk_of mixed tys_ok (show FnsOk Tryz.prog C_l_toEp from ⟨fn_l_toByteS, fn_l_toWin, trivial⟩)) Tryz.func203 (by kernel_rfl) (by kernel_rfl) (fun cx b hp hb => all_of (by kernel_rfl : loopsOf (Tryz.f203.body.getD .skip) = []) trivial b hb) (R := (YEp)) (T := fun (d : aden P_l_toEp) => T_l_toEp d.1) e_l_toEp
def P_l_toChan : List (Bool × List Sh) := [(true, h_11)]
def O_l_toChan (r : (YChan)) : List RV × List RV := ([rv (true, h_11) r], [])
def C_l_toChan : Fns := [(25, .plain, F_l_toByteS), (203, .plain, F_l_toEp)]
def F_l_toChan : Fun1 := funV P_l_toChan (fun d => (T_l_toChan d.1).val) O_l_toChan
def Q_l_toChan : Loops := fun _ _ => .fail
theorem e_l_toChan : ∀ d, pcall ⟨lookT tys, ctrOf C_l_toChan, kindOf C_l_toChan, 3, 4⟩ 0 Q_l_toChan Tryz.f105 .plain (mkA P_l_toChan d) = (T_l_toChan d.1).run fun r => some (O_l_toChan r) := fun d => by kernel_rfl
theorem fn_l_toChan : Fn Tryz.prog 105 .plain F_l_toChan := fn_of (cfgOk_of mixed tys_ok (show FnsOk Tryz.prog C_l_toChan from ⟨fn_l_toByteS, fn_l_toEp, trivial⟩)) Tryz.func105 (by kernel_rfl) (by kernel_rfl) (fun cx b hp hb => all_of (by kernel_rfl : loopsOf (Tryz.f105.body.getD .skip) = []) trivial b hb) (R := (YChan)) (T := fun (d : aden P_l_toChan) => T_l_toChan d.1) e_l_toChan
def P_l_toAddr : List (Bool × List Sh) := [(true, [.int .i64, .int .i64])]
def O_l_toAddr (r : (YAddr)) : List RV × List RV := ([rv (true, [.int .i64, .int .i64]) r], [])
def C_l_toAddr : Fns := []
def F_l_toAddr : Fun1 := funV P_l_toAddr (fun d => (T_l_toAddr d.1).val) O_l_toAddr
def Q_l_toAddr : Loops := fun _ _ => .fail
theorem e_l_toAddr : ∀ d, pcall ⟨lookT tys, ctrOf C_l_toAddr, kindOf C_l_toAddr, 3, 4⟩ 0 Q_l_toAddr Tryz.f104 .plain (mkA P_l_toAddr d) = (T_l_toAddr d.1).run fun r => some (O_l_toAddr r) := fun d => by kernel_rfl
theorem fn_l_toAddr : Fn Tryz.prog 104 .plain F_l_toAddr := fn_of (cfgOk_of mixed tys_ok (show FnsOk Tryz.prog C_l_toAddr from trivial)) Tryz.func104 (by kernel_rfl) (by kernel_rfl) (fun cx b hp hb => all_of (by kernel_rfl : loopsOf (Tryz.f104.body.getD .skip) = []) trivial b hb) (R := (YAddr)) (T := fun (d : aden P_l_toAddr) => T_l_toAddr d.1) e_l_toAddr
def P_l_toCand : List (Bool × List Sh) := [(true, h_4)]
def O_l_toCand (r : (YCand)) : List RV × List RV := ([rv (true, h_4) r], [])
def C_l_toCand : Fns := [(104, .plain, F_l_toAddr), (25, .plain, F_l_toByteS)]
def F_l_toCand : Fun1 := funV P_l_toCand (fun d => (T_l_toCand d.1).val) O_l_toCand
def Q_l_toCand : Loops := fun _ _ => .fail
theorem e_l_toCand : ∀ d, pcall ⟨lookT tys, ctrOf C_l_toCand, kindOf C_l_toCand, 3, 4⟩ 0 Q_l_toCand Tryz.f284 .plain (mkA P_l_toCand d) = (T_l_toCand d.1).run fun r => some (O_l_toCand r) := fun d => by kernel_rfl
theorem fn_l_toCand : Fn Tryz.prog 284 .plain F_l_toCand := fn_of (cfgOk_of mixed tys_ok (show FnsOk Tryz.prog C_l_toCand from ⟨fn_l_toAddr, fn_l_toByteS, trivial⟩)) Tryz.func284 (by kernel_rfl) (by kernel_rfl) (fun cx b hp hb => all_of (by kernel_rfl : loopsOf (Tryz.f284.body.getD .skip) = []) trivial b hb) (R := (YCand)) (T := fun (d : aden P_l_toCand) => T_l_toCand d.1) e_l_toCand
def P_l_toCandS : List (Bool × List Sh) := [(false, [.sl 272 h_4])]
def O_l_toCandS (r : ((List YCand) × Unit)) : List RV × List RV := ([rv (false, [.sl 274 h_4]) r], [])
def C_l_toCandS : Fns := [(284, .plain, F_l_toCand)]
def F_l_toCandS : Fun1 := funV P_l_toCandS (fun d => (T_l_toCandS d.1).val) O_l_toCandS
def K_l_toCandS_3 : Sk := ⟨[(0, .v false [(.sl 272 h_4, .ro)]), (3, .v false [(.sl 274 h_4, (.own 4000000))]), (4, .v false [(.int .i64, .nil)])], [], [4000000]⟩
def X_l_toCandS_3 : List (Ex × Sk) := [((.exit 0), ⟨[(3, .v false [(.sl 274 h_4, (.own 4000000))])], [], [4000000]⟩)]
def Q_l_toCandS : Loops := fun i st => cond (Nat.beq i 3) (lam K_l_toCandS_3 4000000 X_l_toCandS_3 B_l_toCandS_3 st) <| .fail
theorem lp_l_toCandS_3 : ∀ d, bod ⟨lookT tys, ctrOf C_l_toCandS, kindOf C_l_toCandS, 3, 4⟩ 0 Tryz.f222.ntmps Q_l_toCandS (nthLoop Tryz.f222 0) K_l_toCandS_3 4000000 X_l_toCandS_3 d = B_l_toCandS_3 d := fun d => by kernel_rfl
theorem lo_l_toCandS_3 (cx : Cx) (hp : cx.pin.length ≤ 0) : LoopOk Tryz.prog cx Tryz.f222.ntmps Q_l_toCandS (nthLoop Tryz.f222 0) := loop_of (cfgOk_of mixed tys_ok (show FnsOk Tryz.prog C_l_toCandS from ⟨fn_l_toCand, trivial⟩)) hp (all_of (by kernel_rfl : loopsOf (nthLoop Tryz.f222 0) = []) trivial) (by kernel_rfl) lp_l_toCandS_3
theorem e_l_toCandS : ∀ d, pcall ⟨lookT tys, ctrOf C_l_toCandS, kindOf C_l_toCandS, 3, 4⟩ 0 Q_l_toCandS Tryz.f222 .plain (mkA P_l_toCandS d) = (T_l_toCandS d.1).run fun r => some (O_l_toCandS r) := fun d => by kernel_rfl
theorem fn_l_toCandS : Fn Tryz.prog 222 .plain F_l_toCandS := fn_of (cfgOk_of mixed tys_ok (show FnsOk Tryz.prog C_l_toCandS from ⟨fn_l_toCand, trivial⟩)) Tryz.func222 (by kernel_rfl) (by kernel_rfl) (fun cx b hp hb => all_of (by kernel_rfl : loopsOf (Tryz.f222.body.getD .skip) = [nthLoop Tryz.f222 0]) ⟨lo_l_toCandS_3 cx hp, trivial⟩ b hb) (R := ((List YCand) × Unit)) (T := fun (d : aden P_l_toCandS) => T_l_toCandS d.1) e_l_toCandS
def P_l_toPaths : List (Bool × List Sh) := [(true, h_6)]
def O_l_toPaths (r : (YPaths)) : List RV × List RV := ([rv (true, h_7) r], [])
def C_l_toPaths : Fns := [(104, .plain, F_l_toAddr), (222, .plain, F_l_toCandS)]
def F_l_toPaths : Fun1 := funV P_l_toPaths (fun d => (T_l_toPaths d.1).val) O_l_toPaths
def Q_l_toPaths : Loops := fun _ _ => .fail
theorem e_l_toPaths : ∀ d, pcall ⟨lookT tys, ctrOf C_l_toPaths, kindOf C_l_toPaths, 3, 4⟩ 0 Q_l_toPaths Tryz.f122 .plain (mkA P_l_toPaths d) = (T_l_toPaths d.1).run fun r => some (O_l_toPaths r) := fun d => by kernel_rfl
theorem fn_l_toPaths : Fn Tryz.prog 122 .plain F_l_toPaths := fn_of (cfgOk_of mixed tys_ok (show FnsOk Tryz.prog C_l_toPaths from ⟨fn_l_toAddr, fn_l_toCandS, trivial⟩)) Tryz.func122 (by kernel_rfl) (by kernel_rfl) (fun cx b hp hb => all_of (by kernel_rfl : loopsOf (Tryz.f122.body.getD .skip) = []) trivial b hb) (R := (YPaths)) (T := fun (d : aden P_l_toPaths) => T_l_toPaths d.1) e_l_toPaths
def P_l_toSess : List (Bool × List Sh) := [(true, h_12)]
def O_l_toSess (r : (YSess)) : List RV × List RV := ([rv (true, h_13) r], [])
def C_l_toSess : Fns := [(25, .plain, F_l_toByteS), (105, .plain, F_l_toChan), (122, .plain, F_l_toPaths)]
def F_l_toSess : Fun1 := funV P_l_toSess (fun d => (T_l_toSess d.1).val) O_l_toSess
def Q_l_toSess : Loops := fun _ _ => .fail
theorem e_l_toSess : ∀ d, pcall ⟨lookT tys, ctrOf C_l_toSess, kindOf C_l_toSess, 3, 4⟩ 0 Q_l_toSess Tryz.f37 .plain (mkA P_l_toSess d) = (T_l_toSess d.1).run fun r => some (O_l_toSess r) := fun d => by kernel_rfl
theorem fn_l_toSess : Fn Tryz.prog 37 .plain F_l_toSess := fn_of (cfgOk_of mixed tys_ok (show FnsOk Tryz.prog C_l_toSess from ⟨fn_l_toByteS, fn_l_toChan, fn_l_toPaths, trivial⟩)) Tryz.func37 (by kernel_rfl) (by kernel_rfl) (fun cx b hp hb => all_of (by kernel_rfl : loopsOf (Tryz.f37.body.getD .skip) = []) trivial b hb) (R := (YSess)) (T := fun (d : aden P_l_toSess) => T_l_toSess d.1) e_l_toSess
def P_l_toSessS : List (Bool × List Sh) := [(false, [.sl 94 h_12])]
def O_l_toSessS (r : ((List YSess) × Unit)) : List RV × List RV := ([rv (false, [.sl 100 h_13]) r], [])
def C_l_toSessS : Fns := [(37, .plain, F_l_toSess)]
def F_l_toSessS : Fun1 := funV P_l_toSessS (fun d => (T_l_toSessS d.1).val) O_l_toSessS
def K_l_toSessS_3 : Sk := ⟨[(0, .v false [(.sl 94 h_12, .ro)]), (3, .v false [(.sl 100 h_13, (.own 4000000))]), (4, .v false [(.int .i64, .nil)])], [], [4000000]⟩
def X_l_toSessS_3 : List (Ex × Sk) := [((.exit 0), ⟨[(3, .v false [(.sl 100 h_13, (.own 4000000))])], [], [4000000]⟩)]
def Q_l_toSessS : Loops := fun i st => cond (Nat.beq i 3) (lam K_l_toSessS_3 4000000 X_l_toSessS_3 B_l_toSessS_3 st) <| .fail
theorem lp_l_toSessS_3 : ∀ d, bod ⟨lookT tys, ctrOf C_l_toSessS, kindOf C_l_toSessS, 3, 4⟩ 0 Tryz.f181.ntmps Q_l_toSessS (nthLoop Tryz.f181 0) K_l_toSessS_3 4000000 X_l_toSessS_3 d = B_l_toSessS_3 d := fun d => by kernel_rfl
theorem lo_l_toSessS_3 (cx : Cx) (hp : cx.pin.length ≤ 0) : LoopOk Tryz.prog cx Tryz.f181.ntmps Q_l_toSessS (nthLoop Tryz.f181 0) := loop_of (cfgOk_of mixed tys_ok (show FnsOk Tryz.prog C_l_toSessS from ⟨fn_l_toSess, trivial⟩)) hp (all_of (by kernel_rfl : loopsOf (nthLoop Tryz.f181 0) = []) trivial) (by kernel_rfl) lp_l_toSessS_3
theorem e_l_toSessS : ∀ d, pcall ⟨lookT tys, ctrOf C_l_toSessS, kindOf C_l_toSessS, 3, 4⟩ 0 Q_l_toSessS Tryz.f181 .plain (mkA P_l_toSessS d) = (T_l_toSessS d.1).run fun r => some (O_l_toSessS r) := fun d => by kernel_rfl
theorem fn_l_toSessS : Fn Tryz.prog 181 .plain F_l_toSessS := fn_of (cfgOk_of mixed tys_ok (show FnsOk Tryz.prog C_l_toSessS from ⟨fn_l_toSess, trivial⟩)) Tryz.func181 (by kernel_rfl) (by kernel_rfl) (fun cx b hp hb => all_of (by kernel_rfl : loopsOf (Tryz.f181.body.getD .skip) = [nthLoop Tryz.f181 0]) ⟨lo_l_toSessS_3 cx hp, trivial⟩ b hb) (R := ((List YSess) × Unit)) (T := fun (d : aden P_l_toSessS) => T_l_toSessS d.1) e_l_toSessS
def P_l_toTab : List (Bool × List Sh) := [(true, [.int .i64, .sl 94 h_12])]
def O_l_toTab (r : (YTab)) : List RV × List RV := ([rv (true, [.int .i64, .sl 100 h_13]) r], [])
def C_l_toTab : Fns := [(181, .plain, F_l_toSessS)]
def F_l_toTab : Fun1 := funV P_l_toTab (fun d => (T_l_toTab d.1).val) O_l_toTab
def Q_l_toTab : Loops := fun _ _ => .fail
theorem e_l_toTab : ∀ d, pcall ⟨lookT tys, ctrOf C_l_toTab, kindOf C_l_toTab, 3, 4⟩ 0 Q_l_toTab Tryz.f74 .plain (mkA P_l_toTab d) = (T_l_toTab d.1).run fun r => some (O_l_toTab r) := fun d => by kernel_rfl
theorem fn_l_toTab : Fn Tryz.prog 74 .plain F_l_toTab := fn_of (cfgOk_of mixed tys_ok (show FnsOk Tryz.prog C_l_toTab from ⟨fn_l_toSessS, trivial⟩)) Tryz.func74 (by kernel_rfl) (by kernel_rfl) (fun cx b hp hb => all_of (by kernel_rfl : loopsOf (Tryz.f74.body.getD .skip) = []) trivial b hb) (R := (YTab)) (T := fun (d : aden P_l_toTab) => T_l_toTab d.1) e_l_toTab
def P_l_toCredit : List (Bool × List Sh) := [(true, h_2)]
def O_l_toCredit (r : (YCredit)) : List RV × List RV := ([rv (true, h_2) r], [])
def C_l_toCredit : Fns := [(104, .plain, F_l_toAddr)]
def F_l_toCredit : Fun1 := funV P_l_toCredit (fun d => (T_l_toCredit d.1).val) O_l_toCredit
def Q_l_toCredit : Loops := fun _ _ => .fail
theorem e_l_toCredit : ∀ d, pcall ⟨lookT tys, ctrOf C_l_toCredit, kindOf C_l_toCredit, 3, 4⟩ 0 Q_l_toCredit Tryz.f182 .plain (mkA P_l_toCredit d) = (T_l_toCredit d.1).run fun r => some (O_l_toCredit r) := fun d => by kernel_rfl
theorem fn_l_toCredit : Fn Tryz.prog 182 .plain F_l_toCredit := fn_of (cfgOk_of mixed tys_ok (show FnsOk Tryz.prog C_l_toCredit from ⟨fn_l_toAddr, trivial⟩)) Tryz.func182 (by kernel_rfl) (by kernel_rfl) (fun cx b hp hb => all_of (by kernel_rfl : loopsOf (Tryz.f182.body.getD .skip) = []) trivial b hb) (R := (YCredit)) (T := fun (d : aden P_l_toCredit) => T_l_toCredit d.1) e_l_toCredit
def P_l_toCreditS : List (Bool × List Sh) := [(false, [.sl 221 h_2])]
def O_l_toCreditS (r : ((List YCredit) × Unit)) : List RV × List RV := ([rv (false, [.sl 218 h_2]) r], [])
def C_l_toCreditS : Fns := [(182, .plain, F_l_toCredit)]
def F_l_toCreditS : Fun1 := funV P_l_toCreditS (fun d => (T_l_toCreditS d.1).val) O_l_toCreditS
def K_l_toCreditS_3 : Sk := ⟨[(0, .v false [(.sl 221 h_2, .ro)]), (3, .v false [(.sl 218 h_2, (.own 4000000))]), (4, .v false [(.int .i64, .nil)])], [], [4000000]⟩
def X_l_toCreditS_3 : List (Ex × Sk) := [((.exit 0), ⟨[(3, .v false [(.sl 218 h_2, (.own 4000000))])], [], [4000000]⟩)]
def Q_l_toCreditS : Loops := fun i st => cond (Nat.beq i 3) (lam K_l_toCreditS_3 4000000 X_l_toCreditS_3 B_l_toCreditS_3 st) <| .fail
theorem lp_l_toCreditS_3 : ∀ d, bod ⟨lookT tys, ctrOf C_l_toCreditS, kindOf C_l_toCreditS, 3, 4⟩ 0 Tryz.f75.ntmps Q_l_toCreditS (nthLoop Tryz.f75 0) K_l_toCreditS_3 4000000 X_l_toCreditS_3 d = B_l_toCreditS_3 d := fun d => by kernel_rfl
theorem lo_l_toCreditS_3 (cx : Cx) (hp : cx.pin.length ≤ 0) : LoopOk Tryz.prog cx Tryz.f75.ntmps Q_l_toCreditS (nthLoop Tryz.f75 0) := loop_of (cfgOk_of mixed tys_ok (show FnsOk Tryz.prog C_l_toCreditS from ⟨fn_l_toCredit, trivial⟩)) hp (all_of (by kernel_rfl : loopsOf (nthLoop Tryz.f75 0) = []) trivial) (by kernel_rfl) lp_l_toCreditS_3
theorem e_l_toCreditS : ∀ d, pcall ⟨lookT tys, ctrOf C_l_toCreditS, kindOf C_l_toCreditS, 3, 4⟩ 0 Q_l_toCreditS Tryz.f75 .plain (mkA P_l_toCreditS d) = (T_l_toCreditS d.1).run fun r => some (O_l_toCreditS r) := fun d => by kernel_rfl
theorem fn_l_toCreditS : Fn Tryz.prog 75 .plain F_l_toCreditS := fn_of (cfgOk_of mixed tys_ok (show FnsOk Tryz.prog C_l_toCreditS from ⟨fn_l_toCredit, trivial⟩)) Tryz.func75 (by kernel_rfl) (by kernel_rfl) (fun cx b hp hb => all_of (by kernel_rfl : loopsOf (Tryz.f75.body.getD .skip) = [nthLoop Tryz.f75 0]) ⟨lo_l_toCreditS_3 cx hp, trivial⟩ b hb) (R := ((List YCredit) × Unit)) (T := fun (d : aden P_l_toCreditS) => T_l_toCreditS d.1) e_l_toCreditS
def P_l_toServer : List (Bool × List Sh) := [(true, h_14)]
def O_l_toServer (r : (YServer)) : List RV × List RV := ([rv (true, h_15) r], [])
def C_l_toServer : Fns := [(71, .plain, F_l_toByteSS), (72, .plain, F_l_toJar), (73, .plain, F_l_toDice), (74, .plain, F_l_toTab), (75, .plain, F_l_toCreditS)]
def F_l_toServer : Fun1 := funV P_l_toServer (fun d => (T_l_toServer d.1).val) O_l_toServer
def Q_l_toServer : Loops := fun _ _ => .fail
theorem e_l_toServer : ∀ d, pcall ⟨lookT tys, ctrOf C_l_toServer, kindOf C_l_toServer, 3, 4⟩ 0 Q_l_toServer Tryz.f14 .plain (mkA P_l_toServer d) = (T_l_toServer d.1).run fun r => some (O_l_toServer r) := fun d => by kernel_rfl
theorem fn_l_toServer : Fn Tryz.prog 14 .plain F_l_toServer := fn_of (cfgOk_of mixed tys_ok (show FnsOk Tryz.prog C_l_toServer from ⟨fn_l_toByteSS, fn_l_toJar, fn_l_toDice, fn_l_toTab, fn_l_toCreditS, trivial⟩)) Tryz.func14 (by kernel_rfl) (by kernel_rfl) (fun cx b hp hb => all_of (by kernel_rfl : loopsOf (Tryz.f14.body.getD .skip) = []) trivial b hb) (R := (YServer)) (T := fun (d : aden P_l_toServer) => T_l_toServer d.1) e_l_toServer
def P_s_l10Copy : List (Bool × List Sh) := [(true, [.sl 5 [.int .u8], .int .i64])]
def O_s_l10Copy (r : (YDice)) : List RV × List RV := ([rv (true, [.sl 5 [.int .u8], .int .i64]) r], [])
def C_s_l10Copy : Fns := []
def F_s_l10Copy : Fun1 := funV P_s_l10Copy (fun d => (T_s_l10Copy d.1).val) O_s_l10Copy
def Q_s_l10Copy : Loops := fun _ _ => .fail
theorem e_s_l10Copy : ∀ d, pcall ⟨lookT tys, ctrOf C_s_l10Copy, kindOf C_s_l10Copy, 3, 4⟩ 0 Q_s_l10Copy Tryz.f174 .plain (mkA P_s_l10Copy d) = (T_s_l10Copy d.1).run fun r => some (O_s_l10Copy r) := fun d => by kernel_rfl
theorem fn_s_l10Copy : Fn Tryz.prog 174 .plain F_s_l10Copy := fn_of (cfgOk_of mixed tys_ok (show FnsOk Tryz.prog C_s_l10Copy from trivial)) Tryz.func174 (by kernel_rfl) (by kernel_rfl) (fun cx b hp hb => all_of (by kernel_rfl : loopsOf (Tryz.f174.body.getD .skip) = []) trivial b hb) (R := (YDice)) (T := fun (d : aden P_s_l10Copy) => T_s_l10Copy d.1) e_s_l10Copy
def P_s_l8Copy : List (Bool × List Sh) := [(true, [.int .i64, .sl 3 [.int .i64]])]
def O_s_l8Copy (r : (YWin)) : List RV × List RV := ([rv (true, [.int .i64, .sl 3 [.int .i64]]) r], [])
def C_s_l8Copy : Fns := []
def F_s_l8Copy : Fun1 := funV P_s_l8Copy (fun d => (T_s_l8Copy d.1).val) O_s_l8Copy
def Q_s_l8Copy : Loops := fun _ _ => .fail
theorem e_s_l8Copy : ∀ d, pcall ⟨lookT tys, ctrOf C_s_l8Copy, kindOf C_s_l8Copy, 3, 4⟩ 0 Q_s_l8Copy Tryz.f305 .plain (mkA P_s_l8Copy d) = (T_s_l8Copy d.1).run fun r => some (O_s_l8Copy r) := fun d => by kernel_rfl
theorem fn_s_l8Copy : Fn Tryz.prog 305 .plain F_s_l8Copy := fn_of (cfgOk_of mixed tys_ok (show FnsOk Tryz.prog C_s_l8Copy from trivial)) Tryz.func305 (by kernel_rfl) (by kernel_rfl) (fun cx b hp hb => all_of (by kernel_rfl : loopsOf (Tryz.f305.body.getD .skip) = []) trivial b hb) (R := (YWin)) (T := fun (d : aden P_s_l8Copy) => T_s_l8Copy d.1) e_s_l8Copy
def P_s_l9Copy : List (Bool × List Sh) := [(true, h_5)]
def O_s_l9Copy (r : (YEp)) : List RV × List RV := ([rv (true, h_5) r], [])
def C_s_l9Copy : Fns := [(305, .plain, F_s_l8Copy)]
def F_s_l9Copy : Fun1 := funV P_s_l9Copy (fun d => (T_s_l9Copy d.1).val) O_s_l9Copy
def Q_s_l9Copy : Loops := fun _ _ => .fail
theorem e_s_l9Copy : ∀ d, pcall ⟨lookT tys, ctrOf C_s_l9Copy, kindOf C_s_l9Copy, 3, 4⟩ 0 Q_s_l9Copy Tryz.f265 .plain (mkA P_s_l9Copy d) = (T_s_l9Copy d.1).run fun r => some (O_s_l9Copy r) := fun d => by kernel_rfl
theorem fn_s_l9Copy : Fn Tryz.prog 265 .plain F_s_l9Copy := fn_of (cfgOk_of mixed tys_ok (show FnsOk Tryz.prog C_s_l9Copy from ⟨fn_s_l8Copy, trivial⟩)) Tryz.func265 (by kernel_rfl) (by kernel_rfl) (fun cx b hp hb => all_of (by kernel_rfl : loopsOf (Tryz.f265.body.getD .skip) = []) trivial b hb) (R := (YEp)) (T := fun (d : aden P_s_l9Copy) => T_s_l9Copy d.1) e_s_l9Copy
def P_s_l14Ep : List (Bool × List Sh) := [(true, h_5), (false, [.bool])]
def O_s_l14Ep (r : (YEp)) : List RV × List RV := ([rv (true, h_5) r], [])
def C_s_l14Ep : Fns := [(265, .plain, F_s_l9Copy)]
def F_s_l14Ep : Fun1 := funV P_s_l14Ep (fun d => (T_s_l14Ep d.1 d.2.1).val) O_s_l14Ep
def Q_s_l14Ep : Loops := fun _ _ => .fail
theorem e_s_l14Ep : ∀ d, pcall ⟨lookT tys, ctrOf C_s_l14Ep, kindOf C_s_l14Ep, 3, 4⟩ 0 Q_s_l14Ep Tryz.f266 .plain (mkA P_s_l14Ep d) = (T_s_l14Ep d.1 d.2.1).run fun r => some (O_s_l14Ep r) := fun d => by kernel_rfl
theorem fn_s_l14Ep : Fn Tryz.prog 266 .plain F_s_l14Ep := fn_of (cfgOk_of mixed tys_ok (show FnsOk Tryz.prog C_s_l14Ep from ⟨fn_s_l9Copy, trivial⟩)) Tryz.func266 (by kernel_rfl) (by kernel_rfl) (fun cx b hp hb => all_of (by kernel_rfl : loopsOf (Tryz.f266.body.getD .skip) = []) trivial b hb) (R := (YEp)) (T := fun (d : aden P_s_l14Ep) => T_s_l14Ep d.1 d.2.1) e_s_l14Ep
def P_s_l14Copy : List (Bool × List Sh) := [(true, h_11)]
def O_s_l14Copy (r : (YChan)) : List RV × List RV := ([rv (true, h_11) r], [])
def C_s_l14Copy : Fns := [(265, .plain, F_s_l9Copy), (266, .plain, F_s_l14Ep)]
def F_s_l14Copy : Fun1 := funV P_s_l14Copy (fun d => (T_s_l14Copy d.1).val) O_s_l14Copy
def Q_s_l14Copy : Loops := fun _ _ => .fail
theorem e_s_l14Copy : ∀ d, pcall ⟨lookT tys, ctrOf C_s_l14Copy, kindOf C_s_l14Copy, 3, 4⟩ 0 Q_s_l14Copy Tryz.f196 .plain (mkA P_s_l14Copy d) = (T_s_l14Copy d.1).run fun r => some (O_s_l14Copy r) := fun d => by kernel_rfl
theorem fn_s_l14Copy : Fn Tryz.prog 196 .plain F_s_l14Copy := fn_of (cfgOk_of mixed tys_ok (show FnsOk Tryz.prog C_s_l14Copy from ⟨fn_s_l9Copy, fn_s_l14Ep, trivial⟩)) Tryz.func196 (by kernel_rfl) (by kernel_rfl) (fun cx b hp hb => all_of (by kernel_rfl : loopsOf (Tryz.f196.body.getD .skip) = []) trivial b hb) (R := (YChan)) (T := fun (d : aden P_s_l14Copy) => T_s_l14Copy d.1) e_s_l14Copy
def P_s_l16Cand : List (Bool × List Sh) := [(true, h_4)]
def O_s_l16Cand (r : (YCand)) : List RV × List RV := ([rv (true, h_4) r], [])
def C_s_l16Cand : Fns := []
def F_s_l16Cand : Fun1 := funV P_s_l16Cand (fun d => (T_s_l16Cand d.1).val) O_s_l16Cand
def Q_s_l16Cand : Loops := fun _ _ => .fail
theorem e_s_l16Cand : ∀ d, pcall ⟨lookT tys, ctrOf C_s_l16Cand, kindOf C_s_l16Cand, 3, 4⟩ 0 Q_s_l16Cand Tryz.f283 .plain (mkA P_s_l16Cand d) = (T_s_l16Cand d.1).run fun r => some (O_s_l16Cand r) := fun d => by kernel_rfl
theorem fn_s_l16Cand : Fn Tryz.prog 283 .plain F_s_l16Cand := fn_of (cfgOk_of mixed tys_ok (show FnsOk Tryz.prog C_s_l16Cand from trivial)) Tryz.func283 (by kernel_rfl) (by kernel_rfl) (fun cx b hp hb => all_of (by kernel_rfl : loopsOf (Tryz.f283.body.getD .skip) = []) trivial b hb) (R := (YCand)) (T := fun (d : aden P_s_l16Cand) => T_s_l16Cand d.1) e_s_l16Cand
def P_s_l16Copy : List (Bool × List Sh) := [(true, h_7)]
def O_s_l16Copy (r : (YPaths)) : List RV × List RV := ([rv (true, h_7) r], [])
def C_s_l16Copy : Fns := [(283, .plain, F_s_l16Cand)]
def F_s_l16Copy : Fun1 := funV P_s_l16Copy (fun d => (T_s_l16Copy d.1).val) O_s_l16Copy
def K_s_l16Copy_3 : Sk := ⟨[(1, .box 1 0), (2, .box 2 0), (3, .box 3 0), (4, .v false [(.int .i64, .nil)])], [(1, [(.int .i64, .nil), (.int .i64, .nil), (.sl 274 h_4, .ro)]), (2, [(.int .i64, .nil), (.int .i64, .nil), (.sl 274 h_4, (.own 4000000))]), (3, [(.int .i64, .nil), (.int .i64, .nil), (.sl 274 h_4, (.own 4000001))])], [4000000, 4000001]⟩
def X_s_l16Copy_3 : List (Ex × Sk) := [((.exit 0), ⟨[(2, .box 2 0), (3, .box 3 0)], [(2, [(.int .i64, .nil), (.int .i64, .nil), (.sl 274 h_4, (.own 4000000))]), (3, [(.int .i64, .nil), (.int .i64, .nil), (.sl 274 h_4, (.own 4000001))])], [4000000, 4000001]⟩)]
def Q_s_l16Copy : Loops := fun i st => cond (Nat.beq i 3) (lam K_s_l16Copy_3 4000000 X_s_l16Copy_3 B_s_l16Copy_3 st) <| .fail
theorem lp_s_l16Copy_3 : ∀ d, bod ⟨lookT tys, ctrOf C_s_l16Copy, kindOf C_s_l16Copy, 3, 4⟩ 0 Tryz.f219.ntmps Q_s_l16Copy (nthLoop Tryz.f219 0) K_s_l16Copy_3 4000000 X_s_l16Copy_3 d = B_s_l16Copy_3 d := fun d => by kernel_rfl
theorem lo_s_l16Copy_3 (cx : Cx) (hp : cx.pin.length ≤ 0) : LoopOk Tryz.prog cx Tryz.f219.ntmps Q_s_l16Copy (nthLoop Tryz.f219 0) := loop_of (cfgOk_of mixed tys_ok (show FnsOk Tryz.prog C_s_l16Copy from ⟨fn_s_l16Cand, trivial⟩)) hp (all_of (by kernel_rfl : loopsOf (nthLoop Tryz.f219 0) = []) trivial) (by kernel_rfl) lp_s_l16Copy_3
theorem e_s_l16Copy : ∀ d, pcall ⟨lookT tys, ctrOf C_s_l16Copy, kindOf C_s_l16Copy, 3, 4⟩ 0 Q_s_l16Copy Tryz.f219 .plain (mkA P_s_l16Copy d) = (T_s_l16Copy d.1).run fun r => some (O_s_l16Copy r) := fun d => by kernel_rfl
theorem fn_s_l16Copy : Fn Tryz.prog 219 .plain F_s_l16Copy := fn_of (cfgOk_of mixed tys_ok (show FnsOk Tryz.prog C_s_l16Copy from ⟨fn_s_l16Cand, trivial⟩)) Tryz.func219 (by kernel_rfl) (by kernel_rfl) (fun cx b hp hb => all_of (by kernel_rfl : loopsOf (Tryz.f219.body.getD .skip) = [nthLoop Tryz.f219 0]) ⟨lo_s_l16Copy_3 cx hp, trivial⟩ b hb) (R := (YPaths)) (T := fun (d : aden P_s_l16Copy) => T_s_l16Copy d.1) e_s_l16Copy
def P_s_l20Copy : List (Bool × List Sh) := [(true, h_13)]
def O_s_l20Copy (r : (YSess)) : List RV × List RV := ([rv (true, h_13) r], [])
def C_s_l20Copy : Fns := [(196, .plain, F_s_l14Copy), (219, .plain, F_s_l16Copy)]
def F_s_l20Copy : Fun1 := funV P_s_l20Copy (fun d => (T_s_l20Copy d.1).val) O_s_l20Copy
def Q_s_l20Copy : Loops := fun _ _ => .fail
theorem e_s_l20Copy : ∀ d, pcall ⟨lookT tys, ctrOf C_s_l20Copy, kindOf C_s_l20Copy, 3, 4⟩ 0 Q_s_l20Copy Tryz.f120 .plain (mkA P_s_l20Copy d) = (T_s_l20Copy d.1).run fun r => some (O_s_l20Copy r) := fun d => by kernel_rfl
theorem fn_s_l20Copy : Fn Tryz.prog 120 .plain F_s_l20Copy := fn_of (cfgOk_of mixed tys_ok (show FnsOk Tryz.prog C_s_l20Copy from ⟨fn_s_l14Copy, fn_s_l16Copy, trivial⟩)) Tryz.func120 (by kernel_rfl) (by kernel_rfl) (fun cx b hp hb => all_of (by kernel_rfl : loopsOf (Tryz.f120.body.getD .skip) = []) trivial b hb) (R := (YSess)) (T := fun (d : aden P_s_l20Copy) => T_s_l20Copy d.1) e_s_l20Copy
def P_s_l21Copy : List (Bool × List Sh) := [(true, [.int .i64, .sl 100 h_13])]
def O_s_l21Copy (r : (YTab)) : List RV × List RV := ([rv (true, [.int .i64, .sl 100 h_13]) r], [])
def C_s_l21Copy : Fns := [(120, .plain, F_s_l20Copy)]
def F_s_l21Copy : Fun1 := funV P_s_l21Copy (fun d => (T_s_l21Copy d.1).val) O_s_l21Copy
def K_s_l21Copy_3 : Sk := ⟨[(1, .box 1 0), (2, .box 2 0), (3, .box 3 0), (4, .v false [(.int .i64, .nil)])], [(1, [(.int .i64, .nil), (.sl 100 h_13, .ro)]), (2, [(.int .i64, .nil), (.sl 100 h_13, (.own 4000000))]), (3, [(.int .i64, .nil), (.sl 100 h_13, (.own 4000001))])], [4000000, 4000001]⟩
def X_s_l21Copy_3 : List (Ex × Sk) := [((.exit 0), ⟨[(2, .box 2 0), (3, .box 3 0)], [(2, [(.int .i64, .nil), (.sl 100 h_13, (.own 4000000))]), (3, [(.int .i64, .nil), (.sl 100 h_13, (.own 4000001))])], [4000000, 4000001]⟩)]
def Q_s_l21Copy : Loops := fun i st => cond (Nat.beq i 3) (lam K_s_l21Copy_3 4000000 X_s_l21Copy_3 B_s_l21Copy_3 st) <| .fail
theorem lp_s_l21Copy_3 : ∀ d, bod ⟨lookT tys, ctrOf C_s_l21Copy, kindOf C_s_l21Copy, 3, 4⟩ 0 Tryz.f175.ntmps Q_s_l21Copy (nthLoop Tryz.f175 0) K_s_l21Copy_3 4000000 X_s_l21Copy_3 d = B_s_l21Copy_3 d := fun d => by kernel_rfl
theorem lo_s_l21Copy_3 (cx : Cx) (hp : cx.pin.length ≤ 0) : LoopOk Tryz.prog cx Tryz.f175.ntmps Q_s_l21Copy (nthLoop Tryz.f175 0) := loop_of (cfgOk_of mixed tys_ok (show FnsOk Tryz.prog C_s_l21Copy from ⟨fn_s_l20Copy, trivial⟩)) hp (all_of (by kernel_rfl : loopsOf (nthLoop Tryz.f175 0) = []) trivial) (by kernel_rfl) lp_s_l21Copy_3
theorem e_s_l21Copy : ∀ d, pcall ⟨lookT tys, ctrOf C_s_l21Copy, kindOf C_s_l21Copy, 3, 4⟩ 0 Q_s_l21Copy Tryz.f175 .plain (mkA P_s_l21Copy d) = (T_s_l21Copy d.1).run fun r => some (O_s_l21Copy r) := fun d => by kernel_rfl
theorem fn_s_l21Copy : Fn Tryz.prog 175 .plain F_s_l21Copy := fn_of (cfgOk_of mixed tys_ok (show FnsOk Tryz.prog C_s_l21Copy from ⟨fn_s_l20Copy, trivial⟩)) Tryz.func175 (by kernel_rfl) (by kernel_rfl) (fun cx b hp hb => all_of (by kernel_rfl : loopsOf (Tryz.f175.body.getD .skip) = [nthLoop Tryz.f175 0]) ⟨lo_s_l21Copy_3 cx hp, trivial⟩ b hb) (R := (YTab)) (T := fun (d : aden P_s_l21Copy) => T_s_l21Copy d.1) e_s_l21Copy
def P_s_l22Copy : List (Bool × List Sh) := [(true, h_15)]
def O_s_l22Copy (r : (YServer)) : List RV × List RV := ([rv (true, h_15) r], [])
def C_s_l22Copy : Fns := [(174, .plain, F_s_l10Copy), (175, .plain, F_s_l21Copy)]
def F_s_l22Copy : Fun1 := funV P_s_l22Copy (fun d => (T_s_l22Copy d.1).val) O_s_l22Copy
def K_s_l22Copy_3 : Sk := ⟨[(1, .box 1 0), (2, .box 2 0), (3, .box 3 0), (4, .v false [(.int .i64, .nil)])], [(1, [(.sl 23 [.sl 5 [.int .u8]], .ro), (.sl 5 [.int .u8], .ro), (.sl 5 [.int .u8], .ro), (.int .i64, .nil), (.int .i64, .nil), (.sl 100 h_13, .ro), (.sl 218 h_2, .ro)]), (2, [(.sl 23 [.sl 5 [.int .u8]], (.own 4000000)), (.sl 5 [.int .u8], (.own 4000001)), (.sl 5 [.int .u8], (.own 4000002)), (.int .i64, .nil), (.int .i64, .nil), (.sl 100 h_13, (.own 4000003)), (.sl 218 h_2, (.own 4000004))]), (3, [(.sl 23 [.sl 5 [.int .u8]], (.own 4000005)), (.sl 5 [.int .u8], (.own 4000006)), (.sl 5 [.int .u8], (.own 4000007)), (.int .i64, .nil), (.int .i64, .nil), (.sl 100 h_13, (.own 4000008)), (.sl 218 h_2, (.own 4000009))])], [4000000, 4000001, 4000002, 4000003, 4000004, 4000005, 4000006, 4000007, 4000008, 4000009]⟩
def X_s_l22Copy_3 : List (Ex × Sk) := [((.exit 0), ⟨[(2, .box 2 0), (3, .box 3 0)], [(2, [(.sl 23 [.sl 5 [.int .u8]], (.own 4000000)), (.sl 5 [.int .u8], (.own 4000001)), (.sl 5 [.int .u8], (.own 4000002)), (.int .i64, .nil), (.int .i64, .nil), (.sl 100 h_13, (.own 4000003)), (.sl 218 h_2, (.own 4000004))]), (3, [(.sl 23 [.sl 5 [.int .u8]], (.own 4000005)), (.sl 5 [.int .u8], (.own 4000006)), (.sl 5 [.int .u8], (.own 4000007)), (.int .i64, .nil), (.int .i64, .nil), (.sl 100 h_13, (.own 4000008)), (.sl 218 h_2, (.own 4000009))])], [4000000, 4000001, 4000002, 4000003, 4000004, 4000005, 4000006, 4000007, 4000008, 4000009]⟩)]
def Q_s_l22Copy : Loops := fun i st => cond (Nat.beq i 3) (lam K_s_l22Copy_3 4000000 X_s_l22Copy_3 B_s_l22Copy_3 st) <| .fail
theorem lp_s_l22Copy_3 : ∀ d, bod ⟨lookT tys, ctrOf C_s_l22Copy, kindOf C_s_l22Copy, 3, 4⟩ 0 Tryz.f66.ntmps Q_s_l22Copy (nthLoop Tryz.f66 0) K_s_l22Copy_3 4000000 X_s_l22Copy_3 d = B_s_l22Copy_3 d := fun d => by kernel_rfl
theorem lo_s_l22Copy_3 (cx : Cx) (hp : cx.pin.length ≤ 0) : LoopOk Tryz.prog cx Tryz.f66.ntmps Q_s_l22Copy (nthLoop Tryz.f66 0) := loop_of (cfgOk_of mixed tys_ok (show FnsOk Tryz.prog C_s_l22Copy from ⟨fn_s_l10Copy, fn_s_l21Copy, trivial⟩)) hp (all_of (by kernel_rfl : loopsOf (nthLoop Tryz.f66 0) = []) trivial) (by kernel_rfl) lp_s_l22Copy_3
theorem e_s_l22Copy : ∀ d, pcall ⟨lookT tys, ctrOf C_s_l22Copy, kindOf C_s_l22Copy, 3, 4⟩ 0 Q_s_l22Copy Tryz.f66 .plain (mkA P_s_l22Copy d) = (T_s_l22Copy d.1).run fun r => some (O_s_l22Copy r) := fun d => by kernel_rfl
theorem fn_s_l22Copy : Fn Tryz.prog 66 .plain F_s_l22Copy := fn_of (cfgOk_of mixed tys_ok (show FnsOk Tryz.prog C_s_l22Copy from ⟨fn_s_l10Copy, fn_s_l21Copy, trivial⟩)) Tryz.func66 (by kernel_rfl) (by kernel_rfl) (fun cx b hp hb => all_of (by kernel_rfl : loopsOf (Tryz.f66.body.getD .skip) = [nthLoop Tryz.f66 0]) ⟨lo_s_l22Copy_3 cx hp, trivial⟩ b hb) (R := (YServer)) (T := fun (d : aden P_s_l22Copy) => T_s_l22Copy d.1) e_s_l22Copy
def P_s_l1In : List (Bool × List Sh) := [(false, [.int .i64]), (false, [.int .i64]), (false, [.int .i64])]
def O_s_l1In (r : (Bool × Unit)) : List RV × List RV := ([rv (false, [.bool]) r], [])
def C_s_l1In : Fns := []
def F_s_l1In : Fun1 := funV P_s_l1In (fun d => (T_s_l1In d.1 d.2.1 d.2.2.1).val) O_s_l1In
def Q_s_l1In : Loops := fun _ _ => .fail
theorem e_s_l1In : ∀ d, pcall ⟨lookT tys, ctrOf C_s_l1In, kindOf C_s_l1In, 3, 4⟩ 0 Q_s_l1In Tryz.f68 .plain (mkA P_s_l1In d) = (T_s_l1In d.1 d.2.1 d.2.2.1).run fun r => some (O_s_l1In r) := fun d => by kernel_rfl
theorem fn_s_l1In : Fn Tryz.prog 68 .plain F_s_l1In := fn_of (cfgOk_of mixed tys_ok (show FnsOk Tryz.prog C_s_l1In from trivial)) Tryz.func68 (by kernel_rfl) (by kernel_rfl) (fun cx b hp hb => all_of (by kernel_rfl : loopsOf (Tryz.f68.body.getD .skip) = []) trivial b hb) (R := (Bool × Unit)) (T := fun (d : aden P_s_l1In) => T_s_l1In d.1 d.2.1 d.2.2.1) e_s_l1In
def P_s_JarOk : List (Bool × List Sh) := [(true, [.sl 5 [.int .u8]])]
def O_s_JarOk (r : (Bool × Unit)) : List RV × List RV := ([rv (false, [.bool]) r], [])
def C_s_JarOk : Fns := []
def F_s_JarOk : Fun1 := funV P_s_JarOk (fun d => (T_s_JarOk d.1).val) O_s_JarOk
def Q_s_JarOk : Loops := fun _ _ => .fail
theorem e_s_JarOk : ∀ d, pcall ⟨lookT tys, ctrOf C_s_JarOk, kindOf C_s_JarOk, 3, 4⟩ 0 Q_s_JarOk Tryz.f176 .plain (mkA P_s_JarOk d) = (T_s_JarOk d.1).run fun r => some (O_s_JarOk r) := fun d => by kernel_rfl
theorem fn_s_JarOk : Fn Tryz.prog 176 .plain F_s_JarOk := fn_of (cfgOk_of mixed tys_ok (show FnsOk Tryz.prog C_s_JarOk from trivial)) Tryz.func176 (by kernel_rfl) (by kernel_rfl) (fun cx b hp hb => all_of (by kernel_rfl : loopsOf (Tryz.f176.body.getD .skip) = []) trivial b hb) (R := (Bool × Unit)) (T := fun (d : aden P_s_JarOk) => T_s_JarOk d.1) e_s_JarOk
def P_s_DiceOk : List (Bool × List Sh) := [(true, [.sl 5 [.int .u8], .int .i64])]
def O_s_DiceOk (r : (Bool × Unit)) : List RV × List RV := ([rv (false, [.bool]) r], [])
def C_s_DiceOk : Fns := [(68, .plain, F_s_l1In)]
def F_s_DiceOk : Fun1 := funV P_s_DiceOk (fun d => (T_s_DiceOk d.1).val) O_s_DiceOk
def Q_s_DiceOk : Loops := fun _ _ => .fail
theorem e_s_DiceOk : ∀ d, pcall ⟨lookT tys, ctrOf C_s_DiceOk, kindOf C_s_DiceOk, 3, 4⟩ 0 Q_s_DiceOk Tryz.f177 .plain (mkA P_s_DiceOk d) = (T_s_DiceOk d.1).run fun r => some (O_s_DiceOk r) := fun d => by kernel_rfl
theorem fn_s_DiceOk : Fn Tryz.prog 177 .plain F_s_DiceOk := fn_of (cfgOk_of mixed tys_ok (show FnsOk Tryz.prog C_s_DiceOk from ⟨fn_s_l1In, trivial⟩)) Tryz.func177 (by kernel_rfl) (by kernel_rfl) (fun cx b hp hb => all_of (by kernel_rfl : loopsOf (Tryz.f177.body.getD .skip) = []) trivial b hb) (R := (Bool × Unit)) (T := fun (d : aden P_s_DiceOk) => T_s_DiceOk d.1) e_s_DiceOk
def P_s_Live : List (Bool × List Sh) := [(true, [.int .i64, .sl 100 h_13])]
def O_s_Live (r : (YI)) : List RV × List RV := ([rv (false, [.int .i64]) r], [])
def C_s_Live : Fns := []
def F_s_Live : Fun1 := funV P_s_Live (fun d => (T_s_Live d.1).val) O_s_Live
def K_s_Live_3 : Sk := ⟨[(1, .box 1 0), (3, .v false [(.int .i64, .nil)]), (4, .v false [(.int .i64, .nil)])], [(1, [(.int .i64, .nil), (.sl 100 h_13, .ro)])], []⟩
def X_s_Live_3 : List (Ex × Sk) := [((.exit 0), ⟨[(3, .v false [(.int .i64, .nil)])], [], []⟩)]
def Q_s_Live : Loops := fun i st => cond (Nat.beq i 3) (lam K_s_Live_3 4000000 X_s_Live_3 B_s_Live_3 st) <| .fail
theorem lp_s_Live_3 : ∀ d, bod ⟨lookT tys, ctrOf C_s_Live, kindOf C_s_Live, 3, 4⟩ 0 Tryz.f257.ntmps Q_s_Live (nthLoop Tryz.f257 0) K_s_Live_3 4000000 X_s_Live_3 d = B_s_Live_3 d := fun d => by kernel_rfl
theorem lo_s_Live_3 (cx : Cx) (hp : cx.pin.length ≤ 0) : LoopOk Tryz.prog cx Tryz.f257.ntmps Q_s_Live (nthLoop Tryz.f257 0) := loop_of (cfgOk_of mixed tys_ok (show FnsOk Tryz.prog C_s_Live from trivial)) hp (all_of (by kernel_rfl : loopsOf (nthLoop Tryz.f257 0) = []) trivial) (by kernel_rfl) lp_s_Live_3
theorem e_s_Live : ∀ d, pcall ⟨lookT tys, ctrOf C_s_Live, kindOf C_s_Live, 3, 4⟩ 0 Q_s_Live Tryz.f257 .plain (mkA P_s_Live d) = (T_s_Live d.1).run fun r => some (O_s_Live r) := fun d => by kernel_rfl
theorem fn_s_Live : Fn Tryz.prog 257 .plain F_s_Live := fn_of (cfgOk_of mixed tys_ok (show FnsOk Tryz.prog C_s_Live from trivial)) Tryz.func257 (by kernel_rfl) (by kernel_rfl) (fun cx b hp hb => all_of (by kernel_rfl : loopsOf (Tryz.f257.body.getD .skip) = [nthLoop Tryz.f257 0]) ⟨lo_s_Live_3 cx hp, trivial⟩ b hb) (R := (YI)) (T := fun (d : aden P_s_Live) => T_s_Live d.1) e_s_Live
def P_s_l14None : List (Bool × List Sh) := [(true, h_5)]
def O_s_l14None (r : (Bool × Unit)) : List RV × List RV := ([rv (false, [.bool]) r], [])
def C_s_l14None : Fns := []
def F_s_l14None : Fun1 := funV P_s_l14None (fun d => (T_s_l14None d.1).val) O_s_l14None
def Q_s_l14None : Loops := fun _ _ => .fail
theorem e_s_l14None : ∀ d, pcall ⟨lookT tys, ctrOf C_s_l14None, kindOf C_s_l14None, 3, 4⟩ 0 Q_s_l14None Tryz.f267 .plain (mkA P_s_l14None d) = (T_s_l14None d.1).run fun r => some (O_s_l14None r) := fun d => by kernel_rfl
theorem fn_s_l14None : Fn Tryz.prog 267 .plain F_s_l14None := fn_of (cfgOk_of mixed tys_ok (show FnsOk Tryz.prog C_s_l14None from trivial)) Tryz.func267 (by kernel_rfl) (by kernel_rfl) (fun cx b hp hb => all_of (by kernel_rfl : loopsOf (Tryz.f267.body.getD .skip) = []) trivial b hb) (R := (Bool × Unit)) (T := fun (d : aden P_s_l14None) => T_s_l14None d.1) e_s_l14None
def P_s_l19NoChan : List (Bool × List Sh) := [(true, h_11)]
def O_s_l19NoChan (r : (Bool × Unit)) : List RV × List RV := ([rv (false, [.bool]) r], [])
def C_s_l19NoChan : Fns := [(267, .plain, F_s_l14None)]
def F_s_l19NoChan : Fun1 := funV P_s_l19NoChan (fun d => (T_s_l19NoChan d.1).val) O_s_l19NoChan
def Q_s_l19NoChan : Loops := fun _ _ => .fail
theorem e_s_l19NoChan : ∀ d, pcall ⟨lookT tys, ctrOf C_s_l19NoChan, kindOf C_s_l19NoChan, 3, 4⟩ 0 Q_s_l19NoChan Tryz.f200 .plain (mkA P_s_l19NoChan d) = (T_s_l19NoChan d.1).run fun r => some (O_s_l19NoChan r) := fun d => by kernel_rfl
theorem fn_s_l19NoChan : Fn Tryz.prog 200 .plain F_s_l19NoChan := fn_of (cfgOk_of mixed tys_ok (show FnsOk Tryz.prog C_s_l19NoChan from ⟨fn_s_l14None, trivial⟩)) Tryz.func200 (by kernel_rfl) (by kernel_rfl) (fun cx b hp hb => all_of (by kernel_rfl : loopsOf (Tryz.f200.body.getD .skip) = []) trivial b hb) (R := (Bool × Unit)) (T := fun (d : aden P_s_l19NoChan) => T_s_l19NoChan d.1) e_s_l19NoChan
def P_s_Near : List (Bool × List Sh) := [(false, [.int .i64])]
def O_s_Near (r : (YAddr)) : List RV × List RV := ([rv (true, [.int .i64, .int .i64]) r], [])
def C_s_Near : Fns := [(68, .plain, F_s_l1In)]
def F_s_Near : Fun1 := funV P_s_Near (fun d => (T_s_Near d.1).val) O_s_Near
def Q_s_Near : Loops := fun _ _ => .fail
theorem e_s_Near : ∀ d, pcall ⟨lookT tys, ctrOf C_s_Near, kindOf C_s_Near, 3, 4⟩ 0 Q_s_Near Tryz.f220 .plain (mkA P_s_Near d) = (T_s_Near d.1).run fun r => some (O_s_Near r) := fun d => by kernel_rfl
theorem fn_s_Near : Fn Tryz.prog 220 .plain F_s_Near := fn_of (cfgOk_of mixed tys_ok (show FnsOk Tryz.prog C_s_Near from ⟨fn_s_l1In, trivial⟩)) Tryz.func220 (by kernel_rfl) (by kernel_rfl) (fun cx b hp hb => all_of (by kernel_rfl : loopsOf (Tryz.f220.body.getD .skip) = []) trivial b hb) (R := (YAddr)) (T := fun (d : aden P_s_Near) => T_s_Near d.1) e_s_Near
def P_s_l8Bit : List (Bool × List Sh) := [(true, [.int .i64, .sl 3 [.int .i64]]), (false, [.int .i64])]
def O_s_l8Bit (r : (Bool × Unit)) : List RV × List RV := ([rv (false, [.bool]) r], [])
def C_s_l8Bit : Fns := []
def F_s_l8Bit : Fun1 := funV P_s_l8Bit (fun d => (T_s_l8Bit d.1 d.2.1).val) O_s_l8Bit
def Q_s_l8Bit : Loops := fun _ _ => .fail
theorem e_s_l8Bit : ∀ d, pcall ⟨lookT tys, ctrOf C_s_l8Bit, kindOf C_s_l8Bit, 3, 4⟩ 0 Q_s_l8Bit Tryz.f321 .plain (mkA P_s_l8Bit d) = (T_s_l8Bit d.1 d.2.1).run fun r => some (O_s_l8Bit r) := fun d => by kernel_rfl
theorem fn_s_l8Bit : Fn Tryz.prog 321 .plain F_s_l8Bit := fn_of (cfgOk_of mixed tys_ok (show FnsOk Tryz.prog C_s_l8Bit from trivial)) Tryz.func321 (by kernel_rfl) (by kernel_rfl) (fun cx b hp hb => all_of (by kernel_rfl : loopsOf (Tryz.f321.body.getD .skip) = []) trivial b hb) (R := (Bool × Unit)) (T := fun (d : aden P_s_l8Bit) => T_s_l8Bit d.1 d.2.1) e_s_l8Bit
def P_s_WinOk : List (Bool × List Sh) := [(true, [.int .i64, .sl 3 [.int .i64]])]
def O_s_WinOk (r : (Bool × Unit)) : List RV × List RV := ([rv (false, [.bool]) r], [])
def C_s_WinOk : Fns := [(68, .plain, F_s_l1In), (321, .plain, F_s_l8Bit)]
def F_s_WinOk : Fun1 := funV P_s_WinOk (fun d => (T_s_WinOk d.1).val) O_s_WinOk
def K_s_WinOk_11 : Sk := ⟨[(1, .box 1 0), (4, .v false [(.int .i64, .nil)])], [(1, [(.int .i64, .nil), (.sl 3 [.int .i64], .ro)])], []⟩
def X_s_WinOk_11 : List (Ex × Sk) := [(.ret, ⟨[(2, .v false [(.bool, .nil)])], [], []⟩), ((.exit 2), ⟨[], [], []⟩)]
def K_s_WinOk_4 : Sk := ⟨[(1, .box 1 0), (3, .v false [(.int .i64, .nil)])], [(1, [(.int .i64, .nil), (.sl 3 [.int .i64], .ro)])], []⟩
def X_s_WinOk_4 : List (Ex × Sk) := [(.ret, ⟨[(2, .v false [(.bool, .nil)])], [], []⟩), ((.exit 0), ⟨[(1, .box 1 0)], [(1, [(.int .i64, .nil), (.sl 3 [.int .i64], .ro)])], []⟩)]
def Q_s_WinOk : Loops := fun i st => cond (Nat.beq i 4) (lam K_s_WinOk_4 5000000 X_s_WinOk_4 B_s_WinOk_4 st) <| cond (Nat.beq i 11) (lam K_s_WinOk_11 12000000 X_s_WinOk_11 B_s_WinOk_11 st) <| .fail
theorem lp_s_WinOk_4 : ∀ d, bod ⟨lookT tys, ctrOf C_s_WinOk, kindOf C_s_WinOk, 3, 4⟩ 0 Tryz.f306.ntmps Q_s_WinOk (nthLoop Tryz.f306 0) K_s_WinOk_4 5000000 X_s_WinOk_4 d = B_s_WinOk_4 d := fun d => by kernel_rfl
theorem lo_s_WinOk_4 (cx : Cx) (hp : cx.pin.length ≤ 0) : LoopOk Tryz.prog cx Tryz.f306.ntmps Q_s_WinOk (nthLoop Tryz.f306 0) := loop_of (cfgOk_of mixed tys_ok (show FnsOk Tryz.prog C_s_WinOk from ⟨fn_s_l1In, fn_s_l8Bit, trivial⟩)) hp (all_of (by kernel_rfl : loopsOf (nthLoop Tryz.f306 0) = []) trivial) (by kernel_rfl) lp_s_WinOk_4
theorem lp_s_WinOk_11 : ∀ d, bod ⟨lookT tys, ctrOf C_s_WinOk, kindOf C_s_WinOk, 3, 4⟩ 0 Tryz.f306.ntmps Q_s_WinOk (nthLoop Tryz.f306 1) K_s_WinOk_11 12000000 X_s_WinOk_11 d = B_s_WinOk_11 d := fun d => by kernel_rfl
theorem lo_s_WinOk_11 (cx : Cx) (hp : cx.pin.length ≤ 0) : LoopOk Tryz.prog cx Tryz.f306.ntmps Q_s_WinOk (nthLoop Tryz.f306 1) := loop_of (cfgOk_of mixed tys_ok (show FnsOk Tryz.prog C_s_WinOk from ⟨fn_s_l1In, fn_s_l8Bit, trivial⟩)) hp (all_of (by kernel_rfl : loopsOf (nthLoop Tryz.f306 1) = []) trivial) (by kernel_rfl) lp_s_WinOk_11
theorem e_s_WinOk : ∀ d, pcall ⟨lookT tys, ctrOf C_s_WinOk, kindOf C_s_WinOk, 3, 4⟩ 0 Q_s_WinOk Tryz.f306 .plain (mkA P_s_WinOk d) = (T_s_WinOk d.1).run fun r => some (O_s_WinOk r) := fun d => by kernel_rfl
theorem fn_s_WinOk : Fn Tryz.prog 306 .plain F_s_WinOk := fn_of (cfgOk_of mixed tys_ok (show FnsOk Tryz.prog C_s_WinOk from ⟨fn_s_l1In, fn_s_l8Bit, trivial⟩)) Tryz.func306 (by kernel_rfl) (by kernel_rfl) (fun cx b hp hb => all_of (by kernel_rfl : loopsOf (Tryz.f306.body.getD .skip) = [nthLoop Tryz.f306 0, nthLoop Tryz.f306 1]) ⟨lo_s_WinOk_4 cx hp, lo_s_WinOk_11 cx hp, trivial⟩ b hb) (R := (Bool × Unit)) (T := fun (d : aden P_s_WinOk) => T_s_WinOk d.1) e_s_WinOk
def P_s_EpOk : List (Bool × List Sh) := [(true, h_5)]
def O_s_EpOk (r : (Bool × Unit)) : List RV × List RV := ([rv (false, [.bool]) r], [])
def C_s_EpOk : Fns := [(68, .plain, F_s_l1In), (306, .plain, F_s_WinOk)]
def F_s_EpOk : Fun1 := funV P_s_EpOk (fun d => (T_s_EpOk d.1).val) O_s_EpOk
def Q_s_EpOk : Loops := fun _ _ => .fail
theorem e_s_EpOk : ∀ d, pcall ⟨lookT tys, ctrOf C_s_EpOk, kindOf C_s_EpOk, 3, 4⟩ 0 Q_s_EpOk Tryz.f268 .plain (mkA P_s_EpOk d) = (T_s_EpOk d.1).run fun r => some (O_s_EpOk r) := fun d => by kernel_rfl
theorem fn_s_EpOk : Fn Tryz.prog 268 .plain F_s_EpOk := fn_of (cfgOk_of mixed tys_ok (show FnsOk Tryz.prog C_s_EpOk from ⟨fn_s_l1In, fn_s_WinOk, trivial⟩)) Tryz.func268 (by kernel_rfl) (by kernel_rfl) (fun cx b hp hb => all_of (by kernel_rfl : loopsOf (Tryz.f268.body.getD .skip) = []) trivial b hb) (R := (Bool × Unit)) (T := fun (d : aden P_s_EpOk) => T_s_EpOk d.1) e_s_EpOk
def P_s_ChanOk : List (Bool × List Sh) := [(true, h_11)]
def O_s_ChanOk (r : (Bool × Unit)) : List RV × List RV := ([rv (false, [.bool]) r], [])
def C_s_ChanOk : Fns := [(68, .plain, F_s_l1In), (268, .plain, F_s_EpOk), (267, .plain, F_s_l14None)]
def F_s_ChanOk : Fun1 := funV P_s_ChanOk (fun d => (T_s_ChanOk d.1).val) O_s_ChanOk
def Q_s_ChanOk : Loops := fun _ _ => .fail
theorem e_s_ChanOk : ∀ d, pcall ⟨lookT tys, ctrOf C_s_ChanOk, kindOf C_s_ChanOk, 3, 4⟩ 0 Q_s_ChanOk Tryz.f201 .plain (mkA P_s_ChanOk d) = (T_s_ChanOk d.1).run fun r => some (O_s_ChanOk r) := fun d => by kernel_rfl
theorem fn_s_ChanOk : Fn Tryz.prog 201 .plain F_s_ChanOk := fn_of (cfgOk_of mixed tys_ok (show FnsOk Tryz.prog C_s_ChanOk from ⟨fn_s_l1In, fn_s_EpOk, fn_s_l14None, trivial⟩)) Tryz.func201 (by kernel_rfl) (by kernel_rfl) (fun cx b hp hb => all_of (by kernel_rfl : loopsOf (Tryz.f201.body.getD .skip) = []) trivial b hb) (R := (Bool × Unit)) (T := fun (d : aden P_s_ChanOk) => T_s_ChanOk d.1) e_s_ChanOk
def P_s_l1Same : List (Bool × List Sh) := [(false, [.sl 5 [.int .u8]]), (false, [.sl 5 [.int .u8]])]
def O_s_l1Same (r : (Bool × Unit)) : List RV × List RV := ([rv (false, [.bool]) r], [])
def C_s_l1Same : Fns := []
def F_s_l1Same : Fun1 := funV P_s_l1Same (fun d => (T_s_l1Same d.1 d.2.1).val) O_s_l1Same
def Q_s_l1Same : Loops := fun _ _ => .fail
theorem e_s_l1Same : ∀ d, pcall ⟨lookT tys, ctrOf C_s_l1Same, kindOf C_s_l1Same, 3, 4⟩ 0 Q_s_l1Same Tryz.f156 .plain (mkA P_s_l1Same d) = (T_s_l1Same d.1 d.2.1).run fun r => some (O_s_l1Same r) := fun d => by kernel_rfl
theorem fn_s_l1Same : Fn Tryz.prog 156 .plain F_s_l1Same := fn_of (cfgOk_of mixed tys_ok (show FnsOk Tryz.prog C_s_l1Same from trivial)) Tryz.func156 (by kernel_rfl) (by kernel_rfl) (fun cx b hp hb => all_of (by kernel_rfl : loopsOf (Tryz.f156.body.getD .skip) = []) trivial b hb) (R := (Bool × Unit)) (T := fun (d : aden P_s_l1Same) => T_s_l1Same d.1 d.2.1) e_s_l1Same
def P_s_AddrOk : List (Bool × List Sh) := [(true, [.int .i64, .int .i64])]
def O_s_AddrOk (r : (Bool × Unit)) : List RV × List RV := ([rv (false, [.bool]) r], [])
def C_s_AddrOk : Fns := [(68, .plain, F_s_l1In)]
def F_s_AddrOk : Fun1 := funV P_s_AddrOk (fun d => (T_s_AddrOk d.1).val) O_s_AddrOk
def Q_s_AddrOk : Loops := fun _ _ => .fail
theorem e_s_AddrOk : ∀ d, pcall ⟨lookT tys, ctrOf C_s_AddrOk, kindOf C_s_AddrOk, 3, 4⟩ 0 Q_s_AddrOk Tryz.f197 .plain (mkA P_s_AddrOk d) = (T_s_AddrOk d.1).run fun r => some (O_s_AddrOk r) := fun d => by kernel_rfl
theorem fn_s_AddrOk : Fn Tryz.prog 197 .plain F_s_AddrOk := fn_of (cfgOk_of mixed tys_ok (show FnsOk Tryz.prog C_s_AddrOk from ⟨fn_s_l1In, trivial⟩)) Tryz.func197 (by kernel_rfl) (by kernel_rfl) (fun cx b hp hb => all_of (by kernel_rfl : loopsOf (Tryz.f197.body.getD .skip) = []) trivial b hb) (R := (Bool × Unit)) (T := fun (d : aden P_s_AddrOk) => T_s_AddrOk d.1) e_s_AddrOk
def P_s_PathsOk : List (Bool × List Sh) := [(true, h_7)]
def O_s_PathsOk (r : (Bool × Unit)) : List RV × List RV := ([rv (false, [.bool]) r], [])
def C_s_PathsOk : Fns := [(197, .plain, F_s_AddrOk), (68, .plain, F_s_l1In)]
def F_s_PathsOk : Fun1 := funV P_s_PathsOk (fun d => (T_s_PathsOk d.1).val) O_s_PathsOk
def K_s_PathsOk_4 : Sk := ⟨[(1, .box 1 0), (3, .v false [(.int .i64, .nil)])], [(1, [(.int .i64, .nil), (.int .i64, .nil), (.sl 274 h_4, .ro)])], []⟩
def X_s_PathsOk_4 : List (Ex × Sk) := [(.ret, ⟨[(2, .v false [(.bool, .nil)])], [], []⟩), ((.exit 0), ⟨[], [], []⟩)]
def K_s_PathsOk_10 : Sk := ⟨[(1, .box 1 0), (3, .v false [(.int .i64, .nil)]), (4, .box 4 0), (5, .v false [(.int .i64, .nil)])], [(1, [(.int .i64, .nil), (.int .i64, .nil), (.sl 274 h_4, .ro)]), (4, [(.int .i64, .nil), (.int .i64, .nil), (.sl 5 [.int .u8], .ro), (.int .i64, .nil)])], []⟩
def X_s_PathsOk_10 : List (Ex × Sk) := [(.ret, ⟨[(2, .v false [(.bool, .nil)])], [], []⟩), ((.exit 2), ⟨[(1, .box 1 0), (3, .v false [(.int .i64, .nil)])], [(1, [(.int .i64, .nil), (.int .i64, .nil), (.sl 274 h_4, .ro)])], []⟩)]
def Q_s_PathsOk : Loops := fun i st => cond (Nat.beq i 10) (lam K_s_PathsOk_10 11000000 X_s_PathsOk_10 B_s_PathsOk_10 st) <| cond (Nat.beq i 4) (lam K_s_PathsOk_4 5000000 X_s_PathsOk_4 B_s_PathsOk_4 st) <| .fail
theorem lp_s_PathsOk_10 : ∀ d, bod ⟨lookT tys, ctrOf C_s_PathsOk, kindOf C_s_PathsOk, 3, 4⟩ 0 Tryz.f221.ntmps Q_s_PathsOk (nthLoop Tryz.f221 1) K_s_PathsOk_10 11000000 X_s_PathsOk_10 d = B_s_PathsOk_10 d := fun d => by kernel_rfl
theorem lo_s_PathsOk_10 (cx : Cx) (hp : cx.pin.length ≤ 0) : LoopOk Tryz.prog cx Tryz.f221.ntmps Q_s_PathsOk (nthLoop Tryz.f221 1) := loop_of (cfgOk_of mixed tys_ok (show FnsOk Tryz.prog C_s_PathsOk from ⟨fn_s_AddrOk, fn_s_l1In, trivial⟩)) hp (all_of (by kernel_rfl : loopsOf (nthLoop Tryz.f221 1) = []) trivial) (by kernel_rfl) lp_s_PathsOk_10
theorem lp_s_PathsOk_4 : ∀ d, bod ⟨lookT tys, ctrOf C_s_PathsOk, kindOf C_s_PathsOk, 3, 4⟩ 0 Tryz.f221.ntmps Q_s_PathsOk (nthLoop Tryz.f221 0) K_s_PathsOk_4 5000000 X_s_PathsOk_4 d = B_s_PathsOk_4 d := fun d => by kernel_rfl
theorem lo_s_PathsOk_4 (cx : Cx) (hp : cx.pin.length ≤ 0) : LoopOk Tryz.prog cx Tryz.f221.ntmps Q_s_PathsOk (nthLoop Tryz.f221 0) := loop_of (cfgOk_of mixed tys_ok (show FnsOk Tryz.prog C_s_PathsOk from ⟨fn_s_AddrOk, fn_s_l1In, trivial⟩)) hp (all_of (by kernel_rfl : loopsOf (nthLoop Tryz.f221 0) = [nthLoop Tryz.f221 1]) ⟨lo_s_PathsOk_10 cx hp, trivial⟩) (by kernel_rfl) lp_s_PathsOk_4
theorem e_s_PathsOk : ∀ d, pcall ⟨lookT tys, ctrOf C_s_PathsOk, kindOf C_s_PathsOk, 3, 4⟩ 0 Q_s_PathsOk Tryz.f221 .plain (mkA P_s_PathsOk d) = (T_s_PathsOk d.1).run fun r => some (O_s_PathsOk r) := fun d => by kernel_rfl
theorem fn_s_PathsOk : Fn Tryz.prog 221 .plain F_s_PathsOk := fn_of (cfgOk_of mixed tys_ok (show FnsOk Tryz.prog C_s_PathsOk from ⟨fn_s_AddrOk, fn_s_l1In, trivial⟩)) Tryz.func221 (by kernel_rfl) (by kernel_rfl) (fun cx b hp hb => all_of (by kernel_rfl : loopsOf (Tryz.f221.body.getD .skip) = [nthLoop Tryz.f221 0]) ⟨lo_s_PathsOk_4 cx hp, trivial⟩ b hb) (R := (Bool × Unit)) (T := fun (d : aden P_s_PathsOk) => T_s_PathsOk d.1) e_s_PathsOk
def P_s_SessOk : List (Bool × List Sh) := [(true, h_13)]
def O_s_SessOk (r : (Bool × Unit)) : List RV × List RV := ([rv (false, [.bool]) r], [])
def C_s_SessOk : Fns := [(68, .plain, F_s_l1In), (200, .plain, F_s_l19NoChan), (220, .plain, F_s_Near), (201, .plain, F_s_ChanOk), (156, .plain, F_s_l1Same), (221, .plain, F_s_PathsOk)]
def F_s_SessOk : Fun1 := funV P_s_SessOk (fun d => (T_s_SessOk d.1).val) O_s_SessOk
def Q_s_SessOk : Loops := fun _ _ => .fail
theorem e_s_SessOk : ∀ d, pcall ⟨lookT tys, ctrOf C_s_SessOk, kindOf C_s_SessOk, 3, 4⟩ 0 Q_s_SessOk Tryz.f121 .plain (mkA P_s_SessOk d) = (T_s_SessOk d.1).run fun r => some (O_s_SessOk r) := fun d => by kernel_rfl
theorem fn_s_SessOk : Fn Tryz.prog 121 .plain F_s_SessOk := fn_of (cfgOk_of mixed tys_ok (show FnsOk Tryz.prog C_s_SessOk from ⟨fn_s_l1In, fn_s_l19NoChan, fn_s_Near, fn_s_ChanOk, fn_s_l1Same, fn_s_PathsOk, trivial⟩)) Tryz.func121 (by kernel_rfl) (by kernel_rfl) (fun cx b hp hb => all_of (by kernel_rfl : loopsOf (Tryz.f121.body.getD .skip) = []) trivial b hb) (R := (Bool × Unit)) (T := fun (d : aden P_s_SessOk) => T_s_SessOk d.1) e_s_SessOk
def P_s_FindSn : List (Bool × List Sh) := [(true, [.int .i64, .sl 100 h_13]), (false, [.sl 5 [.int .u8]])]
def O_s_FindSn (r : (YI)) : List RV × List RV := ([rv (false, [.int .i64]) r], [])
def C_s_FindSn : Fns := [(156, .plain, F_s_l1Same)]
def F_s_FindSn : Fun1 := funV P_s_FindSn (fun d => (T_s_FindSn d.1 d.2.1).val) O_s_FindSn
def K_s_FindSn_2 : Sk := ⟨[(1, .v false [(.sl 5 [.int .u8], .ro)]), (2, .box 2 0), (5, .v false [(.int .i64, .nil)])], [(2, [(.int .i64, .nil), (.sl 100 h_13, .ro)])], []⟩
def X_s_FindSn_2 : List (Ex × Sk) := [(.ret, ⟨[(4, .v false [(.int .i64, .nil)])], [], []⟩), ((.exit 0), ⟨[], [], []⟩)]
def Q_s_FindSn : Loops := fun i st => cond (Nat.beq i 2) (lam K_s_FindSn_2 3000000 X_s_FindSn_2 B_s_FindSn_2 st) <| .fail
theorem lp_s_FindSn_2 : ∀ d, bod ⟨lookT tys, ctrOf C_s_FindSn, kindOf C_s_FindSn, 3, 4⟩ 0 Tryz.f258.ntmps Q_s_FindSn (nthLoop Tryz.f258 0) K_s_FindSn_2 3000000 X_s_FindSn_2 d = B_s_FindSn_2 d := fun d => by kernel_rfl
theorem lo_s_FindSn_2 (cx : Cx) (hp : cx.pin.length ≤ 0) : LoopOk Tryz.prog cx Tryz.f258.ntmps Q_s_FindSn (nthLoop Tryz.f258 0) := loop_of (cfgOk_of mixed tys_ok (show FnsOk Tryz.prog C_s_FindSn from ⟨fn_s_l1Same, trivial⟩)) hp (all_of (by kernel_rfl : loopsOf (nthLoop Tryz.f258 0) = []) trivial) (by kernel_rfl) lp_s_FindSn_2
theorem e_s_FindSn : ∀ d, pcall ⟨lookT tys, ctrOf C_s_FindSn, kindOf C_s_FindSn, 3, 4⟩ 0 Q_s_FindSn Tryz.f258 .plain (mkA P_s_FindSn d) = (T_s_FindSn d.1 d.2.1).run fun r => some (O_s_FindSn r) := fun d => by kernel_rfl
theorem fn_s_FindSn : Fn Tryz.prog 258 .plain F_s_FindSn := fn_of (cfgOk_of mixed tys_ok (show FnsOk Tryz.prog C_s_FindSn from ⟨fn_s_l1Same, trivial⟩)) Tryz.func258 (by kernel_rfl) (by kernel_rfl) (fun cx b hp hb => all_of (by kernel_rfl : loopsOf (Tryz.f258.body.getD .skip) = [nthLoop Tryz.f258 0]) ⟨lo_s_FindSn_2 cx hp, trivial⟩ b hb) (R := (YI)) (T := fun (d : aden P_s_FindSn) => T_s_FindSn d.1 d.2.1) e_s_FindSn
def P_s_TabOk : List (Bool × List Sh) := [(true, [.int .i64, .sl 100 h_13])]
def O_s_TabOk (r : (Bool × Unit)) : List RV × List RV := ([rv (false, [.bool]) r], [])
def C_s_TabOk : Fns := [(68, .plain, F_s_l1In), (257, .plain, F_s_Live), (121, .plain, F_s_SessOk), (258, .plain, F_s_FindSn)]
def F_s_TabOk : Fun1 := funV P_s_TabOk (fun d => (T_s_TabOk d.1).val) O_s_TabOk
def K_s_TabOk_4 : Sk := ⟨[(1, .box 1 0), (3, .v false [(.int .i64, .nil)])], [(1, [(.int .i64, .nil), (.sl 100 h_13, .ro)])], []⟩
def X_s_TabOk_4 : List (Ex × Sk) := [(.ret, ⟨[(2, .v false [(.bool, .nil)])], [], []⟩), ((.exit 0), ⟨[], [], []⟩)]
def Q_s_TabOk : Loops := fun i st => cond (Nat.beq i 4) (lam K_s_TabOk_4 5000000 X_s_TabOk_4 B_s_TabOk_4 st) <| .fail
theorem lp_s_TabOk_4 : ∀ d, bod ⟨lookT tys, ctrOf C_s_TabOk, kindOf C_s_TabOk, 3, 4⟩ 0 Tryz.f178.ntmps Q_s_TabOk (nthLoop Tryz.f178 0) K_s_TabOk_4 5000000 X_s_TabOk_4 d = B_s_TabOk_4 d := fun d => by kernel_rfl
theorem lo_s_TabOk_4 (cx : Cx) (hp : cx.pin.length ≤ 0) : LoopOk Tryz.prog cx Tryz.f178.ntmps Q_s_TabOk (nthLoop Tryz.f178 0) := loop_of (cfgOk_of mixed tys_ok (show FnsOk Tryz.prog C_s_TabOk from ⟨fn_s_l1In, fn_s_Live, fn_s_SessOk, fn_s_FindSn, trivial⟩)) hp (all_of (by kernel_rfl : loopsOf (nthLoop Tryz.f178 0) = []) trivial) (by kernel_rfl) lp_s_TabOk_4
theorem e_s_TabOk : ∀ d, pcall ⟨lookT tys, ctrOf C_s_TabOk, kindOf C_s_TabOk, 3, 4⟩ 0 Q_s_TabOk Tryz.f178 .plain (mkA P_s_TabOk d) = (T_s_TabOk d.1).run fun r => some (O_s_TabOk r) := fun d => by kernel_rfl
theorem fn_s_TabOk : Fn Tryz.prog 178 .plain F_s_TabOk := fn_of (cfgOk_of mixed tys_ok (show FnsOk Tryz.prog C_s_TabOk from ⟨fn_s_l1In, fn_s_Live, fn_s_SessOk, fn_s_FindSn, trivial⟩)) Tryz.func178 (by kernel_rfl) (by kernel_rfl) (fun cx b hp hb => all_of (by kernel_rfl : loopsOf (Tryz.f178.body.getD .skip) = [nthLoop Tryz.f178 0]) ⟨lo_s_TabOk_4 cx hp, trivial⟩ b hb) (R := (Bool × Unit)) (T := fun (d : aden P_s_TabOk) => T_s_TabOk d.1) e_s_TabOk
def P_s_CreditsOk : List (Bool × List Sh) := [(false, [.sl 218 h_2])]
def O_s_CreditsOk (r : (Bool × Unit)) : List RV × List RV := ([rv (false, [.bool]) r], [])
def C_s_CreditsOk : Fns := [(197, .plain, F_s_AddrOk), (68, .plain, F_s_l1In)]
def F_s_CreditsOk : Fun1 := funV P_s_CreditsOk (fun d => (T_s_CreditsOk d.1).val) O_s_CreditsOk
def K_s_CreditsOk_4 : Sk := ⟨[(0, .v false [(.sl 218 h_2, .ro)]), (3, .v false [(.int .i64, .nil)])], [], []⟩
def X_s_CreditsOk_4 : List (Ex × Sk) := [(.ret, ⟨[(2, .v false [(.bool, .nil)])], [], []⟩), ((.exit 0), ⟨[], [], []⟩)]
def K_s_CreditsOk_9 : Sk := ⟨[(0, .v false [(.sl 218 h_2, .ro)]), (3, .v false [(.int .i64, .nil)]), (4, .v false [(.int .i64, .nil)])], [], []⟩
def X_s_CreditsOk_9 : List (Ex × Sk) := [(.ret, ⟨[(2, .v false [(.bool, .nil)])], [], []⟩), ((.exit 2), ⟨[(0, .v false [(.sl 218 h_2, .ro)]), (3, .v false [(.int .i64, .nil)])], [], []⟩)]
def Q_s_CreditsOk : Loops := fun i st => cond (Nat.beq i 9) (lam K_s_CreditsOk_9 10000000 X_s_CreditsOk_9 B_s_CreditsOk_9 st) <| cond (Nat.beq i 4) (lam K_s_CreditsOk_4 5000000 X_s_CreditsOk_4 B_s_CreditsOk_4 st) <| .fail
theorem lp_s_CreditsOk_9 : ∀ d, bod ⟨lookT tys, ctrOf C_s_CreditsOk, kindOf C_s_CreditsOk, 3, 4⟩ 0 Tryz.f179.ntmps Q_s_CreditsOk (nthLoop Tryz.f179 1) K_s_CreditsOk_9 10000000 X_s_CreditsOk_9 d = B_s_CreditsOk_9 d := fun d => by kernel_rfl
theorem lo_s_CreditsOk_9 (cx : Cx) (hp : cx.pin.length ≤ 0) : LoopOk Tryz.prog cx Tryz.f179.ntmps Q_s_CreditsOk (nthLoop Tryz.f179 1) := loop_of (cfgOk_of mixed tys_ok (show FnsOk Tryz.prog C_s_CreditsOk from ⟨fn_s_AddrOk, fn_s_l1In, trivial⟩)) hp (all_of (by kernel_rfl : loopsOf (nthLoop Tryz.f179 1) = []) trivial) (by kernel_rfl) lp_s_CreditsOk_9
theorem lp_s_CreditsOk_4 : ∀ d, bod ⟨lookT tys, ctrOf C_s_CreditsOk, kindOf C_s_CreditsOk, 3, 4⟩ 0 Tryz.f179.ntmps Q_s_CreditsOk (nthLoop Tryz.f179 0) K_s_CreditsOk_4 5000000 X_s_CreditsOk_4 d = B_s_CreditsOk_4 d := fun d => by kernel_rfl
theorem lo_s_CreditsOk_4 (cx : Cx) (hp : cx.pin.length ≤ 0) : LoopOk Tryz.prog cx Tryz.f179.ntmps Q_s_CreditsOk (nthLoop Tryz.f179 0) := loop_of (cfgOk_of mixed tys_ok (show FnsOk Tryz.prog C_s_CreditsOk from ⟨fn_s_AddrOk, fn_s_l1In, trivial⟩)) hp (all_of (by kernel_rfl : loopsOf (nthLoop Tryz.f179 0) = [nthLoop Tryz.f179 1]) ⟨lo_s_CreditsOk_9 cx hp, trivial⟩) (by kernel_rfl) lp_s_CreditsOk_4
theorem e_s_CreditsOk : ∀ d, pcall ⟨lookT tys, ctrOf C_s_CreditsOk, kindOf C_s_CreditsOk, 3, 4⟩ 0 Q_s_CreditsOk Tryz.f179 .plain (mkA P_s_CreditsOk d) = (T_s_CreditsOk d.1).run fun r => some (O_s_CreditsOk r) := fun d => by kernel_rfl
theorem fn_s_CreditsOk : Fn Tryz.prog 179 .plain F_s_CreditsOk := fn_of (cfgOk_of mixed tys_ok (show FnsOk Tryz.prog C_s_CreditsOk from ⟨fn_s_AddrOk, fn_s_l1In, trivial⟩)) Tryz.func179 (by kernel_rfl) (by kernel_rfl) (fun cx b hp hb => all_of (by kernel_rfl : loopsOf (Tryz.f179.body.getD .skip) = [nthLoop Tryz.f179 0]) ⟨lo_s_CreditsOk_4 cx hp, trivial⟩ b hb) (R := (Bool × Unit)) (T := fun (d : aden P_s_CreditsOk) => T_s_CreditsOk d.1) e_s_CreditsOk
def P_s_PskOk : List (Bool × List Sh) := [(false, [.sl 5 [.int .u8]])]
def O_s_PskOk (r : (Bool × Unit)) : List RV × List RV := ([rv (false, [.bool]) r], [])
def C_s_PskOk : Fns := [(68, .plain, F_s_l1In)]
def F_s_PskOk : Fun1 := funV P_s_PskOk (fun d => (T_s_PskOk d.1).val) O_s_PskOk
def Q_s_PskOk : Loops := fun _ _ => .fail
theorem e_s_PskOk : ∀ d, pcall ⟨lookT tys, ctrOf C_s_PskOk, kindOf C_s_PskOk, 3, 4⟩ 0 Q_s_PskOk Tryz.f180 .plain (mkA P_s_PskOk d) = (T_s_PskOk d.1).run fun r => some (O_s_PskOk r) := fun d => by kernel_rfl
theorem fn_s_PskOk : Fn Tryz.prog 180 .plain F_s_PskOk := fn_of (cfgOk_of mixed tys_ok (show FnsOk Tryz.prog C_s_PskOk from ⟨fn_s_l1In, trivial⟩)) Tryz.func180 (by kernel_rfl) (by kernel_rfl) (fun cx b hp hb => all_of (by kernel_rfl : loopsOf (Tryz.f180.body.getD .skip) = []) trivial b hb) (R := (Bool × Unit)) (T := fun (d : aden P_s_PskOk) => T_s_PskOk d.1) e_s_PskOk
def P_s_ServerOk : List (Bool × List Sh) := [(true, h_15)]
def O_s_ServerOk (r : (Bool × Unit)) : List RV × List RV := ([rv (false, [.bool]) r], [])
def C_s_ServerOk : Fns := [(68, .plain, F_s_l1In), (176, .plain, F_s_JarOk), (177, .plain, F_s_DiceOk), (178, .plain, F_s_TabOk), (179, .plain, F_s_CreditsOk), (180, .plain, F_s_PskOk)]
def F_s_ServerOk : Fun1 := funV P_s_ServerOk (fun d => (T_s_ServerOk d.1).val) O_s_ServerOk
def K_s_ServerOk_9 : Sk := ⟨[(1, .box 1 0), (4, .v false [(.int .i64, .nil)])], [(1, [(.sl 23 [.sl 5 [.int .u8]], .ro), (.sl 5 [.int .u8], .ro), (.sl 5 [.int .u8], .ro), (.int .i64, .nil), (.int .i64, .nil), (.sl 100 h_13, .ro), (.sl 218 h_2, .ro)])], []⟩
def X_s_ServerOk_9 : List (Ex × Sk) := [(.ret, ⟨[(2, .v false [(.bool, .nil)])], [], []⟩), ((.exit 2), ⟨[], [], []⟩)]
def K_s_ServerOk_4 : Sk := ⟨[(1, .box 1 0), (3, .v false [(.int .i64, .nil)])], [(1, [(.sl 23 [.sl 5 [.int .u8]], .ro), (.sl 5 [.int .u8], .ro), (.sl 5 [.int .u8], .ro), (.int .i64, .nil), (.int .i64, .nil), (.sl 100 h_13, .ro), (.sl 218 h_2, .ro)])], []⟩
def X_s_ServerOk_4 : List (Ex × Sk) := [(.ret, ⟨[(2, .v false [(.bool, .nil)])], [], []⟩), ((.exit 0), ⟨[(1, .box 1 0)], [(1, [(.sl 23 [.sl 5 [.int .u8]], .ro), (.sl 5 [.int .u8], .ro), (.sl 5 [.int .u8], .ro), (.int .i64, .nil), (.int .i64, .nil), (.sl 100 h_13, .ro), (.sl 218 h_2, .ro)])], []⟩)]
def Q_s_ServerOk : Loops := fun i st => cond (Nat.beq i 4) (lam K_s_ServerOk_4 5000000 X_s_ServerOk_4 B_s_ServerOk_4 st) <| cond (Nat.beq i 9) (lam K_s_ServerOk_9 10000000 X_s_ServerOk_9 B_s_ServerOk_9 st) <| .fail
theorem lp_s_ServerOk_4 : ∀ d, bod ⟨lookT tys, ctrOf C_s_ServerOk, kindOf C_s_ServerOk, 3, 4⟩ 0 Tryz.f67.ntmps Q_s_ServerOk (nthLoop Tryz.f67 0) K_s_ServerOk_4 5000000 X_s_ServerOk_4 d = B_s_ServerOk_4 d := fun d => by kernel_rfl
theorem lo_s_ServerOk_4 (cx : Cx) (hp : cx.pin.length ≤ 0) : LoopOk Tryz.prog cx Tryz.f67.ntmps Q_s_ServerOk (nthLoop Tryz.f67 0) := loop_of (cfgOk_of mixed tys_ok (show FnsOk Tryz.prog C_s_ServerOk from ⟨fn_s_l1In, fn_s_JarOk, fn_s_DiceOk, fn_s_TabOk, fn_s_CreditsOk, fn_s_PskOk, trivial⟩)) hp (all_of (by kernel_rfl : loopsOf (nthLoop Tryz.f67 0) = []) trivial) (by kernel_rfl) lp_s_ServerOk_4
theorem lp_s_ServerOk_9 : ∀ d, bod ⟨lookT tys, ctrOf C_s_ServerOk, kindOf C_s_ServerOk, 3, 4⟩ 0 Tryz.f67.ntmps Q_s_ServerOk (nthLoop Tryz.f67 1) K_s_ServerOk_9 10000000 X_s_ServerOk_9 d = B_s_ServerOk_9 d := fun d => by kernel_rfl
theorem lo_s_ServerOk_9 (cx : Cx) (hp : cx.pin.length ≤ 0) : LoopOk Tryz.prog cx Tryz.f67.ntmps Q_s_ServerOk (nthLoop Tryz.f67 1) := loop_of (cfgOk_of mixed tys_ok (show FnsOk Tryz.prog C_s_ServerOk from ⟨fn_s_l1In, fn_s_JarOk, fn_s_DiceOk, fn_s_TabOk, fn_s_CreditsOk, fn_s_PskOk, trivial⟩)) hp (all_of (by kernel_rfl : loopsOf (nthLoop Tryz.f67 1) = []) trivial) (by kernel_rfl) lp_s_ServerOk_9
theorem e_s_ServerOk : ∀ d, pcall ⟨lookT tys, ctrOf C_s_ServerOk, kindOf C_s_ServerOk, 3, 4⟩ 0 Q_s_ServerOk Tryz.f67 .plain (mkA P_s_ServerOk d) = (T_s_ServerOk d.1).run fun r => some (O_s_ServerOk r) := fun d => by kernel_rfl
theorem fn_s_ServerOk : Fn Tryz.prog 67 .plain F_s_ServerOk := fn_of (cfgOk_of mixed tys_ok (show FnsOk Tryz.prog C_s_ServerOk from ⟨fn_s_l1In, fn_s_JarOk, fn_s_DiceOk, fn_s_TabOk, fn_s_CreditsOk, fn_s_PskOk, trivial⟩)) Tryz.func67 (by kernel_rfl) (by kernel_rfl) (fun cx b hp hb => all_of (by kernel_rfl : loopsOf (Tryz.f67.body.getD .skip) = [nthLoop Tryz.f67 0, nthLoop Tryz.f67 1]) ⟨lo_s_ServerOk_4 cx hp, lo_s_ServerOk_9 cx hp, trivial⟩ b hb) (R := (Bool × Unit)) (T := fun (d : aden P_s_ServerOk) => T_s_ServerOk d.1) e_s_ServerOk
def P_s_Bury : List (Bool × List Sh) := [(true, h_13)]
def O_s_Bury (r : (YSess)) : List RV × List RV := ([rv (true, h_13) r], [])
def C_s_Bury : Fns := [(121, .plain, F_s_SessOk), (120, .plain, F_s_l20Copy)]
def F_s_Bury : Fun1 := funV P_s_Bury (fun d => (T_s_Bury d.1).val) O_s_Bury
def Q_s_Bury : Loops := fun _ _ => .fail
theorem e_s_Bury : ∀ d, pcall ⟨lookT tys, ctrOf C_s_Bury, kindOf C_s_Bury, 3, 4⟩ 0 Q_s_Bury Tryz.f69 .plain (mkA P_s_Bury d) = (T_s_Bury d.1).run fun r => some (O_s_Bury r) := fun d => by kernel_rfl
theorem fn_s_Bury : Fn Tryz.prog 69 .plain F_s_Bury := fn_of (cfgOk_of mixed tys_ok (show FnsOk Tryz.prog C_s_Bury from ⟨fn_s_SessOk, fn_s_l20Copy, trivial⟩)) Tryz.func69 (by kernel_rfl) (by kernel_rfl) (fun cx b hp hb => all_of (by kernel_rfl : loopsOf (Tryz.f69.body.getD .skip) = []) trivial b hb) (R := (YSess)) (T := fun (d : aden P_s_Bury) => T_s_Bury d.1) e_s_Bury
def P_s_l22End : List (Bool × List Sh) := [(true, h_13)]
def O_s_l22End (r : (YNote)) : List RV × List RV := ([rv (true, h_8) r], [])
def C_s_l22End : Fns := []
def F_s_l22End : Fun1 := funV P_s_l22End (fun d => (T_s_l22End d.1).val) O_s_l22End
def Q_s_l22End : Loops := fun _ _ => .fail
theorem e_s_l22End : ∀ d, pcall ⟨lookT tys, ctrOf C_s_l22End, kindOf C_s_l22End, 3, 4⟩ 0 Q_s_l22End Tryz.f70 .plain (mkA P_s_l22End d) = (T_s_l22End d.1).run fun r => some (O_s_l22End r) := fun d => by kernel_rfl
theorem fn_s_l22End : Fn Tryz.prog 70 .plain F_s_l22End := fn_of (cfgOk_of mixed tys_ok (show FnsOk Tryz.prog C_s_l22End from trivial)) Tryz.func70 (by kernel_rfl) (by kernel_rfl) (fun cx b hp hb => all_of (by kernel_rfl : loopsOf (Tryz.f70.body.getD .skip) = []) trivial b hb) (R := (YNote)) (T := fun (d : aden P_s_l22End) => T_s_l22End d.1) e_s_l22End
def P_s_ServerClose : List (Bool × List Sh) := [(true, h_15), (false, [.int .i64])]
def O_s_ServerClose (r : (YServer) × ((List YNote) × Unit) × (YI)) : List RV × List RV := ([rv (true, h_15) r.1, rv (false, [.sl 139 h_8]) r.2.1, rv (false, [.int .i64]) r.2.2], [])
def C_s_ServerClose : Fns := [(66, .plain, F_s_l22Copy), (67, .plain, F_s_ServerOk), (68, .plain, F_s_l1In), (69, .plain, F_s_Bury), (70, .plain, F_s_l22End)]
def F_s_ServerClose : Fun1 := funV P_s_ServerClose (fun d => (T_s_ServerClose d.1 d.2.1).val) O_s_ServerClose
def Q_s_ServerClose : Loops := fun _ _ => .fail
theorem e_s_ServerClose : ∀ d, pcall ⟨lookT tys, ctrOf C_s_ServerClose, kindOf C_s_ServerClose, 3, 4⟩ 0 Q_s_ServerClose Tryz.f13 .plain (mkA P_s_ServerClose d) = (T_s_ServerClose d.1 d.2.1).run fun r => some (O_s_ServerClose r) := fun d => by kernel_rfl
theorem fn_s_ServerClose : Fn Tryz.prog 13 .plain F_s_ServerClose := fn_of (cfgOk_of mixed tys_ok (show FnsOk Tryz.prog C_s_ServerClose from ⟨fn_s_l22Copy, fn_s_ServerOk, fn_s_l1In, fn_s_Bury, fn_s_l22End, trivial⟩)) Tryz.func13 (by kernel_rfl) (by kernel_rfl) (fun cx b hp hb => all_of (by kernel_rfl : loopsOf (Tryz.f13.body.getD .skip) = []) trivial b hb) (R := (YServer) × ((List YNote) × Unit) × (YI)) (T := fun (d : aden P_s_ServerClose) => T_s_ServerClose d.1 d.2.1) e_s_ServerClose
def P_i_clone : List (Bool × List Sh) := [(false, [.sl 5 [.int .u8]])]
def O_i_clone (r : (YBs)) : List RV × List RV := ([rv (false, [.sl 5 [.int .u8]]) r], [])
def C_i_clone : Fns := []
def F_i_clone : Fun1 := funV P_i_clone (fun d => (T_i_clone d.1).val) O_i_clone
def Q_i_clone : Loops := fun _ _ => .fail
theorem e_i_clone : ∀ d, pcall ⟨lookT tys, ctrOf C_i_clone, kindOf C_i_clone, 3, 4⟩ 0 Q_i_clone Tryz.f111 .plain (mkA P_i_clone d) = (T_i_clone d.1).run fun r => some (O_i_clone r) := fun d => by kernel_rfl
theorem fn_i_clone : Fn Tryz.prog 111 .plain F_i_clone := fn_of (cfgOk_of mixed tys_ok (show FnsOk Tryz.prog C_i_clone from trivial)) Tryz.func111 (by kernel_rfl) (by kernel_rfl) (fun cx b hp hb => all_of (by kernel_rfl : loopsOf (Tryz.f111.body.getD .skip) = []) trivial b hb) (R := (YBs)) (T := fun (d : aden P_i_clone) => T_i_clone d.1) e_i_clone
def P_i_cloneAll : List (Bool × List Sh) := [(false, [.sl 23 [.sl 5 [.int .u8]]])]
def O_i_cloneAll (r : ((List YBs) × Unit)) : List RV × List RV := ([rv (false, [.sl 23 [.sl 5 [.int .u8]]]) r], [])
def C_i_cloneAll : Fns := [(111, .plain, F_i_clone)]
def F_i_cloneAll : Fun1 := funV P_i_cloneAll (fun d => (T_i_cloneAll d.1).val) O_i_cloneAll
def K_i_cloneAll_3 : Sk := ⟨[(3, .v false [(.sl 23 [.sl 5 [.int .u8]], (.own 4000000))]), (7, .v false [(.sl 23 [.sl 5 [.int .u8]], .ro)]), (8, .v false [(.int .i64, .nil)]), (9, .v false [(.int .i64, .nil)])], [], [4000000]⟩
def X_i_cloneAll_3 : List (Ex × Sk) := [((.exit 0), ⟨[(3, .v false [(.sl 23 [.sl 5 [.int .u8]], (.own 4000000))])], [], [4000000]⟩)]
def Q_i_cloneAll : Loops := fun i st => cond (Nat.beq i 3) (lam K_i_cloneAll_3 4000000 X_i_cloneAll_3 B_i_cloneAll_3 st) <| .fail
theorem lp_i_cloneAll_3 : ∀ d, bod ⟨lookT tys, ctrOf C_i_cloneAll, kindOf C_i_cloneAll, 3, 4⟩ 0 Tryz.f183.ntmps Q_i_cloneAll (nthLoop Tryz.f183 0) K_i_cloneAll_3 4000000 X_i_cloneAll_3 d = B_i_cloneAll_3 d := fun d => by kernel_rfl
theorem lo_i_cloneAll_3 (cx : Cx) (hp : cx.pin.length ≤ 0) : LoopOk Tryz.prog cx Tryz.f183.ntmps Q_i_cloneAll (nthLoop Tryz.f183 0) := loop_of (cfgOk_of mixed tys_ok (show FnsOk Tryz.prog C_i_cloneAll from ⟨fn_i_clone, trivial⟩)) hp (all_of (by kernel_rfl : loopsOf (nthLoop Tryz.f183 0) = []) trivial) (by kernel_rfl) lp_i_cloneAll_3
theorem e_i_cloneAll : ∀ d, pcall ⟨lookT tys, ctrOf C_i_cloneAll, kindOf C_i_cloneAll, 3, 4⟩ 0 Q_i_cloneAll Tryz.f183 .plain (mkA P_i_cloneAll d) = (T_i_cloneAll d.1).run fun r => some (O_i_cloneAll r) := fun d => by kernel_rfl
theorem fn_i_cloneAll : Fn Tryz.prog 183 .plain F_i_cloneAll := fn_of (cfgOk_of mixed tys_ok (show FnsOk Tryz.prog C_i_cloneAll from ⟨fn_i_clone, trivial⟩)) Tryz.func183 (by kernel_rfl) (by kernel_rfl) (fun cx b hp hb => all_of (by kernel_rfl : loopsOf (Tryz.f183.body.getD .skip) = [nthLoop Tryz.f183 0]) ⟨lo_i_cloneAll_3 cx hp, trivial⟩ b hb) (R := ((List YBs) × Unit)) (T := fun (d : aden P_i_cloneAll) => T_i_cloneAll d.1) e_i_cloneAll
def P_i_copyWin : List (Bool × List Sh) := [(true, [.int .i64, .sl 3 [.int .i64]])]
def O_i_copyWin (r : (YWin)) : List RV × List RV := ([rv (true, [.int .i64, .sl 3 [.int .i64]]) r], [])
def C_i_copyWin : Fns := []
def F_i_copyWin : Fun1 := funV P_i_copyWin (fun d => (T_i_copyWin d.1).val) O_i_copyWin
def Q_i_copyWin : Loops := fun _ _ => .fail
theorem e_i_copyWin : ∀ d, pcall ⟨lookT tys, ctrOf C_i_copyWin, kindOf C_i_copyWin, 3, 4⟩ 0 Q_i_copyWin Tryz.f309 .plain (mkA P_i_copyWin d) = (T_i_copyWin d.1).run fun r => some (O_i_copyWin r) := fun d => by kernel_rfl
theorem fn_i_copyWin : Fn Tryz.prog 309 .plain F_i_copyWin := fn_of (cfgOk_of mixed tys_ok (show FnsOk Tryz.prog C_i_copyWin from trivial)) Tryz.func309 (by kernel_rfl) (by kernel_rfl) (fun cx b hp hb => all_of (by kernel_rfl : loopsOf (Tryz.f309.body.getD .skip) = []) trivial b hb) (R := (YWin)) (T := fun (d : aden P_i_copyWin) => T_i_copyWin d.1) e_i_copyWin
def P_i_copyEp : List (Bool × List Sh) := [(true, h_5)]
def O_i_copyEp (r : (YEp)) : List RV × List RV := ([rv (true, h_5) r], [])
def C_i_copyEp : Fns := [(111, .plain, F_i_clone), (309, .plain, F_i_copyWin)]
def F_i_copyEp : Fun1 := funV P_i_copyEp (fun d => (T_i_copyEp d.1).val) O_i_copyEp
def Q_i_copyEp : Loops := fun _ _ => .fail
theorem e_i_copyEp : ∀ d, pcall ⟨lookT tys, ctrOf C_i_copyEp, kindOf C_i_copyEp, 3, 4⟩ 0 Q_i_copyEp Tryz.f271 .plain (mkA P_i_copyEp d) = (T_i_copyEp d.1).run fun r => some (O_i_copyEp r) := fun d => by kernel_rfl
theorem fn_i_copyEp : Fn Tryz.prog 271 .plain F_i_copyEp := fn_of (cfgOk_of mixed tys_ok (show FnsOk Tryz.prog C_i_copyEp from ⟨fn_i_clone, fn_i_copyWin, trivial⟩)) Tryz.func271 (by kernel_rfl) (by kernel_rfl) (fun cx b hp hb => all_of (by kernel_rfl : loopsOf (Tryz.f271.body.getD .skip) = []) trivial b hb) (R := (YEp)) (T := fun (d : aden P_i_copyEp) => T_i_copyEp d.1) e_i_copyEp
def P_i_copyChan : List (Bool × List Sh) := [(true, h_11)]
def O_i_copyChan (r : (YChan)) : List RV × List RV := ([rv (true, h_11) r], [])
def C_i_copyChan : Fns := [(111, .plain, F_i_clone), (271, .plain, F_i_copyEp)]
def F_i_copyChan : Fun1 := funV P_i_copyChan (fun d => (T_i_copyChan d.1).val) O_i_copyChan
def Q_i_copyChan : Loops := fun _ _ => .fail
theorem e_i_copyChan : ∀ d, pcall ⟨lookT tys, ctrOf C_i_copyChan, kindOf C_i_copyChan, 3, 4⟩ 0 Q_i_copyChan Tryz.f204 .plain (mkA P_i_copyChan d) = (T_i_copyChan d.1).run fun r => some (O_i_copyChan r) := fun d => by kernel_rfl
theorem fn_i_copyChan : Fn Tryz.prog 204 .plain F_i_copyChan := fn_of (cfgOk_of mixed tys_ok (show FnsOk Tryz.prog C_i_copyChan from ⟨fn_i_clone, fn_i_copyEp, trivial⟩)) Tryz.func204 (by kernel_rfl) (by kernel_rfl) (fun cx b hp hb => all_of (by kernel_rfl : loopsOf (Tryz.f204.body.getD .skip) = []) trivial b hb) (R := (YChan)) (T := fun (d : aden P_i_copyChan) => T_i_copyChan d.1) e_i_copyChan
def P_i_copyPaths : List (Bool × List Sh) := [(true, h_7)]
def O_i_copyPaths (r : (YPaths)) : List RV × List RV := ([rv (true, h_7) r], [])
def C_i_copyPaths : Fns := [(111, .plain, F_i_clone)]
def F_i_copyPaths : Fun1 := funV P_i_copyPaths (fun d => (T_i_copyPaths d.1).val) O_i_copyPaths
def K_i_copyPaths_3 : Sk := ⟨[(2, .box 2 0), (3, .box 3 0), (10, .v false [(.sl 274 h_4, .ro)]), (11, .v false [(.int .i64, .nil)]), (12, .v false [(.int .i64, .nil)])], [(2, [(.int .i64, .nil), (.int .i64, .nil), (.sl 274 h_4, (.own 4000000))]), (3, [(.int .i64, .nil), (.int .i64, .nil), (.sl 274 h_4, (.own 4000001))])], [4000000, 4000001]⟩
def X_i_copyPaths_3 : List (Ex × Sk) := [((.exit 0), ⟨[(2, .box 2 0), (3, .box 3 0)], [(2, [(.int .i64, .nil), (.int .i64, .nil), (.sl 274 h_4, (.own 4000000))]), (3, [(.int .i64, .nil), (.int .i64, .nil), (.sl 274 h_4, (.own 4000001))])], [4000000, 4000001]⟩)]
def Q_i_copyPaths : Loops := fun i st => cond (Nat.beq i 3) (lam K_i_copyPaths_3 4000000 X_i_copyPaths_3 B_i_copyPaths_3 st) <| .fail
theorem lp_i_copyPaths_3 : ∀ d, bod ⟨lookT tys, ctrOf C_i_copyPaths, kindOf C_i_copyPaths, 3, 4⟩ 0 Tryz.f223.ntmps Q_i_copyPaths (nthLoop Tryz.f223 0) K_i_copyPaths_3 4000000 X_i_copyPaths_3 d = B_i_copyPaths_3 d := fun d => by kernel_rfl
theorem lo_i_copyPaths_3 (cx : Cx) (hp : cx.pin.length ≤ 0) : LoopOk Tryz.prog cx Tryz.f223.ntmps Q_i_copyPaths (nthLoop Tryz.f223 0) := loop_of (cfgOk_of mixed tys_ok (show FnsOk Tryz.prog C_i_copyPaths from ⟨fn_i_clone, trivial⟩)) hp (all_of (by kernel_rfl : loopsOf (nthLoop Tryz.f223 0) = []) trivial) (by kernel_rfl) lp_i_copyPaths_3
theorem e_i_copyPaths : ∀ d, pcall ⟨lookT tys, ctrOf C_i_copyPaths, kindOf C_i_copyPaths, 3, 4⟩ 0 Q_i_copyPaths Tryz.f223 .plain (mkA P_i_copyPaths d) = (T_i_copyPaths d.1).run fun r => some (O_i_copyPaths r) := fun d => by kernel_rfl
theorem fn_i_copyPaths : Fn Tryz.prog 223 .plain F_i_copyPaths := fn_of (cfgOk_of mixed tys_ok (show FnsOk Tryz.prog C_i_copyPaths from ⟨fn_i_clone, trivial⟩)) Tryz.func223 (by kernel_rfl) (by kernel_rfl) (fun cx b hp hb => all_of (by kernel_rfl : loopsOf (Tryz.f223.body.getD .skip) = [nthLoop Tryz.f223 0]) ⟨lo_i_copyPaths_3 cx hp, trivial⟩ b hb) (R := (YPaths)) (T := fun (d : aden P_i_copyPaths) => T_i_copyPaths d.1) e_i_copyPaths
def P_i_copySess : List (Bool × List Sh) := [(true, h_13)]
def O_i_copySess (r : (YSess)) : List RV × List RV := ([rv (true, h_13) r], [])
def C_i_copySess : Fns := [(111, .plain, F_i_clone), (204, .plain, F_i_copyChan), (223, .plain, F_i_copyPaths)]
def F_i_copySess : Fun1 := funV P_i_copySess (fun d => (T_i_copySess d.1).val) O_i_copySess
def Q_i_copySess : Loops := fun _ _ => .fail
theorem e_i_copySess : ∀ d, pcall ⟨lookT tys, ctrOf C_i_copySess, kindOf C_i_copySess, 3, 4⟩ 0 Q_i_copySess Tryz.f123 .plain (mkA P_i_copySess d) = (T_i_copySess d.1).run fun r => some (O_i_copySess r) := fun d => by kernel_rfl
theorem fn_i_copySess : Fn Tryz.prog 123 .plain F_i_copySess := fn_of (cfgOk_of mixed tys_ok (show FnsOk Tryz.prog C_i_copySess from ⟨fn_i_clone, fn_i_copyChan, fn_i_copyPaths, trivial⟩)) Tryz.func123 (by kernel_rfl) (by kernel_rfl) (fun cx b hp hb => all_of (by kernel_rfl : loopsOf (Tryz.f123.body.getD .skip) = []) trivial b hb) (R := (YSess)) (T := fun (d : aden P_i_copySess) => T_i_copySess d.1) e_i_copySess
def P_i_copyTab : List (Bool × List Sh) := [(true, [.int .i64, .sl 100 h_13])]
def O_i_copyTab (r : (YTab)) : List RV × List RV := ([rv (true, [.int .i64, .sl 100 h_13]) r], [])
def C_i_copyTab : Fns := [(123, .plain, F_i_copySess)]
def F_i_copyTab : Fun1 := funV P_i_copyTab (fun d => (T_i_copyTab d.1).val) O_i_copyTab
def K_i_copyTab_3 : Sk := ⟨[(2, .box 2 0), (3, .box 3 0), (10, .v false [(.sl 100 h_13, .ro)]), (11, .v false [(.int .i64, .nil)]), (12, .v false [(.int .i64, .nil)])], [(2, [(.int .i64, .nil), (.sl 100 h_13, (.own 4000000))]), (3, [(.int .i64, .nil), (.sl 100 h_13, (.own 4000001))])], [4000000, 4000001]⟩
def X_i_copyTab_3 : List (Ex × Sk) := [((.exit 0), ⟨[(2, .box 2 0), (3, .box 3 0)], [(2, [(.int .i64, .nil), (.sl 100 h_13, (.own 4000000))]), (3, [(.int .i64, .nil), (.sl 100 h_13, (.own 4000001))])], [4000000, 4000001]⟩)]
def Q_i_copyTab : Loops := fun i st => cond (Nat.beq i 3) (lam K_i_copyTab_3 4000000 X_i_copyTab_3 B_i_copyTab_3 st) <| .fail
theorem lp_i_copyTab_3 : ∀ d, bod ⟨lookT tys, ctrOf C_i_copyTab, kindOf C_i_copyTab, 3, 4⟩ 0 Tryz.f184.ntmps Q_i_copyTab (nthLoop Tryz.f184 0) K_i_copyTab_3 4000000 X_i_copyTab_3 d = B_i_copyTab_3 d := fun d => by kernel_rfl
theorem lo_i_copyTab_3 (cx : Cx) (hp : cx.pin.length ≤ 0) : LoopOk Tryz.prog cx Tryz.f184.ntmps Q_i_copyTab (nthLoop Tryz.f184 0) := loop_of (cfgOk_of mixed tys_ok (show FnsOk Tryz.prog C_i_copyTab from ⟨fn_i_copySess, trivial⟩)) hp (all_of (by kernel_rfl : loopsOf (nthLoop Tryz.f184 0) = []) trivial) (by kernel_rfl) lp_i_copyTab_3
theorem e_i_copyTab : ∀ d, pcall ⟨lookT tys, ctrOf C_i_copyTab, kindOf C_i_copyTab, 3, 4⟩ 0 Q_i_copyTab Tryz.f184 .plain (mkA P_i_copyTab d) = (T_i_copyTab d.1).run fun r => some (O_i_copyTab r) := fun d => by kernel_rfl
theorem fn_i_copyTab : Fn Tryz.prog 184 .plain F_i_copyTab := fn_of (cfgOk_of mixed tys_ok (show FnsOk Tryz.prog C_i_copyTab from ⟨fn_i_copySess, trivial⟩)) Tryz.func184 (by kernel_rfl) (by kernel_rfl) (fun cx b hp hb => all_of (by kernel_rfl : loopsOf (Tryz.f184.body.getD .skip) = [nthLoop Tryz.f184 0]) ⟨lo_i_copyTab_3 cx hp, trivial⟩ b hb) (R := (YTab)) (T := fun (d : aden P_i_copyTab) => T_i_copyTab d.1) e_i_copyTab
def P_i_copyCredits : List (Bool × List Sh) := [(false, [.sl 218 h_2])]
def O_i_copyCredits (r : ((List YCredit) × Unit)) : List RV × List RV := ([rv (false, [.sl 218 h_2]) r], [])
def C_i_copyCredits : Fns := []
def F_i_copyCredits : Fun1 := funV P_i_copyCredits (fun d => (T_i_copyCredits d.1).val) O_i_copyCredits
def Q_i_copyCredits : Loops := fun _ _ => .fail
theorem e_i_copyCredits : ∀ d, pcall ⟨lookT tys, ctrOf C_i_copyCredits, kindOf C_i_copyCredits, 3, 4⟩ 0 Q_i_copyCredits Tryz.f185 .plain (mkA P_i_copyCredits d) = (T_i_copyCredits d.1).run fun r => some (O_i_copyCredits r) := fun d => by kernel_rfl
theorem fn_i_copyCredits : Fn Tryz.prog 185 .plain F_i_copyCredits := fn_of (cfgOk_of mixed tys_ok (show FnsOk Tryz.prog C_i_copyCredits from trivial)) Tryz.func185 (by kernel_rfl) (by kernel_rfl) (fun cx b hp hb => all_of (by kernel_rfl : loopsOf (Tryz.f185.body.getD .skip) = []) trivial b hb) (R := ((List YCredit) × Unit)) (T := fun (d : aden P_i_copyCredits) => T_i_copyCredits d.1) e_i_copyCredits
def P_i_copyServer : List (Bool × List Sh) := [(true, h_15)]
def O_i_copyServer (r : (YServer)) : List RV × List RV := ([rv (true, h_15) r], [])
def C_i_copyServer : Fns := [(183, .plain, F_i_cloneAll), (111, .plain, F_i_clone), (184, .plain, F_i_copyTab), (185, .plain, F_i_copyCredits)]
def F_i_copyServer : Fun1 := funV P_i_copyServer (fun d => (T_i_copyServer d.1).val) O_i_copyServer
def Q_i_copyServer : Loops := fun _ _ => .fail
theorem e_i_copyServer : ∀ d, pcall ⟨lookT tys, ctrOf C_i_copyServer, kindOf C_i_copyServer, 3, 4⟩ 0 Q_i_copyServer Tryz.f76 .plain (mkA P_i_copyServer d) = (T_i_copyServer d.1).run fun r => some (O_i_copyServer r) := fun d => by kernel_rfl
theorem fn_i_copyServer : Fn Tryz.prog 76 .plain F_i_copyServer := fn_of (cfgOk_of mixed tys_ok (show FnsOk Tryz.prog C_i_copyServer from ⟨fn_i_cloneAll, fn_i_clone, fn_i_copyTab, fn_i_copyCredits, trivial⟩)) Tryz.func76 (by kernel_rfl) (by kernel_rfl) (fun cx b hp hb => all_of (by kernel_rfl : loopsOf (Tryz.f76.body.getD .skip) = []) trivial b hb) (R := (YServer)) (T := fun (d : aden P_i_copyServer) => T_i_copyServer d.1) e_i_copyServer
def P_i_within : List (Bool × List Sh) := [(false, [.int .i64]), (false, [.int .i64]), (false, [.int .i64])]
def O_i_within (r : (Bool × Unit)) : List RV × List RV := ([rv (false, [.bool]) r], [])
def C_i_within : Fns := []
def F_i_within : Fun1 := funV P_i_within (fun d => (T_i_within d.1 d.2.1 d.2.2.1).val) O_i_within
def Q_i_within : Loops := fun _ _ => .fail
theorem e_i_within : ∀ d, pcall ⟨lookT tys, ctrOf C_i_within, kindOf C_i_within, 3, 4⟩ 0 Q_i_within Tryz.f109 .plain (mkA P_i_within d) = (T_i_within d.1 d.2.1 d.2.2.1).run fun r => some (O_i_within r) := fun d => by kernel_rfl
theorem fn_i_within : Fn Tryz.prog 109 .plain F_i_within := fn_of (cfgOk_of mixed tys_ok (show FnsOk Tryz.prog C_i_within from trivial)) Tryz.func109 (by kernel_rfl) (by kernel_rfl) (fun cx b hp hb => all_of (by kernel_rfl : loopsOf (Tryz.f109.body.getD .skip) = []) trivial b hb) (R := (Bool × Unit)) (T := fun (d : aden P_i_within) => T_i_within d.1 d.2.1 d.2.2.1) e_i_within
def P_i_JarOk : List (Bool × List Sh) := [(true, [.sl 5 [.int .u8]])]
def O_i_JarOk (r : (Bool × Unit)) : List RV × List RV := ([rv (false, [.bool]) r], [])
def C_i_JarOk : Fns := []
def F_i_JarOk : Fun1 := funV P_i_JarOk (fun d => (T_i_JarOk d.1).val) O_i_JarOk
def Q_i_JarOk : Loops := fun _ _ => .fail
theorem e_i_JarOk : ∀ d, pcall ⟨lookT tys, ctrOf C_i_JarOk, kindOf C_i_JarOk, 3, 4⟩ 0 Q_i_JarOk Tryz.f186 .plain (mkA P_i_JarOk d) = (T_i_JarOk d.1).run fun r => some (O_i_JarOk r) := fun d => by kernel_rfl
theorem fn_i_JarOk : Fn Tryz.prog 186 .plain F_i_JarOk := fn_of (cfgOk_of mixed tys_ok (show FnsOk Tryz.prog C_i_JarOk from trivial)) Tryz.func186 (by kernel_rfl) (by kernel_rfl) (fun cx b hp hb => all_of (by kernel_rfl : loopsOf (Tryz.f186.body.getD .skip) = []) trivial b hb) (R := (Bool × Unit)) (T := fun (d : aden P_i_JarOk) => T_i_JarOk d.1) e_i_JarOk
def P_i_DiceOk : List (Bool × List Sh) := [(true, [.sl 5 [.int .u8], .int .i64])]
def O_i_DiceOk (r : (Bool × Unit)) : List RV × List RV := ([rv (false, [.bool]) r], [])
def C_i_DiceOk : Fns := [(109, .plain, F_i_within)]
def F_i_DiceOk : Fun1 := funV P_i_DiceOk (fun d => (T_i_DiceOk d.1).val) O_i_DiceOk
def Q_i_DiceOk : Loops := fun _ _ => .fail
theorem e_i_DiceOk : ∀ d, pcall ⟨lookT tys, ctrOf C_i_DiceOk, kindOf C_i_DiceOk, 3, 4⟩ 0 Q_i_DiceOk Tryz.f187 .plain (mkA P_i_DiceOk d) = (T_i_DiceOk d.1).run fun r => some (O_i_DiceOk r) := fun d => by kernel_rfl
theorem fn_i_DiceOk : Fn Tryz.prog 187 .plain F_i_DiceOk := fn_of (cfgOk_of mixed tys_ok (show FnsOk Tryz.prog C_i_DiceOk from ⟨fn_i_within, trivial⟩)) Tryz.func187 (by kernel_rfl) (by kernel_rfl) (fun cx b hp hb => all_of (by kernel_rfl : loopsOf (Tryz.f187.body.getD .skip) = []) trivial b hb) (R := (Bool × Unit)) (T := fun (d : aden P_i_DiceOk) => T_i_DiceOk d.1) e_i_DiceOk
def P_i_Live : List (Bool × List Sh) := [(true, [.int .i64, .sl 100 h_13])]
def O_i_Live (r : (YI)) : List RV × List RV := ([rv (false, [.int .i64]) r], [])
def C_i_Live : Fns := []
def F_i_Live : Fun1 := funV P_i_Live (fun d => (T_i_Live d.1).val) O_i_Live
def K_i_Live_3 : Sk := ⟨[(3, .v false [(.int .i64, .nil)]), (7, .v false [(.sl 100 h_13, .ro)]), (8, .v false [(.int .i64, .nil)]), (9, .v false [(.int .i64, .nil)])], [], []⟩
def X_i_Live_3 : List (Ex × Sk) := [((.exit 0), ⟨[(3, .v false [(.int .i64, .nil)])], [], []⟩)]
def Q_i_Live : Loops := fun i st => cond (Nat.beq i 3) (lam K_i_Live_3 4000000 X_i_Live_3 B_i_Live_3 st) <| .fail
theorem lp_i_Live_3 : ∀ d, bod ⟨lookT tys, ctrOf C_i_Live, kindOf C_i_Live, 3, 4⟩ 0 Tryz.f259.ntmps Q_i_Live (nthLoop Tryz.f259 0) K_i_Live_3 4000000 X_i_Live_3 d = B_i_Live_3 d := fun d => by kernel_rfl
theorem lo_i_Live_3 (cx : Cx) (hp : cx.pin.length ≤ 0) : LoopOk Tryz.prog cx Tryz.f259.ntmps Q_i_Live (nthLoop Tryz.f259 0) := loop_of (cfgOk_of mixed tys_ok (show FnsOk Tryz.prog C_i_Live from trivial)) hp (all_of (by kernel_rfl : loopsOf (nthLoop Tryz.f259 0) = []) trivial) (by kernel_rfl) lp_i_Live_3
theorem e_i_Live : ∀ d, pcall ⟨lookT tys, ctrOf C_i_Live, kindOf C_i_Live, 3, 4⟩ 0 Q_i_Live Tryz.f259 .plain (mkA P_i_Live d) = (T_i_Live d.1).run fun r => some (O_i_Live r) := fun d => by kernel_rfl
theorem fn_i_Live : Fn Tryz.prog 259 .plain F_i_Live := fn_of (cfgOk_of mixed tys_ok (show FnsOk Tryz.prog C_i_Live from trivial)) Tryz.func259 (by kernel_rfl) (by kernel_rfl) (fun cx b hp hb => all_of (by kernel_rfl : loopsOf (Tryz.f259.body.getD .skip) = [nthLoop Tryz.f259 0]) ⟨lo_i_Live_3 cx hp, trivial⟩ b hb) (R := (YI)) (T := fun (d : aden P_i_Live) => T_i_Live d.1) e_i_Live
def P_i_isNonce : List (Bool × List Sh) := [(false, [.sl 5 [.int .u8]])]
def O_i_isNonce (r : (Bool × Unit)) : List RV × List RV := ([rv (false, [.bool]) r], [])
def C_i_isNonce : Fns := []
def F_i_isNonce : Fun1 := funV P_i_isNonce (fun d => (T_i_isNonce d.1).val) O_i_isNonce
def Q_i_isNonce : Loops := fun _ _ => .fail
theorem e_i_isNonce : ∀ d, pcall ⟨lookT tys, ctrOf C_i_isNonce, kindOf C_i_isNonce, 3, 4⟩ 0 Q_i_isNonce Tryz.f208 .plain (mkA P_i_isNonce d) = (T_i_isNonce d.1).run fun r => some (O_i_isNonce r) := fun d => by kernel_rfl
theorem fn_i_isNonce : Fn Tryz.prog 208 .plain F_i_isNonce := fn_of (cfgOk_of mixed tys_ok (show FnsOk Tryz.prog C_i_isNonce from trivial)) Tryz.func208 (by kernel_rfl) (by kernel_rfl) (fun cx b hp hb => all_of (by kernel_rfl : loopsOf (Tryz.f208.body.getD .skip) = []) trivial b hb) (R := (Bool × Unit)) (T := fun (d : aden P_i_isNonce) => T_i_isNonce d.1) e_i_isNonce
def P_bytes_Equal : List (Bool × List Sh) := [(false, [.sl 5 [.int .u8]]), (false, [.sl 5 [.int .u8]])]
def O_bytes_Equal (r : (Bool × Unit)) : List RV × List RV := ([rv (false, [.bool]) r], [])
def C_bytes_Equal : Fns := []
def F_bytes_Equal : Fun1 := funV P_bytes_Equal (fun d => (T_bytes_Equal d.1 d.2.1).val) O_bytes_Equal
def Q_bytes_Equal : Loops := fun _ _ => .fail
theorem e_bytes_Equal : ∀ d, pcall ⟨lookT tys, ctrOf C_bytes_Equal, kindOf C_bytes_Equal, 3, 4⟩ 0 Q_bytes_Equal Tryz.f169 .plain (mkA P_bytes_Equal d) = (T_bytes_Equal d.1 d.2.1).run fun r => some (O_bytes_Equal r) := fun d => by kernel_rfl
theorem fn_bytes_Equal : Fn Tryz.prog 169 .plain F_bytes_Equal := fn_of (cfgOk_of mixed tys_ok (show FnsOk Tryz.prog C_bytes_Equal from trivial)) Tryz.func169 (by kernel_rfl) (by kernel_rfl) (fun cx b hp hb => all_of (by kernel_rfl : loopsOf (Tryz.f169.body.getD .skip) = []) trivial b hb) (R := (Bool × Unit)) (T := fun (d : aden P_bytes_Equal) => T_bytes_Equal d.1 d.2.1) e_bytes_Equal
def P_i_sameInts : List (Bool × List Sh) := [(false, [.sl 3 [.int .i64]]), (false, [.sl 3 [.int .i64]])]
def O_i_sameInts (r : (Bool × Unit)) : List RV × List RV := ([rv (false, [.bool]) r], [])
def C_i_sameInts : Fns := []
def F_i_sameInts : Fun1 := funV P_i_sameInts (fun d => (T_i_sameInts d.1 d.2.1).val) O_i_sameInts
def K_i_sameInts_4 : Sk := ⟨[(1, .v false [(.sl 3 [.int .i64], .ro)]), (12, .v false [(.sl 3 [.int .i64], .ro)]), (13, .v false [(.int .i64, .nil)]), (14, .v false [(.int .i64, .nil)])], [], []⟩
def X_i_sameInts_4 : List (Ex × Sk) := [(.ret, ⟨[(4, .v false [(.bool, .nil)])], [], []⟩), ((.exit 0), ⟨[], [], []⟩)]
def Q_i_sameInts : Loops := fun i st => cond (Nat.beq i 4) (lam K_i_sameInts_4 5000000 X_i_sameInts_4 B_i_sameInts_4 st) <| .fail
theorem lp_i_sameInts_4 : ∀ d, bod ⟨lookT tys, ctrOf C_i_sameInts, kindOf C_i_sameInts, 3, 4⟩ 0 Tryz.f310.ntmps Q_i_sameInts (nthLoop Tryz.f310 0) K_i_sameInts_4 5000000 X_i_sameInts_4 d = B_i_sameInts_4 d := fun d => by kernel_rfl
theorem lo_i_sameInts_4 (cx : Cx) (hp : cx.pin.length ≤ 0) : LoopOk Tryz.prog cx Tryz.f310.ntmps Q_i_sameInts (nthLoop Tryz.f310 0) := loop_of (cfgOk_of mixed tys_ok (show FnsOk Tryz.prog C_i_sameInts from trivial)) hp (all_of (by kernel_rfl : loopsOf (nthLoop Tryz.f310 0) = []) trivial) (by kernel_rfl) lp_i_sameInts_4
theorem e_i_sameInts : ∀ d, pcall ⟨lookT tys, ctrOf C_i_sameInts, kindOf C_i_sameInts, 3, 4⟩ 0 Q_i_sameInts Tryz.f310 .plain (mkA P_i_sameInts d) = (T_i_sameInts d.1 d.2.1).run fun r => some (O_i_sameInts r) := fun d => by kernel_rfl
theorem fn_i_sameInts : Fn Tryz.prog 310 .plain F_i_sameInts := fn_of (cfgOk_of mixed tys_ok (show FnsOk Tryz.prog C_i_sameInts from trivial)) Tryz.func310 (by kernel_rfl) (by kernel_rfl) (fun cx b hp hb => all_of (by kernel_rfl : loopsOf (Tryz.f310.body.getD .skip) = [nthLoop Tryz.f310 0]) ⟨lo_i_sameInts_4 cx hp, trivial⟩ b hb) (R := (Bool × Unit)) (T := fun (d : aden P_i_sameInts) => T_i_sameInts d.1 d.2.1) e_i_sameInts
def P_i_sameEp : List (Bool × List Sh) := [(true, h_5), (true, h_5)]
def O_i_sameEp (r : (Bool × Unit)) : List RV × List RV := ([rv (false, [.bool]) r], [])
def C_i_sameEp : Fns := [(169, .plain, F_bytes_Equal), (310, .plain, F_i_sameInts)]
def F_i_sameEp : Fun1 := funV P_i_sameEp (fun d => (T_i_sameEp d.1 d.2.1).val) O_i_sameEp
def Q_i_sameEp : Loops := fun _ _ => .fail
theorem e_i_sameEp : ∀ d, pcall ⟨lookT tys, ctrOf C_i_sameEp, kindOf C_i_sameEp, 3, 4⟩ 0 Q_i_sameEp Tryz.f272 .plain (mkA P_i_sameEp d) = (T_i_sameEp d.1 d.2.1).run fun r => some (O_i_sameEp r) := fun d => by kernel_rfl
theorem fn_i_sameEp : Fn Tryz.prog 272 .plain F_i_sameEp := fn_of (cfgOk_of mixed tys_ok (show FnsOk Tryz.prog C_i_sameEp from ⟨fn_bytes_Equal, fn_i_sameInts, trivial⟩)) Tryz.func272 (by kernel_rfl) (by kernel_rfl) (fun cx b hp hb => all_of (by kernel_rfl : loopsOf (Tryz.f272.body.getD .skip) = []) trivial b hb) (R := (Bool × Unit)) (T := fun (d : aden P_i_sameEp) => T_i_sameEp d.1 d.2.1) e_i_sameEp
def P_i_isZeroChan : List (Bool × List Sh) := [(true, h_11)]
def O_i_isZeroChan (r : (Bool × Unit)) : List RV × List RV := ([rv (false, [.bool]) r], [])
def C_i_isZeroChan : Fns := [(272, .plain, F_i_sameEp)]
def F_i_isZeroChan : Fun1 := funV P_i_isZeroChan (fun d => (T_i_isZeroChan d.1).val) O_i_isZeroChan
def Q_i_isZeroChan : Loops := fun _ _ => .fail
theorem e_i_isZeroChan : ∀ d, pcall ⟨lookT tys, ctrOf C_i_isZeroChan, kindOf C_i_isZeroChan, 3, 4⟩ 0 Q_i_isZeroChan Tryz.f207 .plain (mkA P_i_isZeroChan d) = (T_i_isZeroChan d.1).run fun r => some (O_i_isZeroChan r) := fun d => by kernel_rfl
theorem fn_i_isZeroChan : Fn Tryz.prog 207 .plain F_i_isZeroChan := fn_of (cfgOk_of mixed tys_ok (show FnsOk Tryz.prog C_i_isZeroChan from ⟨fn_i_sameEp, trivial⟩)) Tryz.func207 (by kernel_rfl) (by kernel_rfl) (fun cx b hp hb => all_of (by kernel_rfl : loopsOf (Tryz.f207.body.getD .skip) = []) trivial b hb) (R := (Bool × Unit)) (T := fun (d : aden P_i_isZeroChan) => T_i_isZeroChan d.1) e_i_isZeroChan
def P_i_isRole : List (Bool × List Sh) := [(false, [.int .i64])]
def O_i_isRole (r : (Bool × Unit)) : List RV × List RV := ([rv (false, [.bool]) r], [])
def C_i_isRole : Fns := []
def F_i_isRole : Fun1 := funV P_i_isRole (fun d => (T_i_isRole d.1).val) O_i_isRole
def Q_i_isRole : Loops := fun _ _ => .fail
theorem e_i_isRole : ∀ d, pcall ⟨lookT tys, ctrOf C_i_isRole, kindOf C_i_isRole, 3, 4⟩ 0 Q_i_isRole Tryz.f273 .plain (mkA P_i_isRole d) = (T_i_isRole d.1).run fun r => some (O_i_isRole r) := fun d => by kernel_rfl
theorem fn_i_isRole : Fn Tryz.prog 273 .plain F_i_isRole := fn_of (cfgOk_of mixed tys_ok (show FnsOk Tryz.prog C_i_isRole from trivial)) Tryz.func273 (by kernel_rfl) (by kernel_rfl) (fun cx b hp hb => all_of (by kernel_rfl : loopsOf (Tryz.f273.body.getD .skip) = []) trivial b hb) (R := (Bool × Unit)) (T := fun (d : aden P_i_isRole) => T_i_isRole d.1) e_i_isRole
def P_i_areWords : List (Bool × List Sh) := [(false, [.sl 3 [.int .i64]]), (false, [.int .i64])]
def O_i_areWords (r : (Bool × Unit)) : List RV × List RV := ([rv (false, [.bool]) r], [])
def C_i_areWords : Fns := [(109, .plain, F_i_within)]
def F_i_areWords : Fun1 := funV P_i_areWords (fun d => (T_i_areWords d.1 d.2.1).val) O_i_areWords
def K_i_areWords_2 : Sk := ⟨[(0, .v false [(.sl 3 [.int .i64], .ro)]), (1, .v false [(.int .i64, .nil)]), (7, .v false [(.sl 3 [.int .i64], .ro)]), (8, .v false [(.int .i64, .nil)]), (9, .v false [(.int .i64, .nil)])], [], []⟩
def X_i_areWords_2 : List (Ex × Sk) := [(.ret, ⟨[(4, .v false [(.bool, .nil)])], [], []⟩), ((.exit 0), ⟨[(0, .v false [(.sl 3 [.int .i64], .ro)]), (1, .v false [(.int .i64, .nil)])], [], []⟩)]
def Q_i_areWords : Loops := fun i st => cond (Nat.beq i 2) (lam K_i_areWords_2 3000000 X_i_areWords_2 B_i_areWords_2 st) <| .fail
theorem lp_i_areWords_2 : ∀ d, bod ⟨lookT tys, ctrOf C_i_areWords, kindOf C_i_areWords, 3, 4⟩ 0 Tryz.f327.ntmps Q_i_areWords (nthLoop Tryz.f327 0) K_i_areWords_2 3000000 X_i_areWords_2 d = B_i_areWords_2 d := fun d => by kernel_rfl
theorem lo_i_areWords_2 (cx : Cx) (hp : cx.pin.length ≤ 0) : LoopOk Tryz.prog cx Tryz.f327.ntmps Q_i_areWords (nthLoop Tryz.f327 0) := loop_of (cfgOk_of mixed tys_ok (show FnsOk Tryz.prog C_i_areWords from ⟨fn_i_within, trivial⟩)) hp (all_of (by kernel_rfl : loopsOf (nthLoop Tryz.f327 0) = []) trivial) (by kernel_rfl) lp_i_areWords_2
theorem e_i_areWords : ∀ d, pcall ⟨lookT tys, ctrOf C_i_areWords, kindOf C_i_areWords, 3, 4⟩ 0 Q_i_areWords Tryz.f327 .plain (mkA P_i_areWords d) = (T_i_areWords d.1 d.2.1).run fun r => some (O_i_areWords r) := fun d => by kernel_rfl
theorem fn_i_areWords : Fn Tryz.prog 327 .plain F_i_areWords := fn_of (cfgOk_of mixed tys_ok (show FnsOk Tryz.prog C_i_areWords from ⟨fn_i_within, trivial⟩)) Tryz.func327 (by kernel_rfl) (by kernel_rfl) (fun cx b hp hb => all_of (by kernel_rfl : loopsOf (Tryz.f327.body.getD .skip) = [nthLoop Tryz.f327 0]) ⟨lo_i_areWords_2 cx hp, trivial⟩ b hb) (R := (Bool × Unit)) (T := fun (d : aden P_i_areWords) => T_i_areWords d.1 d.2.1) e_i_areWords
def P_i_hasBit : List (Bool × List Sh) := [(true, [.int .i64, .sl 3 [.int .i64]]), (false, [.int .i64])]
def O_i_hasBit (r : (Bool × Unit)) : List RV × List RV := ([rv (false, [.bool]) r], [])
def C_i_hasBit : Fns := []
def F_i_hasBit : Fun1 := funV P_i_hasBit (fun d => (T_i_hasBit d.1 d.2.1).val) O_i_hasBit
def Q_i_hasBit : Loops := fun _ _ => .fail
theorem e_i_hasBit : ∀ d, pcall ⟨lookT tys, ctrOf C_i_hasBit, kindOf C_i_hasBit, 3, 4⟩ 0 Q_i_hasBit Tryz.f328 .plain (mkA P_i_hasBit d) = (T_i_hasBit d.1 d.2.1).run fun r => some (O_i_hasBit r) := fun d => by kernel_rfl
theorem fn_i_hasBit : Fn Tryz.prog 328 .plain F_i_hasBit := fn_of (cfgOk_of mixed tys_ok (show FnsOk Tryz.prog C_i_hasBit from trivial)) Tryz.func328 (by kernel_rfl) (by kernel_rfl) (fun cx b hp hb => all_of (by kernel_rfl : loopsOf (Tryz.f328.body.getD .skip) = []) trivial b hb) (R := (Bool × Unit)) (T := fun (d : aden P_i_hasBit) => T_i_hasBit d.1 d.2.1) e_i_hasBit
def P_i_WinOk : List (Bool × List Sh) := [(true, [.int .i64, .sl 3 [.int .i64]])]
def O_i_WinOk (r : (Bool × Unit)) : List RV × List RV := ([rv (false, [.bool]) r], [])
def C_i_WinOk : Fns := [(109, .plain, F_i_within), (327, .plain, F_i_areWords), (328, .plain, F_i_hasBit)]
def F_i_WinOk : Fun1 := funV P_i_WinOk (fun d => (T_i_WinOk d.1).val) O_i_WinOk
def K_i_WinOk_4 : Sk := ⟨[(1, .box 1 0), (3, .v false [(.int .i64, .nil)])], [(1, [(.int .i64, .nil), (.sl 3 [.int .i64], .ro)])], []⟩
def X_i_WinOk_4 : List (Ex × Sk) := [(.ret, ⟨[(2, .v false [(.bool, .nil)])], [], []⟩), ((.exit 0), ⟨[(1, .box 1 0)], [(1, [(.int .i64, .nil), (.sl 3 [.int .i64], .ro)])], []⟩)]
def Q_i_WinOk : Loops := fun i st => cond (Nat.beq i 4) (lam K_i_WinOk_4 5000000 X_i_WinOk_4 B_i_WinOk_4 st) <| .fail
theorem lp_i_WinOk_4 : ∀ d, bod ⟨lookT tys, ctrOf C_i_WinOk, kindOf C_i_WinOk, 3, 4⟩ 0 Tryz.f311.ntmps Q_i_WinOk (nthLoop Tryz.f311 0) K_i_WinOk_4 5000000 X_i_WinOk_4 d = B_i_WinOk_4 d := fun d => by kernel_rfl
theorem lo_i_WinOk_4 (cx : Cx) (hp : cx.pin.length ≤ 0) : LoopOk Tryz.prog cx Tryz.f311.ntmps Q_i_WinOk (nthLoop Tryz.f311 0) := loop_of (cfgOk_of mixed tys_ok (show FnsOk Tryz.prog C_i_WinOk from ⟨fn_i_within, fn_i_areWords, fn_i_hasBit, trivial⟩)) hp (all_of (by kernel_rfl : loopsOf (nthLoop Tryz.f311 0) = []) trivial) (by kernel_rfl) lp_i_WinOk_4
theorem e_i_WinOk : ∀ d, pcall ⟨lookT tys, ctrOf C_i_WinOk, kindOf C_i_WinOk, 3, 4⟩ 0 Q_i_WinOk Tryz.f311 .plain (mkA P_i_WinOk d) = (T_i_WinOk d.1).run fun r => some (O_i_WinOk r) := fun d => by kernel_rfl
theorem fn_i_WinOk : Fn Tryz.prog 311 .plain F_i_WinOk := fn_of (cfgOk_of mixed tys_ok (show FnsOk Tryz.prog C_i_WinOk from ⟨fn_i_within, fn_i_areWords, fn_i_hasBit, trivial⟩)) Tryz.func311 (by kernel_rfl) (by kernel_rfl) (fun cx b hp hb => all_of (by kernel_rfl : loopsOf (Tryz.f311.body.getD .skip) = [nthLoop Tryz.f311 0]) ⟨lo_i_WinOk_4 cx hp, trivial⟩ b hb) (R := (Bool × Unit)) (T := fun (d : aden P_i_WinOk) => T_i_WinOk d.1) e_i_WinOk
def P_i_EpOk : List (Bool × List Sh) := [(true, h_5)]
def O_i_EpOk (r : (Bool × Unit)) : List RV × List RV := ([rv (false, [.bool]) r], [])
def C_i_EpOk : Fns := [(109, .plain, F_i_within), (311, .plain, F_i_WinOk)]
def F_i_EpOk : Fun1 := funV P_i_EpOk (fun d => (T_i_EpOk d.1).val) O_i_EpOk
def Q_i_EpOk : Loops := fun _ _ => .fail
theorem e_i_EpOk : ∀ d, pcall ⟨lookT tys, ctrOf C_i_EpOk, kindOf C_i_EpOk, 3, 4⟩ 0 Q_i_EpOk Tryz.f274 .plain (mkA P_i_EpOk d) = (T_i_EpOk d.1).run fun r => some (O_i_EpOk r) := fun d => by kernel_rfl
theorem fn_i_EpOk : Fn Tryz.prog 274 .plain F_i_EpOk := fn_of (cfgOk_of mixed tys_ok (show FnsOk Tryz.prog C_i_EpOk from ⟨fn_i_within, fn_i_WinOk, trivial⟩)) Tryz.func274 (by kernel_rfl) (by kernel_rfl) (fun cx b hp hb => all_of (by kernel_rfl : loopsOf (Tryz.f274.body.getD .skip) = []) trivial b hb) (R := (Bool × Unit)) (T := fun (d : aden P_i_EpOk) => T_i_EpOk d.1) e_i_EpOk
def P_i_oldOk : List (Bool × List Sh) := [(true, h_11)]
def O_i_oldOk (r : (Bool × Unit)) : List RV × List RV := ([rv (false, [.bool]) r], [])
def C_i_oldOk : Fns := [(272, .plain, F_i_sameEp), (274, .plain, F_i_EpOk), (109, .plain, F_i_within)]
def F_i_oldOk : Fun1 := funV P_i_oldOk (fun d => (T_i_oldOk d.1).val) O_i_oldOk
def Q_i_oldOk : Loops := fun _ _ => .fail
theorem e_i_oldOk : ∀ d, pcall ⟨lookT tys, ctrOf C_i_oldOk, kindOf C_i_oldOk, 3, 4⟩ 0 Q_i_oldOk Tryz.f275 .plain (mkA P_i_oldOk d) = (T_i_oldOk d.1).run fun r => some (O_i_oldOk r) := fun d => by kernel_rfl
theorem fn_i_oldOk : Fn Tryz.prog 275 .plain F_i_oldOk := fn_of (cfgOk_of mixed tys_ok (show FnsOk Tryz.prog C_i_oldOk from ⟨fn_i_sameEp, fn_i_EpOk, fn_i_within, trivial⟩)) Tryz.func275 (by kernel_rfl) (by kernel_rfl) (fun cx b hp hb => all_of (by kernel_rfl : loopsOf (Tryz.f275.body.getD .skip) = []) trivial b hb) (R := (Bool × Unit)) (T := fun (d : aden P_i_oldOk) => T_i_oldOk d.1) e_i_oldOk
def P_i_ChanOk : List (Bool × List Sh) := [(true, h_11)]
def O_i_ChanOk (r : (Bool × Unit)) : List RV × List RV := ([rv (false, [.bool]) r], [])
def C_i_ChanOk : Fns := [(273, .plain, F_i_isRole), (208, .plain, F_i_isNonce), (274, .plain, F_i_EpOk), (275, .plain, F_i_oldOk)]
def F_i_ChanOk : Fun1 := funV P_i_ChanOk (fun d => (T_i_ChanOk d.1).val) O_i_ChanOk
def Q_i_ChanOk : Loops := fun _ _ => .fail
theorem e_i_ChanOk : ∀ d, pcall ⟨lookT tys, ctrOf C_i_ChanOk, kindOf C_i_ChanOk, 3, 4⟩ 0 Q_i_ChanOk Tryz.f211 .plain (mkA P_i_ChanOk d) = (T_i_ChanOk d.1).run fun r => some (O_i_ChanOk r) := fun d => by kernel_rfl
theorem fn_i_ChanOk : Fn Tryz.prog 211 .plain F_i_ChanOk := fn_of (cfgOk_of mixed tys_ok (show FnsOk Tryz.prog C_i_ChanOk from ⟨fn_i_isRole, fn_i_isNonce, fn_i_EpOk, fn_i_oldOk, trivial⟩)) Tryz.func211 (by kernel_rfl) (by kernel_rfl) (fun cx b hp hb => all_of (by kernel_rfl : loopsOf (Tryz.f211.body.getD .skip) = []) trivial b hb) (R := (Bool × Unit)) (T := fun (d : aden P_i_ChanOk) => T_i_ChanOk d.1) e_i_ChanOk
def P_i_AddrOk : List (Bool × List Sh) := [(true, [.int .i64, .int .i64])]
def O_i_AddrOk (r : (Bool × Unit)) : List RV × List RV := ([rv (false, [.bool]) r], [])
def C_i_AddrOk : Fns := [(109, .plain, F_i_within)]
def F_i_AddrOk : Fun1 := funV P_i_AddrOk (fun d => (T_i_AddrOk d.1).val) O_i_AddrOk
def Q_i_AddrOk : Loops := fun _ _ => .fail
theorem e_i_AddrOk : ∀ d, pcall ⟨lookT tys, ctrOf C_i_AddrOk, kindOf C_i_AddrOk, 3, 4⟩ 0 Q_i_AddrOk Tryz.f205 .plain (mkA P_i_AddrOk d) = (T_i_AddrOk d.1).run fun r => some (O_i_AddrOk r) := fun d => by kernel_rfl
theorem fn_i_AddrOk : Fn Tryz.prog 205 .plain F_i_AddrOk := fn_of (cfgOk_of mixed tys_ok (show FnsOk Tryz.prog C_i_AddrOk from ⟨fn_i_within, trivial⟩)) Tryz.func205 (by kernel_rfl) (by kernel_rfl) (fun cx b hp hb => all_of (by kernel_rfl : loopsOf (Tryz.f205.body.getD .skip) = []) trivial b hb) (R := (Bool × Unit)) (T := fun (d : aden P_i_AddrOk) => T_i_AddrOk d.1) e_i_AddrOk
def P_i_PathsOk : List (Bool × List Sh) := [(true, h_7)]
def O_i_PathsOk (r : (Bool × Unit)) : List RV × List RV := ([rv (false, [.bool]) r], [])
def C_i_PathsOk : Fns := [(205, .plain, F_i_AddrOk), (208, .plain, F_i_isNonce), (109, .plain, F_i_within)]
def F_i_PathsOk : Fun1 := funV P_i_PathsOk (fun d => (T_i_PathsOk d.1).val) O_i_PathsOk
def K_i_PathsOk_4 : Sk := ⟨[(1, .box 1 0), (18, .v false [(.sl 274 h_4, .ro)]), (19, .v false [(.int .i64, .nil)]), (20, .v false [(.int .i64, .nil)])], [(1, [(.int .i64, .nil), (.int .i64, .nil), (.sl 274 h_4, .ro)])], []⟩
def X_i_PathsOk_4 : List (Ex × Sk) := [(.ret, ⟨[(2, .v false [(.bool, .nil)])], [], []⟩), ((.exit 0), ⟨[], [], []⟩)]
def K_i_PathsOk_9 : Sk := ⟨[(1, .box 1 0), (4, .box 4 0), (18, .v false [(.sl 274 h_4, .ro)]), (19, .v false [(.int .i64, .nil)]), (20, .v false [(.int .i64, .nil)]), (51, .v false [(.sl 274 h_4, .ro)]), (52, .v false [(.int .i64, .nil)]), (53, .v false [(.int .i64, .nil)])], [(1, [(.int .i64, .nil), (.int .i64, .nil), (.sl 274 h_4, .ro)]), (4, [(.int .i64, .nil), (.int .i64, .nil), (.sl 5 [.int .u8], .ro), (.int .i64, .nil)])], []⟩
def X_i_PathsOk_9 : List (Ex × Sk) := [(.ret, ⟨[(2, .v false [(.bool, .nil)])], [], []⟩), ((.exit 2), ⟨[(1, .box 1 0), (18, .v false [(.sl 274 h_4, .ro)]), (19, .v false [(.int .i64, .nil)]), (20, .v false [(.int .i64, .nil)])], [(1, [(.int .i64, .nil), (.int .i64, .nil), (.sl 274 h_4, .ro)])], []⟩)]
def Q_i_PathsOk : Loops := fun i st => cond (Nat.beq i 9) (lam K_i_PathsOk_9 10000000 X_i_PathsOk_9 B_i_PathsOk_9 st) <| cond (Nat.beq i 4) (lam K_i_PathsOk_4 5000000 X_i_PathsOk_4 B_i_PathsOk_4 st) <| .fail
theorem lp_i_PathsOk_9 : ∀ d, bod ⟨lookT tys, ctrOf C_i_PathsOk, kindOf C_i_PathsOk, 3, 4⟩ 0 Tryz.f224.ntmps Q_i_PathsOk (nthLoop Tryz.f224 1) K_i_PathsOk_9 10000000 X_i_PathsOk_9 d = B_i_PathsOk_9 d := fun d => by kernel_rfl
theorem lo_i_PathsOk_9 (cx : Cx) (hp : cx.pin.length ≤ 0) : LoopOk Tryz.prog cx Tryz.f224.ntmps Q_i_PathsOk (nthLoop Tryz.f224 1) := loop_of (cfgOk_of mixed tys_ok (show FnsOk Tryz.prog C_i_PathsOk from ⟨fn_i_AddrOk, fn_i_isNonce, fn_i_within, trivial⟩)) hp (all_of (by kernel_rfl : loopsOf (nthLoop Tryz.f224 1) = []) trivial) (by kernel_rfl) lp_i_PathsOk_9
theorem lp_i_PathsOk_4 : ∀ d, bod ⟨lookT tys, ctrOf C_i_PathsOk, kindOf C_i_PathsOk, 3, 4⟩ 0 Tryz.f224.ntmps Q_i_PathsOk (nthLoop Tryz.f224 0) K_i_PathsOk_4 5000000 X_i_PathsOk_4 d = B_i_PathsOk_4 d := fun d => by kernel_rfl
theorem lo_i_PathsOk_4 (cx : Cx) (hp : cx.pin.length ≤ 0) : LoopOk Tryz.prog cx Tryz.f224.ntmps Q_i_PathsOk (nthLoop Tryz.f224 0) := loop_of (cfgOk_of mixed tys_ok (show FnsOk Tryz.prog C_i_PathsOk from ⟨fn_i_AddrOk, fn_i_isNonce, fn_i_within, trivial⟩)) hp (all_of (by kernel_rfl : loopsOf (nthLoop Tryz.f224 0) = [nthLoop Tryz.f224 1]) ⟨lo_i_PathsOk_9 cx hp, trivial⟩) (by kernel_rfl) lp_i_PathsOk_4
theorem e_i_PathsOk : ∀ d, pcall ⟨lookT tys, ctrOf C_i_PathsOk, kindOf C_i_PathsOk, 3, 4⟩ 0 Q_i_PathsOk Tryz.f224 .plain (mkA P_i_PathsOk d) = (T_i_PathsOk d.1).run fun r => some (O_i_PathsOk r) := fun d => by kernel_rfl
theorem fn_i_PathsOk : Fn Tryz.prog 224 .plain F_i_PathsOk := fn_of (cfgOk_of mixed tys_ok (show FnsOk Tryz.prog C_i_PathsOk from ⟨fn_i_AddrOk, fn_i_isNonce, fn_i_within, trivial⟩)) Tryz.func224 (by kernel_rfl) (by kernel_rfl) (fun cx b hp hb => all_of (by kernel_rfl : loopsOf (Tryz.f224.body.getD .skip) = [nthLoop Tryz.f224 0]) ⟨lo_i_PathsOk_4 cx hp, trivial⟩ b hb) (R := (Bool × Unit)) (T := fun (d : aden P_i_PathsOk) => T_i_PathsOk d.1) e_i_PathsOk
def P_i_SessOk : List (Bool × List Sh) := [(true, h_13)]
def O_i_SessOk (r : (Bool × Unit)) : List RV × List RV := ([rv (false, [.bool]) r], [])
def C_i_SessOk : Fns := [(109, .plain, F_i_within), (208, .plain, F_i_isNonce), (207, .plain, F_i_isZeroChan), (211, .plain, F_i_ChanOk), (169, .plain, F_bytes_Equal), (224, .plain, F_i_PathsOk)]
def F_i_SessOk : Fun1 := funV P_i_SessOk (fun d => (T_i_SessOk d.1).val) O_i_SessOk
def Q_i_SessOk : Loops := fun _ _ => .fail
theorem e_i_SessOk : ∀ d, pcall ⟨lookT tys, ctrOf C_i_SessOk, kindOf C_i_SessOk, 3, 4⟩ 0 Q_i_SessOk Tryz.f124 .plain (mkA P_i_SessOk d) = (T_i_SessOk d.1).run fun r => some (O_i_SessOk r) := fun d => by kernel_rfl
theorem fn_i_SessOk : Fn Tryz.prog 124 .plain F_i_SessOk := fn_of (cfgOk_of mixed tys_ok (show FnsOk Tryz.prog C_i_SessOk from ⟨fn_i_within, fn_i_isNonce, fn_i_isZeroChan, fn_i_ChanOk, fn_bytes_Equal, fn_i_PathsOk, trivial⟩)) Tryz.func124 (by kernel_rfl) (by kernel_rfl) (fun cx b hp hb => all_of (by kernel_rfl : loopsOf (Tryz.f124.body.getD .skip) = []) trivial b hb) (R := (Bool × Unit)) (T := fun (d : aden P_i_SessOk) => T_i_SessOk d.1) e_i_SessOk
def P_i_FindSn : List (Bool × List Sh) := [(true, [.int .i64, .sl 100 h_13]), (false, [.sl 5 [.int .u8]])]
def O_i_FindSn (r : (YI)) : List RV × List RV := ([rv (false, [.int .i64]) r], [])
def C_i_FindSn : Fns := [(169, .plain, F_bytes_Equal)]
def F_i_FindSn : Fun1 := funV P_i_FindSn (fun d => (T_i_FindSn d.1 d.2.1).val) O_i_FindSn
def K_i_FindSn_2 : Sk := ⟨[(1, .v false [(.sl 5 [.int .u8], .ro)]), (8, .v false [(.sl 100 h_13, .ro)]), (9, .v false [(.int .i64, .nil)]), (10, .v false [(.int .i64, .nil)])], [], []⟩
def X_i_FindSn_2 : List (Ex × Sk) := [(.ret, ⟨[(4, .v false [(.int .i64, .nil)])], [], []⟩), ((.exit 0), ⟨[], [], []⟩)]
def Q_i_FindSn : Loops := fun i st => cond (Nat.beq i 2) (lam K_i_FindSn_2 3000000 X_i_FindSn_2 B_i_FindSn_2 st) <| .fail
theorem lp_i_FindSn_2 : ∀ d, bod ⟨lookT tys, ctrOf C_i_FindSn, kindOf C_i_FindSn, 3, 4⟩ 0 Tryz.f260.ntmps Q_i_FindSn (nthLoop Tryz.f260 0) K_i_FindSn_2 3000000 X_i_FindSn_2 d = B_i_FindSn_2 d := fun d => by kernel_rfl
theorem lo_i_FindSn_2 (cx : Cx) (hp : cx.pin.length ≤ 0) : LoopOk Tryz.prog cx Tryz.f260.ntmps Q_i_FindSn (nthLoop Tryz.f260 0) := loop_of (cfgOk_of mixed tys_ok (show FnsOk Tryz.prog C_i_FindSn from ⟨fn_bytes_Equal, trivial⟩)) hp (all_of (by kernel_rfl : loopsOf (nthLoop Tryz.f260 0) = []) trivial) (by kernel_rfl) lp_i_FindSn_2
theorem e_i_FindSn : ∀ d, pcall ⟨lookT tys, ctrOf C_i_FindSn, kindOf C_i_FindSn, 3, 4⟩ 0 Q_i_FindSn Tryz.f260 .plain (mkA P_i_FindSn d) = (T_i_FindSn d.1 d.2.1).run fun r => some (O_i_FindSn r) := fun d => by kernel_rfl
theorem fn_i_FindSn : Fn Tryz.prog 260 .plain F_i_FindSn := fn_of (cfgOk_of mixed tys_ok (show FnsOk Tryz.prog C_i_FindSn from ⟨fn_bytes_Equal, trivial⟩)) Tryz.func260 (by kernel_rfl) (by kernel_rfl) (fun cx b hp hb => all_of (by kernel_rfl : loopsOf (Tryz.f260.body.getD .skip) = [nthLoop Tryz.f260 0]) ⟨lo_i_FindSn_2 cx hp, trivial⟩ b hb) (R := (YI)) (T := fun (d : aden P_i_FindSn) => T_i_FindSn d.1 d.2.1) e_i_FindSn
def P_i_TabOk : List (Bool × List Sh) := [(true, [.int .i64, .sl 100 h_13])]
def O_i_TabOk (r : (Bool × Unit)) : List RV × List RV := ([rv (false, [.bool]) r], [])
def C_i_TabOk : Fns := [(109, .plain, F_i_within), (259, .plain, F_i_Live), (124, .plain, F_i_SessOk), (260, .plain, F_i_FindSn)]
def F_i_TabOk : Fun1 := funV P_i_TabOk (fun d => (T_i_TabOk d.1).val) O_i_TabOk
def K_i_TabOk_4 : Sk := ⟨[(1, .box 1 0), (23, .v false [(.sl 100 h_13, .ro)]), (24, .v false [(.int .i64, .nil)]), (25, .v false [(.int .i64, .nil)])], [(1, [(.int .i64, .nil), (.sl 100 h_13, .ro)])], []⟩
def X_i_TabOk_4 : List (Ex × Sk) := [(.ret, ⟨[(2, .v false [(.bool, .nil)])], [], []⟩), ((.exit 0), ⟨[], [], []⟩)]
def Q_i_TabOk : Loops := fun i st => cond (Nat.beq i 4) (lam K_i_TabOk_4 5000000 X_i_TabOk_4 B_i_TabOk_4 st) <| .fail
theorem lp_i_TabOk_4 : ∀ d, bod ⟨lookT tys, ctrOf C_i_TabOk, kindOf C_i_TabOk, 3, 4⟩ 0 Tryz.f188.ntmps Q_i_TabOk (nthLoop Tryz.f188 0) K_i_TabOk_4 5000000 X_i_TabOk_4 d = B_i_TabOk_4 d := fun d => by kernel_rfl
theorem lo_i_TabOk_4 (cx : Cx) (hp : cx.pin.length ≤ 0) : LoopOk Tryz.prog cx Tryz.f188.ntmps Q_i_TabOk (nthLoop Tryz.f188 0) := loop_of (cfgOk_of mixed tys_ok (show FnsOk Tryz.prog C_i_TabOk from ⟨fn_i_within, fn_i_Live, fn_i_SessOk, fn_i_FindSn, trivial⟩)) hp (all_of (by kernel_rfl : loopsOf (nthLoop Tryz.f188 0) = []) trivial) (by kernel_rfl) lp_i_TabOk_4
theorem e_i_TabOk : ∀ d, pcall ⟨lookT tys, ctrOf C_i_TabOk, kindOf C_i_TabOk, 3, 4⟩ 0 Q_i_TabOk Tryz.f188 .plain (mkA P_i_TabOk d) = (T_i_TabOk d.1).run fun r => some (O_i_TabOk r) := fun d => by kernel_rfl
theorem fn_i_TabOk : Fn Tryz.prog 188 .plain F_i_TabOk := fn_of (cfgOk_of mixed tys_ok (show FnsOk Tryz.prog C_i_TabOk from ⟨fn_i_within, fn_i_Live, fn_i_SessOk, fn_i_FindSn, trivial⟩)) Tryz.func188 (by kernel_rfl) (by kernel_rfl) (fun cx b hp hb => all_of (by kernel_rfl : loopsOf (Tryz.f188.body.getD .skip) = [nthLoop Tryz.f188 0]) ⟨lo_i_TabOk_4 cx hp, trivial⟩ b hb) (R := (Bool × Unit)) (T := fun (d : aden P_i_TabOk) => T_i_TabOk d.1) e_i_TabOk
def P_i_creditAt : List (Bool × List Sh) := [(false, [.sl 218 h_2]), (true, [.int .i64, .int .i64])]
def O_i_creditAt (r : (YI)) : List RV × List RV := ([rv (false, [.int .i64]) r], [])
def C_i_creditAt : Fns := []
def F_i_creditAt : Fun1 := funV P_i_creditAt (fun d => (T_i_creditAt d.1 d.2.1).val) O_i_creditAt
def K_i_creditAt_2 : Sk := ⟨[(3, .box 3 0), (7, .v false [(.sl 218 h_2, .ro)]), (8, .v false [(.int .i64, .nil)]), (9, .v false [(.int .i64, .nil)])], [(3, [(.int .i64, .nil), (.int .i64, .nil)])], []⟩
def X_i_creditAt_2 : List (Ex × Sk) := [(.ret, ⟨[(4, .v false [(.int .i64, .nil)])], [], []⟩), ((.exit 0), ⟨[], [], []⟩)]
def Q_i_creditAt : Loops := fun i st => cond (Nat.beq i 2) (lam K_i_creditAt_2 3000000 X_i_creditAt_2 B_i_creditAt_2 st) <| .fail
theorem lp_i_creditAt_2 : ∀ d, bod ⟨lookT tys, ctrOf C_i_creditAt, kindOf C_i_creditAt, 3, 4⟩ 0 Tryz.f261.ntmps Q_i_creditAt (nthLoop Tryz.f261 0) K_i_creditAt_2 3000000 X_i_creditAt_2 d = B_i_creditAt_2 d := fun d => by kernel_rfl
theorem lo_i_creditAt_2 (cx : Cx) (hp : cx.pin.length ≤ 0) : LoopOk Tryz.prog cx Tryz.f261.ntmps Q_i_creditAt (nthLoop Tryz.f261 0) := loop_of (cfgOk_of mixed tys_ok (show FnsOk Tryz.prog C_i_creditAt from trivial)) hp (all_of (by kernel_rfl : loopsOf (nthLoop Tryz.f261 0) = []) trivial) (by kernel_rfl) lp_i_creditAt_2
theorem e_i_creditAt : ∀ d, pcall ⟨lookT tys, ctrOf C_i_creditAt, kindOf C_i_creditAt, 3, 4⟩ 0 Q_i_creditAt Tryz.f261 .plain (mkA P_i_creditAt d) = (T_i_creditAt d.1 d.2.1).run fun r => some (O_i_creditAt r) := fun d => by kernel_rfl
theorem fn_i_creditAt : Fn Tryz.prog 261 .plain F_i_creditAt := fn_of (cfgOk_of mixed tys_ok (show FnsOk Tryz.prog C_i_creditAt from trivial)) Tryz.func261 (by kernel_rfl) (by kernel_rfl) (fun cx b hp hb => all_of (by kernel_rfl : loopsOf (Tryz.f261.body.getD .skip) = [nthLoop Tryz.f261 0]) ⟨lo_i_creditAt_2 cx hp, trivial⟩ b hb) (R := (YI)) (T := fun (d : aden P_i_creditAt) => T_i_creditAt d.1 d.2.1) e_i_creditAt
def P_i_CreditsOk : List (Bool × List Sh) := [(false, [.sl 218 h_2])]
def O_i_CreditsOk (r : (Bool × Unit)) : List RV × List RV := ([rv (false, [.bool]) r], [])
def C_i_CreditsOk : Fns := [(205, .plain, F_i_AddrOk), (109, .plain, F_i_within), (261, .plain, F_i_creditAt)]
def F_i_CreditsOk : Fun1 := funV P_i_CreditsOk (fun d => (T_i_CreditsOk d.1).val) O_i_CreditsOk
def K_i_CreditsOk_4 : Sk := ⟨[(0, .v false [(.sl 218 h_2, .ro)]), (8, .v false [(.sl 218 h_2, .ro)]), (9, .v false [(.int .i64, .nil)]), (10, .v false [(.int .i64, .nil)])], [], []⟩
def X_i_CreditsOk_4 : List (Ex × Sk) := [(.ret, ⟨[(2, .v false [(.bool, .nil)])], [], []⟩), ((.exit 0), ⟨[], [], []⟩)]
def Q_i_CreditsOk : Loops := fun i st => cond (Nat.beq i 4) (lam K_i_CreditsOk_4 5000000 X_i_CreditsOk_4 B_i_CreditsOk_4 st) <| .fail
theorem lp_i_CreditsOk_4 : ∀ d, bod ⟨lookT tys, ctrOf C_i_CreditsOk, kindOf C_i_CreditsOk, 3, 4⟩ 0 Tryz.f189.ntmps Q_i_CreditsOk (nthLoop Tryz.f189 0) K_i_CreditsOk_4 5000000 X_i_CreditsOk_4 d = B_i_CreditsOk_4 d := fun d => by kernel_rfl
theorem lo_i_CreditsOk_4 (cx : Cx) (hp : cx.pin.length ≤ 0) : LoopOk Tryz.prog cx Tryz.f189.ntmps Q_i_CreditsOk (nthLoop Tryz.f189 0) := loop_of (cfgOk_of mixed tys_ok (show FnsOk Tryz.prog C_i_CreditsOk from ⟨fn_i_AddrOk, fn_i_within, fn_i_creditAt, trivial⟩)) hp (all_of (by kernel_rfl : loopsOf (nthLoop Tryz.f189 0) = []) trivial) (by kernel_rfl) lp_i_CreditsOk_4
theorem e_i_CreditsOk : ∀ d, pcall ⟨lookT tys, ctrOf C_i_CreditsOk, kindOf C_i_CreditsOk, 3, 4⟩ 0 Q_i_CreditsOk Tryz.f189 .plain (mkA P_i_CreditsOk d) = (T_i_CreditsOk d.1).run fun r => some (O_i_CreditsOk r) := fun d => by kernel_rfl
theorem fn_i_CreditsOk : Fn Tryz.prog 189 .plain F_i_CreditsOk := fn_of (cfgOk_of mixed tys_ok (show FnsOk Tryz.prog C_i_CreditsOk from ⟨fn_i_AddrOk, fn_i_within, fn_i_creditAt, trivial⟩)) Tryz.func189 (by kernel_rfl) (by kernel_rfl) (fun cx b hp hb => all_of (by kernel_rfl : loopsOf (Tryz.f189.body.getD .skip) = [nthLoop Tryz.f189 0]) ⟨lo_i_CreditsOk_4 cx hp, trivial⟩ b hb) (R := (Bool × Unit)) (T := fun (d : aden P_i_CreditsOk) => T_i_CreditsOk d.1) e_i_CreditsOk
def P_i_PskOk : List (Bool × List Sh) := [(false, [.sl 5 [.int .u8]])]
def O_i_PskOk (r : (Bool × Unit)) : List RV × List RV := ([rv (false, [.bool]) r], [])
def C_i_PskOk : Fns := [(109, .plain, F_i_within)]
def F_i_PskOk : Fun1 := funV P_i_PskOk (fun d => (T_i_PskOk d.1).val) O_i_PskOk
def Q_i_PskOk : Loops := fun _ _ => .fail
theorem e_i_PskOk : ∀ d, pcall ⟨lookT tys, ctrOf C_i_PskOk, kindOf C_i_PskOk, 3, 4⟩ 0 Q_i_PskOk Tryz.f190 .plain (mkA P_i_PskOk d) = (T_i_PskOk d.1).run fun r => some (O_i_PskOk r) := fun d => by kernel_rfl
theorem fn_i_PskOk : Fn Tryz.prog 190 .plain F_i_PskOk := fn_of (cfgOk_of mixed tys_ok (show FnsOk Tryz.prog C_i_PskOk from ⟨fn_i_within, trivial⟩)) Tryz.func190 (by kernel_rfl) (by kernel_rfl) (fun cx b hp hb => all_of (by kernel_rfl : loopsOf (Tryz.f190.body.getD .skip) = []) trivial b hb) (R := (Bool × Unit)) (T := fun (d : aden P_i_PskOk) => T_i_PskOk d.1) e_i_PskOk
def P_i_ServerOk : List (Bool × List Sh) := [(true, h_15)]
def O_i_ServerOk (r : (Bool × Unit)) : List RV × List RV := ([rv (false, [.bool]) r], [])
def C_i_ServerOk : Fns := [(109, .plain, F_i_within), (186, .plain, F_i_JarOk), (187, .plain, F_i_DiceOk), (188, .plain, F_i_TabOk), (189, .plain, F_i_CreditsOk), (190, .plain, F_i_PskOk)]
def F_i_ServerOk : Fun1 := funV P_i_ServerOk (fun d => (T_i_ServerOk d.1).val) O_i_ServerOk
def K_i_ServerOk_10 : Sk := ⟨[(1, .box 1 0), (49, .v false [(.sl 100 h_13, .ro)]), (50, .v false [(.int .i64, .nil)]), (51, .v false [(.int .i64, .nil)])], [(1, [(.sl 23 [.sl 5 [.int .u8]], .ro), (.sl 5 [.int .u8], .ro), (.sl 5 [.int .u8], .ro), (.int .i64, .nil), (.int .i64, .nil), (.sl 100 h_13, .ro), (.sl 218 h_2, .ro)])], []⟩
def X_i_ServerOk_10 : List (Ex × Sk) := [(.ret, ⟨[(2, .v false [(.bool, .nil)])], [], []⟩), ((.exit 2), ⟨[], [], []⟩)]
def K_i_ServerOk_4 : Sk := ⟨[(1, .box 1 0), (37, .v false [(.sl 23 [.sl 5 [.int .u8]], .ro)]), (38, .v false [(.int .i64, .nil)]), (39, .v false [(.int .i64, .nil)])], [(1, [(.sl 23 [.sl 5 [.int .u8]], .ro), (.sl 5 [.int .u8], .ro), (.sl 5 [.int .u8], .ro), (.int .i64, .nil), (.int .i64, .nil), (.sl 100 h_13, .ro), (.sl 218 h_2, .ro)])], []⟩
def X_i_ServerOk_4 : List (Ex × Sk) := [(.ret, ⟨[(2, .v false [(.bool, .nil)])], [], []⟩), ((.exit 0), ⟨[(1, .box 1 0)], [(1, [(.sl 23 [.sl 5 [.int .u8]], .ro), (.sl 5 [.int .u8], .ro), (.sl 5 [.int .u8], .ro), (.int .i64, .nil), (.int .i64, .nil), (.sl 100 h_13, .ro), (.sl 218 h_2, .ro)])], []⟩)]
def Q_i_ServerOk : Loops := fun i st => cond (Nat.beq i 4) (lam K_i_ServerOk_4 5000000 X_i_ServerOk_4 B_i_ServerOk_4 st) <| cond (Nat.beq i 10) (lam K_i_ServerOk_10 11000000 X_i_ServerOk_10 B_i_ServerOk_10 st) <| .fail
theorem lp_i_ServerOk_4 : ∀ d, bod ⟨lookT tys, ctrOf C_i_ServerOk, kindOf C_i_ServerOk, 3, 4⟩ 0 Tryz.f77.ntmps Q_i_ServerOk (nthLoop Tryz.f77 0) K_i_ServerOk_4 5000000 X_i_ServerOk_4 d = B_i_ServerOk_4 d := fun d => by kernel_rfl
theorem lo_i_ServerOk_4 (cx : Cx) (hp : cx.pin.length ≤ 0) : LoopOk Tryz.prog cx Tryz.f77.ntmps Q_i_ServerOk (nthLoop Tryz.f77 0) := loop_of (cfgOk_of mixed tys_ok (show FnsOk Tryz.prog C_i_ServerOk from ⟨fn_i_within, fn_i_JarOk, fn_i_DiceOk, fn_i_TabOk, fn_i_CreditsOk, fn_i_PskOk, trivial⟩)) hp (all_of (by kernel_rfl : loopsOf (nthLoop Tryz.f77 0) = []) trivial) (by kernel_rfl) lp_i_ServerOk_4
theorem lp_i_ServerOk_10 : ∀ d, bod ⟨lookT tys, ctrOf C_i_ServerOk, kindOf C_i_ServerOk, 3, 4⟩ 0 Tryz.f77.ntmps Q_i_ServerOk (nthLoop Tryz.f77 1) K_i_ServerOk_10 11000000 X_i_ServerOk_10 d = B_i_ServerOk_10 d := fun d => by kernel_rfl
theorem lo_i_ServerOk_10 (cx : Cx) (hp : cx.pin.length ≤ 0) : LoopOk Tryz.prog cx Tryz.f77.ntmps Q_i_ServerOk (nthLoop Tryz.f77 1) := loop_of (cfgOk_of mixed tys_ok (show FnsOk Tryz.prog C_i_ServerOk from ⟨fn_i_within, fn_i_JarOk, fn_i_DiceOk, fn_i_TabOk, fn_i_CreditsOk, fn_i_PskOk, trivial⟩)) hp (all_of (by kernel_rfl : loopsOf (nthLoop Tryz.f77 1) = []) trivial) (by kernel_rfl) lp_i_ServerOk_10
theorem e_i_ServerOk : ∀ d, pcall ⟨lookT tys, ctrOf C_i_ServerOk, kindOf C_i_ServerOk, 3, 4⟩ 0 Q_i_ServerOk Tryz.f77 .plain (mkA P_i_ServerOk d) = (T_i_ServerOk d.1).run fun r => some (O_i_ServerOk r) := fun d => by kernel_rfl
theorem fn_i_ServerOk : Fn Tryz.prog 77 .plain F_i_ServerOk := fn_of (cfgOk_of mixed tys_ok (show FnsOk Tryz.prog C_i_ServerOk from ⟨fn_i_within, fn_i_JarOk, fn_i_DiceOk, fn_i_TabOk, fn_i_CreditsOk, fn_i_PskOk, trivial⟩)) Tryz.func77 (by kernel_rfl) (by kernel_rfl) (fun cx b hp hb => all_of (by kernel_rfl : loopsOf (Tryz.f77.body.getD .skip) = [nthLoop Tryz.f77 0, nthLoop Tryz.f77 1]) ⟨lo_i_ServerOk_4 cx hp, lo_i_ServerOk_10 cx hp, trivial⟩ b hb) (R := (Bool × Unit)) (T := fun (d : aden P_i_ServerOk) => T_i_ServerOk d.1) e_i_ServerOk
def P_i_Bury : List (Bool × List Sh) := [(true, h_13)]
def O_i_Bury (r : (YSess)) : List RV × List RV := ([rv (true, h_13) r], [])
def C_i_Bury : Fns := [(124, .plain, F_i_SessOk), (123, .plain, F_i_copySess), (111, .plain, F_i_clone)]
def F_i_Bury : Fun1 := funV P_i_Bury (fun d => (T_i_Bury d.1).val) O_i_Bury
def Q_i_Bury : Loops := fun _ _ => .fail
theorem e_i_Bury : ∀ d, pcall ⟨lookT tys, ctrOf C_i_Bury, kindOf C_i_Bury, 3, 4⟩ 0 Q_i_Bury Tryz.f79 .plain (mkA P_i_Bury d) = (T_i_Bury d.1).run fun r => some (O_i_Bury r) := fun d => by kernel_rfl
theorem fn_i_Bury : Fn Tryz.prog 79 .plain F_i_Bury := fn_of (cfgOk_of mixed tys_ok (show FnsOk Tryz.prog C_i_Bury from ⟨fn_i_SessOk, fn_i_copySess, fn_i_clone, trivial⟩)) Tryz.func79 (by kernel_rfl) (by kernel_rfl) (fun cx b hp hb => all_of (by kernel_rfl : loopsOf (Tryz.f79.body.getD .skip) = []) trivial b hb) (R := (YSess)) (T := fun (d : aden P_i_Bury) => T_i_Bury d.1) e_i_Bury
def P_i_PutSess : List (Bool × List Sh) := [(true, [.int .i64, .sl 100 h_13]), (false, [.int .i64]), (true, h_13)]
def O_i_PutSess (r : (YTab) × (Bool × Unit)) : List RV × List RV := ([rv (true, [.int .i64, .sl 100 h_13]) r.1, rv (false, [.bool]) r.2], [])
def C_i_PutSess : Fns := [(184, .plain, F_i_copyTab), (188, .plain, F_i_TabOk), (123, .plain, F_i_copySess)]
def F_i_PutSess : Fun1 := funV P_i_PutSess (fun d => (T_i_PutSess d.1 d.2.1 d.2.2.1).val) O_i_PutSess
def Q_i_PutSess : Loops := fun _ _ => .fail
theorem e_i_PutSess : ∀ d, pcall ⟨lookT tys, ctrOf C_i_PutSess, kindOf C_i_PutSess, 3, 4⟩ 0 Q_i_PutSess Tryz.f78 .plain (mkA P_i_PutSess d) = (T_i_PutSess d.1 d.2.1 d.2.2.1).run fun r => some (O_i_PutSess r) := fun d => by kernel_rfl
theorem fn_i_PutSess : Fn Tryz.prog 78 .plain F_i_PutSess := fn_of (cfgOk_of mixed tys_ok (show FnsOk Tryz.prog C_i_PutSess from ⟨fn_i_copyTab, fn_i_TabOk, fn_i_copySess, trivial⟩)) Tryz.func78 (by kernel_rfl) (by kernel_rfl) (fun cx b hp hb => all_of (by kernel_rfl : loopsOf (Tryz.f78.body.getD .skip) = []) trivial b hb) (R := (YTab) × (Bool × Unit)) (T := fun (d : aden P_i_PutSess) => T_i_PutSess d.1 d.2.1 d.2.2.1) e_i_PutSess
def P_i_endOf : List (Bool × List Sh) := [(false, [.int .i64]), (false, [.int .i64]), (false, [.sl 5 [.int .u8]])]
def O_i_endOf (r : (YNote)) : List RV × List RV := ([rv (true, h_8) r], [])
def C_i_endOf : Fns := [(111, .plain, F_i_clone)]
def F_i_endOf : Fun1 := funV P_i_endOf (fun d => (T_i_endOf d.1 d.2.1 d.2.2.1).val) O_i_endOf
def Q_i_endOf : Loops := fun _ _ => .fail
theorem e_i_endOf : ∀ d, pcall ⟨lookT tys, ctrOf C_i_endOf, kindOf C_i_endOf, 3, 4⟩ 0 Q_i_endOf Tryz.f80 .plain (mkA P_i_endOf d) = (T_i_endOf d.1 d.2.1 d.2.2.1).run fun r => some (O_i_endOf r) := fun d => by kernel_rfl
theorem fn_i_endOf : Fn Tryz.prog 80 .plain F_i_endOf := fn_of (cfgOk_of mixed tys_ok (show FnsOk Tryz.prog C_i_endOf from ⟨fn_i_clone, trivial⟩)) Tryz.func80 (by kernel_rfl) (by kernel_rfl) (fun cx b hp hb => all_of (by kernel_rfl : loopsOf (Tryz.f80.body.getD .skip) = []) trivial b hb) (R := (YNote)) (T := fun (d : aden P_i_endOf) => T_i_endOf d.1 d.2.1 d.2.2.1) e_i_endOf
def P_i_ServerClose : List (Bool × List Sh) := [(true, h_15), (false, [.int .i64])]
def O_i_ServerClose (r : (YServer) × ((List YNote) × Unit) × (YI)) : List RV × List RV := ([rv (true, h_15) r.1, rv (false, [.sl 139 h_8]) r.2.1, rv (false, [.int .i64]) r.2.2], [])
def C_i_ServerClose : Fns := [(76, .plain, F_i_copyServer), (77, .plain, F_i_ServerOk), (79, .plain, F_i_Bury), (78, .plain, F_i_PutSess), (80, .plain, F_i_endOf)]
def F_i_ServerClose : Fun1 := funV P_i_ServerClose (fun d => (T_i_ServerClose d.1 d.2.1).val) O_i_ServerClose
def Q_i_ServerClose : Loops := fun _ _ => .fail
theorem e_i_ServerClose : ∀ d, pcall ⟨lookT tys, ctrOf C_i_ServerClose, kindOf C_i_ServerClose, 3, 4⟩ 0 Q_i_ServerClose Tryz.f15 .plain (mkA P_i_ServerClose d) = (T_i_ServerClose d.1 d.2.1).run fun r => some (O_i_ServerClose r) := fun d => by kernel_rfl
theorem fn_i_ServerClose : Fn Tryz.prog 15 .plain F_i_ServerClose := fn_of (cfgOk_of mixed tys_ok (show FnsOk Tryz.prog C_i_ServerClose from ⟨fn_i_copyServer, fn_i_ServerOk, fn_i_Bury, fn_i_PutSess, fn_i_endOf, trivial⟩)) Tryz.func15 (by kernel_rfl) (by kernel_rfl) (fun cx b hp hb => all_of (by kernel_rfl : loopsOf (Tryz.f15.body.getD .skip) = []) trivial b hb) (R := (YServer) × ((List YNote) × Unit) × (YI)) (T := fun (d : aden P_i_ServerClose) => T_i_ServerClose d.1 d.2.1) e_i_ServerClose
def P_l_eqByteS : List (Bool × List Sh) := [(false, [.sl 5 [.int .u8]]), (false, [.sl 5 [.int .u8]])]
def O_l_eqByteS (r : (Bool × Unit)) : List RV × List RV := ([rv (false, [.bool]) r], [])
def C_l_eqByteS : Fns := []
def F_l_eqByteS : Fun1 := funV P_l_eqByteS (fun d => (T_l_eqByteS d.1 d.2.1).val) O_l_eqByteS
def K_l_eqByteS_4 : Sk := ⟨[(0, .v false [(.sl 5 [.int .u8], .ro)]), (1, .v false [(.sl 5 [.int .u8], .ro)]), (5, .v false [(.int .i64, .nil)])], [], []⟩
def X_l_eqByteS_4 : List (Ex × Sk) := [(.ret, ⟨[(4, .v false [(.bool, .nil)])], [], []⟩), ((.exit 0), ⟨[], [], []⟩)]
def Q_l_eqByteS : Loops := fun i st => cond (Nat.beq i 4) (lam K_l_eqByteS_4 5000000 X_l_eqByteS_4 B_l_eqByteS_4 st) <| .fail
theorem lp_l_eqByteS_4 : ∀ d, bod ⟨lookT tys, ctrOf C_l_eqByteS, kindOf C_l_eqByteS, 3, 4⟩ 0 Tryz.f29.ntmps Q_l_eqByteS (nthLoop Tryz.f29 0) K_l_eqByteS_4 5000000 X_l_eqByteS_4 d = B_l_eqByteS_4 d := fun d => by kernel_rfl
theorem lo_l_eqByteS_4 (cx : Cx) (hp : cx.pin.length ≤ 0) : LoopOk Tryz.prog cx Tryz.f29.ntmps Q_l_eqByteS (nthLoop Tryz.f29 0) := loop_of (cfgOk_of mixed tys_ok (show FnsOk Tryz.prog C_l_eqByteS from trivial)) hp (all_of (by kernel_rfl : loopsOf (nthLoop Tryz.f29 0) = []) trivial) (by kernel_rfl) lp_l_eqByteS_4
theorem e_l_eqByteS : ∀ d, pcall ⟨lookT tys, ctrOf C_l_eqByteS, kindOf C_l_eqByteS, 3, 4⟩ 0 Q_l_eqByteS Tryz.f29 .plain (mkA P_l_eqByteS d) = (T_l_eqByteS d.1 d.2.1).run fun r => some (O_l_eqByteS r) := fun d => by kernel_rfl
theorem fn_l_eqByteS : Fn Tryz.prog 29 .plain F_l_eqByteS := fn_of (cfgOk_of mixed tys_ok (show FnsOk Tryz.prog C_l_eqByteS from trivial)) Tryz.func29 (by kernel_rfl) (by kernel_rfl) (fun cx b hp hb => all_of (by kernel_rfl : loopsOf (Tryz.f29.body.getD .skip) = [nthLoop Tryz.f29 0]) ⟨lo_l_eqByteS_4 cx hp, trivial⟩ b hb) (R := (Bool × Unit)) (T := fun (d : aden P_l_eqByteS) => T_l_eqByteS d.1 d.2.1) e_l_eqByteS
def P_l_eqByteSS : List (Bool × List Sh) := [(false, [.sl 23 [.sl 5 [.int .u8]]]), (false, [.sl 23 [.sl 5 [.int .u8]]])]
def O_l_eqByteSS (r : (Bool × Unit)) : List RV × List RV := ([rv (false, [.bool]) r], [])
def C_l_eqByteSS : Fns := [(29, .plain, F_l_eqByteS)]
def F_l_eqByteSS : Fun1 := funV P_l_eqByteSS (fun d => (T_l_eqByteSS d.1 d.2.1).val) O_l_eqByteSS
def K_l_eqByteSS_4 : Sk := ⟨[(0, .v false [(.sl 23 [.sl 5 [.int .u8]], .ro)]), (1, .v false [(.sl 23 [.sl 5 [.int .u8]], .ro)]), (5, .v false [(.int .i64, .nil)])], [], []⟩
def X_l_eqByteSS_4 : List (Ex × Sk) := [(.ret, ⟨[(4, .v false [(.bool, .nil)])], [], []⟩), ((.exit 0), ⟨[], [], []⟩)]
def Q_l_eqByteSS : Loops := fun i st => cond (Nat.beq i 4) (lam K_l_eqByteSS_4 5000000 X_l_eqByteSS_4 B_l_eqByteSS_4 st) <| .fail
theorem lp_l_eqByteSS_4 : ∀ d, bod ⟨lookT tys, ctrOf C_l_eqByteSS, kindOf C_l_eqByteSS, 3, 4⟩ 0 Tryz.f81.ntmps Q_l_eqByteSS (nthLoop Tryz.f81 0) K_l_eqByteSS_4 5000000 X_l_eqByteSS_4 d = B_l_eqByteSS_4 d := fun d => by kernel_rfl
theorem lo_l_eqByteSS_4 (cx : Cx) (hp : cx.pin.length ≤ 0) : LoopOk Tryz.prog cx Tryz.f81.ntmps Q_l_eqByteSS (nthLoop Tryz.f81 0) := loop_of (cfgOk_of mixed tys_ok (show FnsOk Tryz.prog C_l_eqByteSS from ⟨fn_l_eqByteS, trivial⟩)) hp (all_of (by kernel_rfl : loopsOf (nthLoop Tryz.f81 0) = []) trivial) (by kernel_rfl) lp_l_eqByteSS_4
theorem e_l_eqByteSS : ∀ d, pcall ⟨lookT tys, ctrOf C_l_eqByteSS, kindOf C_l_eqByteSS, 3, 4⟩ 0 Q_l_eqByteSS Tryz.f81 .plain (mkA P_l_eqByteSS d) = (T_l_eqByteSS d.1 d.2.1).run fun r => some (O_l_eqByteSS r) := fun d => by kernel_rfl
theorem fn_l_eqByteSS : Fn Tryz.prog 81 .plain F_l_eqByteSS := fn_of (cfgOk_of mixed tys_ok (show FnsOk Tryz.prog C_l_eqByteSS from ⟨fn_l_eqByteS, trivial⟩)) Tryz.func81 (by kernel_rfl) (by kernel_rfl) (fun cx b hp hb => all_of (by kernel_rfl : loopsOf (Tryz.f81.body.getD .skip) = [nthLoop Tryz.f81 0]) ⟨lo_l_eqByteSS_4 cx hp, trivial⟩ b hb) (R := (Bool × Unit)) (T := fun (d : aden P_l_eqByteSS) => T_l_eqByteSS d.1 d.2.1) e_l_eqByteSS
def P_l_eqJar : List (Bool × List Sh) := [(true, [.sl 5 [.int .u8]]), (true, [.sl 5 [.int .u8]])]
def O_l_eqJar (r : (Bool × Unit)) : List RV × List RV := ([rv (false, [.bool]) r], [])
def C_l_eqJar : Fns := [(29, .plain, F_l_eqByteS)]
def F_l_eqJar : Fun1 := funV P_l_eqJar (fun d => (T_l_eqJar d.1 d.2.1).val) O_l_eqJar
def Q_l_eqJar : Loops := fun _ _ => .fail
theorem e_l_eqJar : ∀ d, pcall ⟨lookT tys, ctrOf C_l_eqJar, kindOf C_l_eqJar, 3, 4⟩ 0 Q_l_eqJar Tryz.f82 .plain (mkA P_l_eqJar d) = (T_l_eqJar d.1 d.2.1).run fun r => some (O_l_eqJar r) := fun d => by kernel_rfl
theorem fn_l_eqJar : Fn Tryz.prog 82 .plain F_l_eqJar := fn_of (cfgOk_of mixed tys_ok (show FnsOk Tryz.prog C_l_eqJar from ⟨fn_l_eqByteS, trivial⟩)) Tryz.func82 (by kernel_rfl) (by kernel_rfl) (fun cx b hp hb => all_of (by kernel_rfl : loopsOf (Tryz.f82.body.getD .skip) = []) trivial b hb) (R := (Bool × Unit)) (T := fun (d : aden P_l_eqJar) => T_l_eqJar d.1 d.2.1) e_l_eqJar
def P_l_eqDice : List (Bool × List Sh) := [(true, [.sl 5 [.int .u8], .int .i64]), (true, [.sl 5 [.int .u8], .int .i64])]
def O_l_eqDice (r : (Bool × Unit)) : List RV × List RV := ([rv (false, [.bool]) r], [])
def C_l_eqDice : Fns := [(29, .plain, F_l_eqByteS)]
def F_l_eqDice : Fun1 := funV P_l_eqDice (fun d => (T_l_eqDice d.1 d.2.1).val) O_l_eqDice
def Q_l_eqDice : Loops := fun _ _ => .fail
theorem e_l_eqDice : ∀ d, pcall ⟨lookT tys, ctrOf C_l_eqDice, kindOf C_l_eqDice, 3, 4⟩ 0 Q_l_eqDice Tryz.f83 .plain (mkA P_l_eqDice d) = (T_l_eqDice d.1 d.2.1).run fun r => some (O_l_eqDice r) := fun d => by kernel_rfl
theorem fn_l_eqDice : Fn Tryz.prog 83 .plain F_l_eqDice := fn_of (cfgOk_of mixed tys_ok (show FnsOk Tryz.prog C_l_eqDice from ⟨fn_l_eqByteS, trivial⟩)) Tryz.func83 (by kernel_rfl) (by kernel_rfl) (fun cx b hp hb => all_of (by kernel_rfl : loopsOf (Tryz.f83.body.getD .skip) = []) trivial b hb) (R := (Bool × Unit)) (T := fun (d : aden P_l_eqDice) => T_l_eqDice d.1 d.2.1) e_l_eqDice
def P_l_eqIntS : List (Bool × List Sh) := [(false, [.sl 3 [.int .i64]]), (false, [.sl 3 [.int .i64]])]
def O_l_eqIntS (r : (Bool × Unit)) : List RV × List RV := ([rv (false, [.bool]) r], [])
def C_l_eqIntS : Fns := []
def F_l_eqIntS : Fun1 := funV P_l_eqIntS (fun d => (T_l_eqIntS d.1 d.2.1).val) O_l_eqIntS
def K_l_eqIntS_4 : Sk := ⟨[(0, .v false [(.sl 3 [.int .i64], .ro)]), (1, .v false [(.sl 3 [.int .i64], .ro)]), (5, .v false [(.int .i64, .nil)])], [], []⟩
def X_l_eqIntS_4 : List (Ex × Sk) := [(.ret, ⟨[(4, .v false [(.bool, .nil)])], [], []⟩), ((.exit 0), ⟨[], [], []⟩)]
def Q_l_eqIntS : Loops := fun i st => cond (Nat.beq i 4) (lam K_l_eqIntS_4 5000000 X_l_eqIntS_4 B_l_eqIntS_4 st) <| .fail
theorem lp_l_eqIntS_4 : ∀ d, bod ⟨lookT tys, ctrOf C_l_eqIntS, kindOf C_l_eqIntS, 3, 4⟩ 0 Tryz.f314.ntmps Q_l_eqIntS (nthLoop Tryz.f314 0) K_l_eqIntS_4 5000000 X_l_eqIntS_4 d = B_l_eqIntS_4 d := fun d => by kernel_rfl
theorem lo_l_eqIntS_4 (cx : Cx) (hp : cx.pin.length ≤ 0) : LoopOk Tryz.prog cx Tryz.f314.ntmps Q_l_eqIntS (nthLoop Tryz.f314 0) := loop_of (cfgOk_of mixed tys_ok (show FnsOk Tryz.prog C_l_eqIntS from trivial)) hp (all_of (by kernel_rfl : loopsOf (nthLoop Tryz.f314 0) = []) trivial) (by kernel_rfl) lp_l_eqIntS_4
theorem e_l_eqIntS : ∀ d, pcall ⟨lookT tys, ctrOf C_l_eqIntS, kindOf C_l_eqIntS, 3, 4⟩ 0 Q_l_eqIntS Tryz.f314 .plain (mkA P_l_eqIntS d) = (T_l_eqIntS d.1 d.2.1).run fun r => some (O_l_eqIntS r) := fun d => by kernel_rfl
theorem fn_l_eqIntS : Fn Tryz.prog 314 .plain F_l_eqIntS := fn_of (cfgOk_of mixed tys_ok (show FnsOk Tryz.prog C_l_eqIntS from trivial)) Tryz.func314 (by kernel_rfl) (by kernel_rfl) (fun cx b hp hb => all_of (by kernel_rfl : loopsOf (Tryz.f314.body.getD .skip) = [nthLoop Tryz.f314 0]) ⟨lo_l_eqIntS_4 cx hp, trivial⟩ b hb) (R := (Bool × Unit)) (T := fun (d : aden P_l_eqIntS) => T_l_eqIntS d.1 d.2.1) e_l_eqIntS
def P_l_eqWin : List (Bool × List Sh) := [(true, [.int .i64, .sl 3 [.int .i64]]), (true, [.int .i64, .sl 3 [.int .i64]])]
def O_l_eqWin (r : (Bool × Unit)) : List RV × List RV := ([rv (false, [.bool]) r], [])
def C_l_eqWin : Fns := [(314, .plain, F_l_eqIntS)]
def F_l_eqWin : Fun1 := funV P_l_eqWin (fun d => (T_l_eqWin d.1 d.2.1).val) O_l_eqWin
def Q_l_eqWin : Loops := fun _ _ => .fail
theorem e_l_eqWin : ∀ d, pcall ⟨lookT tys, ctrOf C_l_eqWin, kindOf C_l_eqWin, 3, 4⟩ 0 Q_l_eqWin Tryz.f279 .plain (mkA P_l_eqWin d) = (T_l_eqWin d.1 d.2.1).run fun r => some (O_l_eqWin r) := fun d => by kernel_rfl
theorem fn_l_eqWin : Fn Tryz.prog 279 .plain F_l_eqWin := fn_of (cfgOk_of mixed tys_ok (show FnsOk Tryz.prog C_l_eqWin from ⟨fn_l_eqIntS, trivial⟩)) Tryz.func279 (by kernel_rfl) (by kernel_rfl) (fun cx b hp hb => all_of (by kernel_rfl : loopsOf (Tryz.f279.body.getD .skip) = []) trivial b hb) (R := (Bool × Unit)) (T := fun (d : aden P_l_eqWin) => T_l_eqWin d.1 d.2.1) e_l_eqWin
def P_l_eqEp : List (Bool × List Sh) := [(true, h_5), (true, h_5)]
def O_l_eqEp (r : (Bool × Unit)) : List RV × List RV := ([rv (false, [.bool]) r], [])
def C_l_eqEp : Fns := [(29, .plain, F_l_eqByteS), (279, .plain, F_l_eqWin)]
def F_l_eqEp : Fun1 := funV P_l_eqEp (fun d => (T_l_eqEp d.1 d.2.1).val) O_l_eqEp
def Q_l_eqEp : Loops := fun _ _ => .fail
theorem e_l_eqEp : ∀ d, pcall ⟨lookT tys, ctrOf C_l_eqEp, kindOf C_l_eqEp, 3, 4⟩ 0 Q_l_eqEp Tryz.f215 .plain (mkA P_l_eqEp d) = (T_l_eqEp d.1 d.2.1).run fun r => some (O_l_eqEp r) := fun d => by kernel_rfl
theorem fn_l_eqEp : Fn Tryz.prog 215 .plain F_l_eqEp := fn_of (cfgOk_of mixed tys_ok (show FnsOk Tryz.prog C_l_eqEp from ⟨fn_l_eqByteS, fn_l_eqWin, trivial⟩)) Tryz.func215 (by kernel_rfl) (by kernel_rfl) (fun cx b hp hb => all_of (by kernel_rfl : loopsOf (Tryz.f215.body.getD .skip) = []) trivial b hb) (R := (Bool × Unit)) (T := fun (d : aden P_l_eqEp) => T_l_eqEp d.1 d.2.1) e_l_eqEp
def P_l_eqChan : List (Bool × List Sh) := [(true, h_11), (true, h_11)]
def O_l_eqChan (r : (Bool × Unit)) : List RV × List RV := ([rv (false, [.bool]) r], [])
def C_l_eqChan : Fns := [(29, .plain, F_l_eqByteS), (215, .plain, F_l_eqEp)]
def F_l_eqChan : Fun1 := funV P_l_eqChan (fun d => (T_l_eqChan d.1 d.2.1).val) O_l_eqChan
def Q_l_eqChan : Loops := fun _ _ => .fail
theorem e_l_eqChan : ∀ d, pcall ⟨lookT tys, ctrOf C_l_eqChan, kindOf C_l_eqChan, 3, 4⟩ 0 Q_l_eqChan Tryz.f114 .plain (mkA P_l_eqChan d) = (T_l_eqChan d.1 d.2.1).run fun r => some (O_l_eqChan r) := fun d => by kernel_rfl
theorem fn_l_eqChan : Fn Tryz.prog 114 .plain F_l_eqChan := fn_of (cfgOk_of mixed tys_ok (show FnsOk Tryz.prog C_l_eqChan from ⟨fn_l_eqByteS, fn_l_eqEp, trivial⟩)) Tryz.func114 (by kernel_rfl) (by kernel_rfl) (fun cx b hp hb => all_of (by kernel_rfl : loopsOf (Tryz.f114.body.getD .skip) = []) trivial b hb) (R := (Bool × Unit)) (T := fun (d : aden P_l_eqChan) => T_l_eqChan d.1 d.2.1) e_l_eqChan
def P_l_eqAddr : List (Bool × List Sh) := [(true, [.int .i64, .int .i64]), (true, [.int .i64, .int .i64])]
def O_l_eqAddr (r : (Bool × Unit)) : List RV × List RV := ([rv (false, [.bool]) r], [])
def C_l_eqAddr : Fns := []
def F_l_eqAddr : Fun1 := funV P_l_eqAddr (fun d => (T_l_eqAddr d.1 d.2.1).val) O_l_eqAddr
def Q_l_eqAddr : Loops := fun _ _ => .fail
theorem e_l_eqAddr : ∀ d, pcall ⟨lookT tys, ctrOf C_l_eqAddr, kindOf C_l_eqAddr, 3, 4⟩ 0 Q_l_eqAddr Tryz.f113 .plain (mkA P_l_eqAddr d) = (T_l_eqAddr d.1 d.2.1).run fun r => some (O_l_eqAddr r) := fun d => by kernel_rfl
theorem fn_l_eqAddr : Fn Tryz.prog 113 .plain F_l_eqAddr := fn_of (cfgOk_of mixed tys_ok (show FnsOk Tryz.prog C_l_eqAddr from trivial)) Tryz.func113 (by kernel_rfl) (by kernel_rfl) (fun cx b hp hb => all_of (by kernel_rfl : loopsOf (Tryz.f113.body.getD .skip) = []) trivial b hb) (R := (Bool × Unit)) (T := fun (d : aden P_l_eqAddr) => T_l_eqAddr d.1 d.2.1) e_l_eqAddr
def P_l_eqCand : List (Bool × List Sh) := [(true, h_4), (true, h_4)]
def O_l_eqCand (r : (Bool × Unit)) : List RV × List RV := ([rv (false, [.bool]) r], [])
def C_l_eqCand : Fns := [(113, .plain, F_l_eqAddr), (29, .plain, F_l_eqByteS)]
def F_l_eqCand : Fun1 := funV P_l_eqCand (fun d => (T_l_eqCand d.1 d.2.1).val) O_l_eqCand
def Q_l_eqCand : Loops := fun _ _ => .fail
theorem e_l_eqCand : ∀ d, pcall ⟨lookT tys, ctrOf C_l_eqCand, kindOf C_l_eqCand, 3, 4⟩ 0 Q_l_eqCand Tryz.f285 .plain (mkA P_l_eqCand d) = (T_l_eqCand d.1 d.2.1).run fun r => some (O_l_eqCand r) := fun d => by kernel_rfl
theorem fn_l_eqCand : Fn Tryz.prog 285 .plain F_l_eqCand := fn_of (cfgOk_of mixed tys_ok (show FnsOk Tryz.prog C_l_eqCand from ⟨fn_l_eqAddr, fn_l_eqByteS, trivial⟩)) Tryz.func285 (by kernel_rfl) (by kernel_rfl) (fun cx b hp hb => all_of (by kernel_rfl : loopsOf (Tryz.f285.body.getD .skip) = []) trivial b hb) (R := (Bool × Unit)) (T := fun (d : aden P_l_eqCand) => T_l_eqCand d.1 d.2.1) e_l_eqCand
def P_l_eqCandS : List (Bool × List Sh) := [(false, [.sl 274 h_4]), (false, [.sl 274 h_4])]
def O_l_eqCandS (r : (Bool × Unit)) : List RV × List RV := ([rv (false, [.bool]) r], [])
def C_l_eqCandS : Fns := [(285, .plain, F_l_eqCand)]
def F_l_eqCandS : Fun1 := funV P_l_eqCandS (fun d => (T_l_eqCandS d.1 d.2.1).val) O_l_eqCandS
def K_l_eqCandS_4 : Sk := ⟨[(0, .v false [(.sl 274 h_4, .ro)]), (1, .v false [(.sl 274 h_4, .ro)]), (5, .v false [(.int .i64, .nil)])], [], []⟩
def X_l_eqCandS_4 : List (Ex × Sk) := [(.ret, ⟨[(4, .v false [(.bool, .nil)])], [], []⟩), ((.exit 0), ⟨[], [], []⟩)]
def Q_l_eqCandS : Loops := fun i st => cond (Nat.beq i 4) (lam K_l_eqCandS_4 5000000 X_l_eqCandS_4 B_l_eqCandS_4 st) <| .fail
theorem lp_l_eqCandS_4 : ∀ d, bod ⟨lookT tys, ctrOf C_l_eqCandS, kindOf C_l_eqCandS, 3, 4⟩ 0 Tryz.f225.ntmps Q_l_eqCandS (nthLoop Tryz.f225 0) K_l_eqCandS_4 5000000 X_l_eqCandS_4 d = B_l_eqCandS_4 d := fun d => by kernel_rfl
theorem lo_l_eqCandS_4 (cx : Cx) (hp : cx.pin.length ≤ 0) : LoopOk Tryz.prog cx Tryz.f225.ntmps Q_l_eqCandS (nthLoop Tryz.f225 0) := loop_of (cfgOk_of mixed tys_ok (show FnsOk Tryz.prog C_l_eqCandS from ⟨fn_l_eqCand, trivial⟩)) hp (all_of (by kernel_rfl : loopsOf (nthLoop Tryz.f225 0) = []) trivial) (by kernel_rfl) lp_l_eqCandS_4
theorem e_l_eqCandS : ∀ d, pcall ⟨lookT tys, ctrOf C_l_eqCandS, kindOf C_l_eqCandS, 3, 4⟩ 0 Q_l_eqCandS Tryz.f225 .plain (mkA P_l_eqCandS d) = (T_l_eqCandS d.1 d.2.1).run fun r => some (O_l_eqCandS r) := fun d => by kernel_rfl
theorem fn_l_eqCandS : Fn Tryz.prog 225 .plain F_l_eqCandS := fn_of (cfgOk_of mixed tys_ok (show FnsOk Tryz.prog C_l_eqCandS from ⟨fn_l_eqCand, trivial⟩)) Tryz.func225 (by kernel_rfl) (by kernel_rfl) (fun cx b hp hb => all_of (by kernel_rfl : loopsOf (Tryz.f225.body.getD .skip) = [nthLoop Tryz.f225 0]) ⟨lo_l_eqCandS_4 cx hp, trivial⟩ b hb) (R := (Bool × Unit)) (T := fun (d : aden P_l_eqCandS) => T_l_eqCandS d.1 d.2.1) e_l_eqCandS
def P_l_eqPaths : List (Bool × List Sh) := [(true, h_7), (true, h_7)]
def O_l_eqPaths (r : (Bool × Unit)) : List RV × List RV := ([rv (false, [.bool]) r], [])
def C_l_eqPaths : Fns := [(113, .plain, F_l_eqAddr), (225, .plain, F_l_eqCandS)]
def F_l_eqPaths : Fun1 := funV P_l_eqPaths (fun d => (T_l_eqPaths d.1 d.2.1).val) O_l_eqPaths
def Q_l_eqPaths : Loops := fun _ _ => .fail
theorem e_l_eqPaths : ∀ d, pcall ⟨lookT tys, ctrOf C_l_eqPaths, kindOf C_l_eqPaths, 3, 4⟩ 0 Q_l_eqPaths Tryz.f125 .plain (mkA P_l_eqPaths d) = (T_l_eqPaths d.1 d.2.1).run fun r => some (O_l_eqPaths r) := fun d => by kernel_rfl
theorem fn_l_eqPaths : Fn Tryz.prog 125 .plain F_l_eqPaths := fn_of (cfgOk_of mixed tys_ok (show FnsOk Tryz.prog C_l_eqPaths from ⟨fn_l_eqAddr, fn_l_eqCandS, trivial⟩)) Tryz.func125 (by kernel_rfl) (by kernel_rfl) (fun cx b hp hb => all_of (by kernel_rfl : loopsOf (Tryz.f125.body.getD .skip) = []) trivial b hb) (R := (Bool × Unit)) (T := fun (d : aden P_l_eqPaths) => T_l_eqPaths d.1 d.2.1) e_l_eqPaths
def P_l_eqSess : List (Bool × List Sh) := [(true, h_13), (true, h_13)]
def O_l_eqSess (r : (Bool × Unit)) : List RV × List RV := ([rv (false, [.bool]) r], [])
def C_l_eqSess : Fns := [(29, .plain, F_l_eqByteS), (114, .plain, F_l_eqChan), (125, .plain, F_l_eqPaths)]
def F_l_eqSess : Fun1 := funV P_l_eqSess (fun d => (T_l_eqSess d.1 d.2.1).val) O_l_eqSess
def Q_l_eqSess : Loops := fun _ _ => .fail
theorem e_l_eqSess : ∀ d, pcall ⟨lookT tys, ctrOf C_l_eqSess, kindOf C_l_eqSess, 3, 4⟩ 0 Q_l_eqSess Tryz.f39 .plain (mkA P_l_eqSess d) = (T_l_eqSess d.1 d.2.1).run fun r => some (O_l_eqSess r) := fun d => by kernel_rfl
theorem fn_l_eqSess : Fn Tryz.prog 39 .plain F_l_eqSess := fn_of (cfgOk_of mixed tys_ok (show FnsOk Tryz.prog C_l_eqSess from ⟨fn_l_eqByteS, fn_l_eqChan, fn_l_eqPaths, trivial⟩)) Tryz.func39 (by kernel_rfl) (by kernel_rfl) (fun cx b hp hb => all_of (by kernel_rfl : loopsOf (Tryz.f39.body.getD .skip) = []) trivial b hb) (R := (Bool × Unit)) (T := fun (d : aden P_l_eqSess) => T_l_eqSess d.1 d.2.1) e_l_eqSess
def P_l_eqSessS : List (Bool × List Sh) := [(false, [.sl 100 h_13]), (false, [.sl 100 h_13])]
def O_l_eqSessS (r : (Bool × Unit)) : List RV × List RV := ([rv (false, [.bool]) r], [])
def C_l_eqSessS : Fns := [(39, .plain, F_l_eqSess)]
def F_l_eqSessS : Fun1 := funV P_l_eqSessS (fun d => (T_l_eqSessS d.1 d.2.1).val) O_l_eqSessS
def K_l_eqSessS_4 : Sk := ⟨[(0, .v false [(.sl 100 h_13, .ro)]), (1, .v false [(.sl 100 h_13, .ro)]), (5, .v false [(.int .i64, .nil)])], [], []⟩
def X_l_eqSessS_4 : List (Ex × Sk) := [(.ret, ⟨[(4, .v false [(.bool, .nil)])], [], []⟩), ((.exit 0), ⟨[], [], []⟩)]
def Q_l_eqSessS : Loops := fun i st => cond (Nat.beq i 4) (lam K_l_eqSessS_4 5000000 X_l_eqSessS_4 B_l_eqSessS_4 st) <| .fail
theorem lp_l_eqSessS_4 : ∀ d, bod ⟨lookT tys, ctrOf C_l_eqSessS, kindOf C_l_eqSessS, 3, 4⟩ 0 Tryz.f191.ntmps Q_l_eqSessS (nthLoop Tryz.f191 0) K_l_eqSessS_4 5000000 X_l_eqSessS_4 d = B_l_eqSessS_4 d := fun d => by kernel_rfl
theorem lo_l_eqSessS_4 (cx : Cx) (hp : cx.pin.length ≤ 0) : LoopOk Tryz.prog cx Tryz.f191.ntmps Q_l_eqSessS (nthLoop Tryz.f191 0) := loop_of (cfgOk_of mixed tys_ok (show FnsOk Tryz.prog C_l_eqSessS from ⟨fn_l_eqSess, trivial⟩)) hp (all_of (by kernel_rfl : loopsOf (nthLoop Tryz.f191 0) = []) trivial) (by kernel_rfl) lp_l_eqSessS_4
theorem e_l_eqSessS : ∀ d, pcall ⟨lookT tys, ctrOf C_l_eqSessS, kindOf C_l_eqSessS, 3, 4⟩ 0 Q_l_eqSessS Tryz.f191 .plain (mkA P_l_eqSessS d) = (T_l_eqSessS d.1 d.2.1).run fun r => some (O_l_eqSessS r) := fun d => by kernel_rfl
theorem fn_l_eqSessS : Fn Tryz.prog 191 .plain F_l_eqSessS := fn_of (cfgOk_of mixed tys_ok (show FnsOk Tryz.prog C_l_eqSessS from ⟨fn_l_eqSess, trivial⟩)) Tryz.func191 (by kernel_rfl) (by kernel_rfl) (fun cx b hp hb => all_of (by kernel_rfl : loopsOf (Tryz.f191.body.getD .skip) = [nthLoop Tryz.f191 0]) ⟨lo_l_eqSessS_4 cx hp, trivial⟩ b hb) (R := (Bool × Unit)) (T := fun (d : aden P_l_eqSessS) => T_l_eqSessS d.1 d.2.1) e_l_eqSessS
def P_l_eqTab : List (Bool × List Sh) := [(true, [.int .i64, .sl 100 h_13]), (true, [.int .i64, .sl 100 h_13])]
def O_l_eqTab (r : (Bool × Unit)) : List RV × List RV := ([rv (false, [.bool]) r], [])
def C_l_eqTab : Fns := [(191, .plain, F_l_eqSessS)]
def F_l_eqTab : Fun1 := funV P_l_eqTab (fun d => (T_l_eqTab d.1 d.2.1).val) O_l_eqTab
def Q_l_eqTab : Loops := fun _ _ => .fail
theorem e_l_eqTab : ∀ d, pcall ⟨lookT tys, ctrOf C_l_eqTab, kindOf C_l_eqTab, 3, 4⟩ 0 Q_l_eqTab Tryz.f84 .plain (mkA P_l_eqTab d) = (T_l_eqTab d.1 d.2.1).run fun r => some (O_l_eqTab r) := fun d => by kernel_rfl
theorem fn_l_eqTab : Fn Tryz.prog 84 .plain F_l_eqTab := fn_of (cfgOk_of mixed tys_ok (show FnsOk Tryz.prog C_l_eqTab from ⟨fn_l_eqSessS, trivial⟩)) Tryz.func84 (by kernel_rfl) (by kernel_rfl) (fun cx b hp hb => all_of (by kernel_rfl : loopsOf (Tryz.f84.body.getD .skip) = []) trivial b hb) (R := (Bool × Unit)) (T := fun (d : aden P_l_eqTab) => T_l_eqTab d.1 d.2.1) e_l_eqTab
def P_l_eqCredit : List (Bool × List Sh) := [(true, h_2), (true, h_2)]
def O_l_eqCredit (r : (Bool × Unit)) : List RV × List RV := ([rv (false, [.bool]) r], [])
def C_l_eqCredit : Fns := [(113, .plain, F_l_eqAddr)]
def F_l_eqCredit : Fun1 := funV P_l_eqCredit (fun d => (T_l_eqCredit d.1 d.2.1).val) O_l_eqCredit
def Q_l_eqCredit : Loops := fun _ _ => .fail
theorem e_l_eqCredit : ∀ d, pcall ⟨lookT tys, ctrOf C_l_eqCredit, kindOf C_l_eqCredit, 3, 4⟩ 0 Q_l_eqCredit Tryz.f192 .plain (mkA P_l_eqCredit d) = (T_l_eqCredit d.1 d.2.1).run fun r => some (O_l_eqCredit r) := fun d => by kernel_rfl
theorem fn_l_eqCredit : Fn Tryz.prog 192 .plain F_l_eqCredit := fn_of (cfgOk_of mixed tys_ok (show FnsOk Tryz.prog C_l_eqCredit from ⟨fn_l_eqAddr, trivial⟩)) Tryz.func192 (by kernel_rfl) (by kernel_rfl) (fun cx b hp hb => all_of (by kernel_rfl : loopsOf (Tryz.f192.body.getD .skip) = []) trivial b hb) (R := (Bool × Unit)) (T := fun (d : aden P_l_eqCredit) => T_l_eqCredit d.1 d.2.1) e_l_eqCredit
def P_l_eqCreditS : List (Bool × List Sh) := [(false, [.sl 218 h_2]), (false, [.sl 218 h_2])]
def O_l_eqCreditS (r : (Bool × Unit)) : List RV × List RV := ([rv (false, [.bool]) r], [])
def C_l_eqCreditS : Fns := [(192, .plain, F_l_eqCredit)]
def F_l_eqCreditS : Fun1 := funV P_l_eqCreditS (fun d => (T_l_eqCreditS d.1 d.2.1).val) O_l_eqCreditS
def K_l_eqCreditS_4 : Sk := ⟨[(0, .v false [(.sl 218 h_2, .ro)]), (1, .v false [(.sl 218 h_2, .ro)]), (5, .v false [(.int .i64, .nil)])], [], []⟩
def X_l_eqCreditS_4 : List (Ex × Sk) := [(.ret, ⟨[(4, .v false [(.bool, .nil)])], [], []⟩), ((.exit 0), ⟨[], [], []⟩)]
def Q_l_eqCreditS : Loops := fun i st => cond (Nat.beq i 4) (lam K_l_eqCreditS_4 5000000 X_l_eqCreditS_4 B_l_eqCreditS_4 st) <| .fail
theorem lp_l_eqCreditS_4 : ∀ d, bod ⟨lookT tys, ctrOf C_l_eqCreditS, kindOf C_l_eqCreditS, 3, 4⟩ 0 Tryz.f85.ntmps Q_l_eqCreditS (nthLoop Tryz.f85 0) K_l_eqCreditS_4 5000000 X_l_eqCreditS_4 d = B_l_eqCreditS_4 d := fun d => by kernel_rfl
theorem lo_l_eqCreditS_4 (cx : Cx) (hp : cx.pin.length ≤ 0) : LoopOk Tryz.prog cx Tryz.f85.ntmps Q_l_eqCreditS (nthLoop Tryz.f85 0) := loop_of (cfgOk_of mixed tys_ok (show FnsOk Tryz.prog C_l_eqCreditS from ⟨fn_l_eqCredit, trivial⟩)) hp (all_of (by kernel_rfl : loopsOf (nthLoop Tryz.f85 0) = []) trivial) (by kernel_rfl) lp_l_eqCreditS_4
theorem e_l_eqCreditS : ∀ d, pcall ⟨lookT tys, ctrOf C_l_eqCreditS, kindOf C_l_eqCreditS, 3, 4⟩ 0 Q_l_eqCreditS Tryz.f85 .plain (mkA P_l_eqCreditS d) = (T_l_eqCreditS d.1 d.2.1).run fun r => some (O_l_eqCreditS r) := fun d => by kernel_rfl
theorem fn_l_eqCreditS : Fn Tryz.prog 85 .plain F_l_eqCreditS := fn_of (cfgOk_of mixed tys_ok (show FnsOk Tryz.prog C_l_eqCreditS from ⟨fn_l_eqCredit, trivial⟩)) Tryz.func85 (by kernel_rfl) (by kernel_rfl) (fun cx b hp hb => all_of (by kernel_rfl : loopsOf (Tryz.f85.body.getD .skip) = [nthLoop Tryz.f85 0]) ⟨lo_l_eqCreditS_4 cx hp, trivial⟩ b hb) (R := (Bool × Unit)) (T := fun (d : aden P_l_eqCreditS) => T_l_eqCreditS d.1 d.2.1) e_l_eqCreditS
def P_l_eqServer : List (Bool × List Sh) := [(true, h_15), (true, h_15)]
def O_l_eqServer (r : (Bool × Unit)) : List RV × List RV := ([rv (false, [.bool]) r], [])
def C_l_eqServer : Fns := [(81, .plain, F_l_eqByteSS), (82, .plain, F_l_eqJar), (83, .plain, F_l_eqDice), (84, .plain, F_l_eqTab), (85, .plain, F_l_eqCreditS)]
def F_l_eqServer : Fun1 := funV P_l_eqServer (fun d => (T_l_eqServer d.1 d.2.1).val) O_l_eqServer
def Q_l_eqServer : Loops := fun _ _ => .fail
theorem e_l_eqServer : ∀ d, pcall ⟨lookT tys, ctrOf C_l_eqServer, kindOf C_l_eqServer, 3, 4⟩ 0 Q_l_eqServer Tryz.f16 .plain (mkA P_l_eqServer d) = (T_l_eqServer d.1 d.2.1).run fun r => some (O_l_eqServer r) := fun d => by kernel_rfl
theorem fn_l_eqServer : Fn Tryz.prog 16 .plain F_l_eqServer := fn_of (cfgOk_of mixed tys_ok (show FnsOk Tryz.prog C_l_eqServer from ⟨fn_l_eqByteSS, fn_l_eqJar, fn_l_eqDice, fn_l_eqTab, fn_l_eqCreditS, trivial⟩)) Tryz.func16 (by kernel_rfl) (by kernel_rfl) (fun cx b hp hb => all_of (by kernel_rfl : loopsOf (Tryz.f16.body.getD .skip) = []) trivial b hb) (R := (Bool × Unit)) (T := fun (d : aden P_l_eqServer) => T_l_eqServer d.1 d.2.1) e_l_eqServer
def P_l_eqNote : List (Bool × List Sh) := [(true, h_8), (true, h_8)]
def O_l_eqNote (r : (Bool × Unit)) : List RV × List RV := ([rv (false, [.bool]) r], [])
def C_l_eqNote : Fns := [(29, .plain, F_l_eqByteS), (113, .plain, F_l_eqAddr)]
def F_l_eqNote : Fun1 := funV P_l_eqNote (fun d => (T_l_eqNote d.1 d.2.1).val) O_l_eqNote
def Q_l_eqNote : Loops := fun _ _ => .fail
theorem e_l_eqNote : ∀ d, pcall ⟨lookT tys, ctrOf C_l_eqNote, kindOf C_l_eqNote, 3, 4⟩ 0 Q_l_eqNote Tryz.f86 .plain (mkA P_l_eqNote d) = (T_l_eqNote d.1 d.2.1).run fun r => some (O_l_eqNote r) := fun d => by kernel_rfl
theorem fn_l_eqNote : Fn Tryz.prog 86 .plain F_l_eqNote := fn_of (cfgOk_of mixed tys_ok (show FnsOk Tryz.prog C_l_eqNote from ⟨fn_l_eqByteS, fn_l_eqAddr, trivial⟩)) Tryz.func86 (by kernel_rfl) (by kernel_rfl) (fun cx b hp hb => all_of (by kernel_rfl : loopsOf (Tryz.f86.body.getD .skip) = []) trivial b hb) (R := (Bool × Unit)) (T := fun (d : aden P_l_eqNote) => T_l_eqNote d.1 d.2.1) e_l_eqNote
def P_l_eqNoteS : List (Bool × List Sh) := [(false, [.sl 139 h_8]), (false, [.sl 139 h_8])]
def O_l_eqNoteS (r : (Bool × Unit)) : List RV × List RV := ([rv (false, [.bool]) r], [])
def C_l_eqNoteS : Fns := [(86, .plain, F_l_eqNote)]
def F_l_eqNoteS : Fun1 := funV P_l_eqNoteS (fun d => (T_l_eqNoteS d.1 d.2.1).val) O_l_eqNoteS
def K_l_eqNoteS_4 : Sk := ⟨[(0, .v false [(.sl 139 h_8, .ro)]), (1, .v false [(.sl 139 h_8, .ro)]), (5, .v false [(.int .i64, .nil)])], [], []⟩
def X_l_eqNoteS_4 : List (Ex × Sk) := [(.ret, ⟨[(4, .v false [(.bool, .nil)])], [], []⟩), ((.exit 0), ⟨[], [], []⟩)]
def Q_l_eqNoteS : Loops := fun i st => cond (Nat.beq i 4) (lam K_l_eqNoteS_4 5000000 X_l_eqNoteS_4 B_l_eqNoteS_4 st) <| .fail
theorem lp_l_eqNoteS_4 : ∀ d, bod ⟨lookT tys, ctrOf C_l_eqNoteS, kindOf C_l_eqNoteS, 3, 4⟩ 0 Tryz.f17.ntmps Q_l_eqNoteS (nthLoop Tryz.f17 0) K_l_eqNoteS_4 5000000 X_l_eqNoteS_4 d = B_l_eqNoteS_4 d := fun d => by kernel_rfl
theorem lo_l_eqNoteS_4 (cx : Cx) (hp : cx.pin.length ≤ 0) : LoopOk Tryz.prog cx Tryz.f17.ntmps Q_l_eqNoteS (nthLoop Tryz.f17 0) := loop_of (cfgOk_of mixed tys_ok (show FnsOk Tryz.prog C_l_eqNoteS from ⟨fn_l_eqNote, trivial⟩)) hp (all_of (by kernel_rfl : loopsOf (nthLoop Tryz.f17 0) = []) trivial) (by kernel_rfl) lp_l_eqNoteS_4
theorem e_l_eqNoteS : ∀ d, pcall ⟨lookT tys, ctrOf C_l_eqNoteS, kindOf C_l_eqNoteS, 3, 4⟩ 0 Q_l_eqNoteS Tryz.f17 .plain (mkA P_l_eqNoteS d) = (T_l_eqNoteS d.1 d.2.1).run fun r => some (O_l_eqNoteS r) := fun d => by kernel_rfl
theorem fn_l_eqNoteS : Fn Tryz.prog 17 .plain F_l_eqNoteS := fn_of (cfgOk_of mixed tys_ok (show FnsOk Tryz.prog C_l_eqNoteS from ⟨fn_l_eqNote, trivial⟩)) Tryz.func17 (by kernel_rfl) (by kernel_rfl) (fun cx b hp hb => all_of (by kernel_rfl : loopsOf (Tryz.f17.body.getD .skip) = [nthLoop Tryz.f17 0]) ⟨lo_l_eqNoteS_4 cx hp, trivial⟩ b hb) (R := (Bool × Unit)) (T := fun (d : aden P_l_eqNoteS) => T_l_eqNoteS d.1 d.2.1) e_l_eqNoteS
def P_l_markByteS : List (Bool × List Sh) := [(false, [.sl 5 [.int .u8]]), (false, [.int .i64])]
def O_l_markByteS (r : (YI) × (YBs)) : List RV × List RV := ([rv (false, [.int .i64]) r.1], [rv (false, [.sl 5 [.int .u8]]) r.2])
def C_l_markByteS : Fns := []
def F_l_markByteS : Fun1 := funV P_l_markByteS (fun d => (T_l_markByteS d.1 d.2.1).val) O_l_markByteS
def K_l_markByteS_2 : Sk := ⟨[(0, .v false [(.sl 5 [.int .u8], (.own 3000000))]), (1, .v false [(.int .i64, .nil)]), (5, .v false [(.int .i64, .nil)])], [], [3000000]⟩
def X_l_markByteS_2 : List (Ex × Sk) := [((.exit 0), ⟨[(0, .v false [(.sl 5 [.int .u8], (.own 3000000))]), (1, .v false [(.int .i64, .nil)])], [], [3000000]⟩)]
def Q_l_markByteS : Loops := fun i st => cond (Nat.beq i 2) (lam K_l_markByteS_2 3000000 X_l_markByteS_2 B_l_markByteS_2 st) <| .fail
theorem lp_l_markByteS_2 : ∀ d, bod ⟨lookT tys, ctrOf C_l_markByteS, kindOf C_l_markByteS, 3, 4⟩ 1 Tryz.f31.ntmps Q_l_markByteS (nthLoop Tryz.f31 0) K_l_markByteS_2 3000000 X_l_markByteS_2 d = B_l_markByteS_2 d := fun d => by kernel_rfl
theorem lo_l_markByteS_2 (cx : Cx) (hp : cx.pin.length ≤ 1) : LoopOk Tryz.prog cx Tryz.f31.ntmps Q_l_markByteS (nthLoop Tryz.f31 0) := loop_of (cfgOk_of mixed tys_ok (show FnsOk Tryz.prog C_l_markByteS from trivial)) hp (all_of (by kernel_rfl : loopsOf (nthLoop Tryz.f31 0) = []) trivial) (by kernel_rfl) lp_l_markByteS_2
theorem e_l_markByteS : ∀ d, pcall ⟨lookT tys, ctrOf C_l_markByteS, kindOf C_l_markByteS, 3, 4⟩ 1 Q_l_markByteS Tryz.f31 (.lend [1]) (mkA P_l_markByteS d) = (T_l_markByteS d.1 d.2.1).run fun r => some (O_l_markByteS r) := fun d => by kernel_rfl
theorem fn_l_markByteS : Fn Tryz.prog 31 (.lend [1]) F_l_markByteS := fn_of (cfgOk_of mixed tys_ok (show FnsOk Tryz.prog C_l_markByteS from trivial)) Tryz.func31 (by kernel_rfl) (by kernel_rfl) (fun cx b hp hb => all_of (by kernel_rfl : loopsOf (Tryz.f31.body.getD .skip) = [nthLoop Tryz.f31 0]) ⟨lo_l_markByteS_2 cx hp, trivial⟩ b hb) (R := (YI) × (YBs)) (T := fun (d : aden P_l_markByteS) => T_l_markByteS d.1 d.2.1) e_l_markByteS
def P_l_markByteSS : List (Bool × List Sh) := [(false, [.sl 23 [.sl 5 [.int .u8]]]), (false, [.int .i64])]
def O_l_markByteSS (r : (YI) × ((List YBs) × Unit)) : List RV × List RV := ([rv (false, [.int .i64]) r.1], [rv (false, [.sl 23 [.sl 5 [.int .u8]]]) r.2])
def C_l_markByteSS : Fns := [(31, (.lend [1]), F_l_markByteS)]
def F_l_markByteSS : Fun1 := funV P_l_markByteSS (fun d => (T_l_markByteSS d.1 d.2.1).val) O_l_markByteSS
def K_l_markByteSS_2 : Sk := ⟨[(0, .v false [(.sl 23 [.sl 5 [.int .u8]], (.own 3000000))]), (1, .v false [(.int .i64, .nil)]), (5, .v false [(.int .i64, .nil)])], [], [3000000]⟩
def X_l_markByteSS_2 : List (Ex × Sk) := [((.exit 0), ⟨[(0, .v false [(.sl 23 [.sl 5 [.int .u8]], (.own 3000000))]), (1, .v false [(.int .i64, .nil)])], [], [3000000]⟩)]
def Q_l_markByteSS : Loops := fun i st => cond (Nat.beq i 2) (lam K_l_markByteSS_2 3000000 X_l_markByteSS_2 B_l_markByteSS_2 st) <| .fail
theorem lp_l_markByteSS_2 : ∀ d, bod ⟨lookT tys, ctrOf C_l_markByteSS, kindOf C_l_markByteSS, 3, 4⟩ 1 Tryz.f87.ntmps Q_l_markByteSS (nthLoop Tryz.f87 0) K_l_markByteSS_2 3000000 X_l_markByteSS_2 d = B_l_markByteSS_2 d := fun d => by kernel_rfl
theorem lo_l_markByteSS_2 (cx : Cx) (hp : cx.pin.length ≤ 1) : LoopOk Tryz.prog cx Tryz.f87.ntmps Q_l_markByteSS (nthLoop Tryz.f87 0) := loop_of (cfgOk_of mixed tys_ok (show FnsOk Tryz.prog C_l_markByteSS from ⟨fn_l_markByteS, trivial⟩)) hp (all_of (by kernel_rfl : loopsOf (nthLoop Tryz.f87 0) = []) trivial) (by kernel_rfl) lp_l_markByteSS_2
theorem e_l_markByteSS : ∀ d, pcall ⟨lookT tys, ctrOf C_l_markByteSS, kindOf C_l_markByteSS, 3, 4⟩ 1 Q_l_markByteSS Tryz.f87 (.lend [1]) (mkA P_l_markByteSS d) = (T_l_markByteSS d.1 d.2.1).run fun r => some (O_l_markByteSS r) := fun d => by kernel_rfl
theorem fn_l_markByteSS : Fn Tryz.prog 87 (.lend [1]) F_l_markByteSS := fn_of (cfgOk_of mixed tys_ok (show FnsOk Tryz.prog C_l_markByteSS from ⟨fn_l_markByteS, trivial⟩)) Tryz.func87 (by kernel_rfl) (by kernel_rfl) (fun cx b hp hb => all_of (by kernel_rfl : loopsOf (Tryz.f87.body.getD .skip) = [nthLoop Tryz.f87 0]) ⟨lo_l_markByteSS_2 cx hp, trivial⟩ b hb) (R := (YI) × ((List YBs) × Unit)) (T := fun (d : aden P_l_markByteSS) => T_l_markByteSS d.1 d.2.1) e_l_markByteSS
def P_l_markJar : List (Bool × List Sh) := [(true, [.sl 5 [.int .u8]]), (false, [.int .i64])]
def O_l_markJar (r : (YI) × (YBs)) : List RV × List RV := ([rv (false, [.int .i64]) r.1], [rv (true, [.sl 5 [.int .u8]]) r.2])
def C_l_markJar : Fns := [(31, (.lend [1]), F_l_markByteS)]
def F_l_markJar : Fun1 := funV P_l_markJar (fun d => (T_l_markJar d.1 d.2.1).val) O_l_markJar
def Q_l_markJar : Loops := fun _ _ => .fail
theorem e_l_markJar : ∀ d, pcall ⟨lookT tys, ctrOf C_l_markJar, kindOf C_l_markJar, 3, 4⟩ 1 Q_l_markJar Tryz.f88 (.lend [1]) (mkA P_l_markJar d) = (T_l_markJar d.1 d.2.1).run fun r => some (O_l_markJar r) := fun d => by kernel_rfl
theorem fn_l_markJar : Fn Tryz.prog 88 (.lend [1]) F_l_markJar := fn_of (cfgOk_of mixed tys_ok (show FnsOk Tryz.prog C_l_markJar from ⟨fn_l_markByteS, trivial⟩)) Tryz.func88 (by kernel_rfl) (by kernel_rfl) (fun cx b hp hb => all_of (by kernel_rfl : loopsOf (Tryz.f88.body.getD .skip) = []) trivial b hb) (R := (YI) × (YBs)) (T := fun (d : aden P_l_markJar) => T_l_markJar d.1 d.2.1) e_l_markJar
def P_l_markDice : List (Bool × List Sh) := [(true, [.sl 5 [.int .u8], .int .i64]), (false, [.int .i64])]
def O_l_markDice (r : (YI) × (YDice)) : List RV × List RV := ([rv (false, [.int .i64]) r.1], [rv (true, [.sl 5 [.int .u8], .int .i64]) r.2])
def C_l_markDice : Fns := [(31, (.lend [1]), F_l_markByteS)]
def F_l_markDice : Fun1 := funV P_l_markDice (fun d => (T_l_markDice d.1 d.2.1).val) O_l_markDice
def Q_l_markDice : Loops := fun _ _ => .fail
theorem e_l_markDice : ∀ d, pcall ⟨lookT tys, ctrOf C_l_markDice, kindOf C_l_markDice, 3, 4⟩ 1 Q_l_markDice Tryz.f89 (.lend [1]) (mkA P_l_markDice d) = (T_l_markDice d.1 d.2.1).run fun r => some (O_l_markDice r) := fun d => by kernel_rfl
theorem fn_l_markDice : Fn Tryz.prog 89 (.lend [1]) F_l_markDice := fn_of (cfgOk_of mixed tys_ok (show FnsOk Tryz.prog C_l_markDice from ⟨fn_l_markByteS, trivial⟩)) Tryz.func89 (by kernel_rfl) (by kernel_rfl) (fun cx b hp hb => all_of (by kernel_rfl : loopsOf (Tryz.f89.body.getD .skip) = []) trivial b hb) (R := (YI) × (YDice)) (T := fun (d : aden P_l_markDice) => T_l_markDice d.1 d.2.1) e_l_markDice
def P_l_markIntS : List (Bool × List Sh) := [(false, [.sl 3 [.int .i64]]), (false, [.int .i64])]
def O_l_markIntS (r : (YI) × ((List YI) × Unit)) : List RV × List RV := ([rv (false, [.int .i64]) r.1], [rv (false, [.sl 3 [.int .i64]]) r.2])
def C_l_markIntS : Fns := []
def F_l_markIntS : Fun1 := funV P_l_markIntS (fun d => (T_l_markIntS d.1 d.2.1).val) O_l_markIntS
def K_l_markIntS_2 : Sk := ⟨[(0, .v false [(.sl 3 [.int .i64], (.own 3000000))]), (1, .v false [(.int .i64, .nil)]), (5, .v false [(.int .i64, .nil)])], [], [3000000]⟩
def X_l_markIntS_2 : List (Ex × Sk) := [((.exit 0), ⟨[(0, .v false [(.sl 3 [.int .i64], (.own 3000000))]), (1, .v false [(.int .i64, .nil)])], [], [3000000]⟩)]
def Q_l_markIntS : Loops := fun i st => cond (Nat.beq i 2) (lam K_l_markIntS_2 3000000 X_l_markIntS_2 B_l_markIntS_2 st) <| .fail
theorem lp_l_markIntS_2 : ∀ d, bod ⟨lookT tys, ctrOf C_l_markIntS, kindOf C_l_markIntS, 3, 4⟩ 1 Tryz.f262.ntmps Q_l_markIntS (nthLoop Tryz.f262 0) K_l_markIntS_2 3000000 X_l_markIntS_2 d = B_l_markIntS_2 d := fun d => by kernel_rfl
theorem lo_l_markIntS_2 (cx : Cx) (hp : cx.pin.length ≤ 1) : LoopOk Tryz.prog cx Tryz.f262.ntmps Q_l_markIntS (nthLoop Tryz.f262 0) := loop_of (cfgOk_of mixed tys_ok (show FnsOk Tryz.prog C_l_markIntS from trivial)) hp (all_of (by kernel_rfl : loopsOf (nthLoop Tryz.f262 0) = []) trivial) (by kernel_rfl) lp_l_markIntS_2
theorem e_l_markIntS : ∀ d, pcall ⟨lookT tys, ctrOf C_l_markIntS, kindOf C_l_markIntS, 3, 4⟩ 1 Q_l_markIntS Tryz.f262 (.lend [1]) (mkA P_l_markIntS d) = (T_l_markIntS d.1 d.2.1).run fun r => some (O_l_markIntS r) := fun d => by kernel_rfl
theorem fn_l_markIntS : Fn Tryz.prog 262 (.lend [1]) F_l_markIntS := fn_of (cfgOk_of mixed tys_ok (show FnsOk Tryz.prog C_l_markIntS from trivial)) Tryz.func262 (by kernel_rfl) (by kernel_rfl) (fun cx b hp hb => all_of (by kernel_rfl : loopsOf (Tryz.f262.body.getD .skip) = [nthLoop Tryz.f262 0]) ⟨lo_l_markIntS_2 cx hp, trivial⟩ b hb) (R := (YI) × ((List YI) × Unit)) (T := fun (d : aden P_l_markIntS) => T_l_markIntS d.1 d.2.1) e_l_markIntS
def P_l_markCandS : List (Bool × List Sh) := [(false, [.sl 274 h_4]), (false, [.int .i64])]
def O_l_markCandS (r : (YI) × ((List YCand) × Unit)) : List RV × List RV := ([rv (false, [.int .i64]) r.1], [rv (false, [.sl 274 h_4]) r.2])
def C_l_markCandS : Fns := [(31, (.lend [1]), F_l_markByteS)]
def F_l_markCandS : Fun1 := funV P_l_markCandS (fun d => (T_l_markCandS d.1 d.2.1).val) O_l_markCandS
def K_l_markCandS_2 : Sk := ⟨[(0, .v false [(.sl 274 h_4, (.own 3000000))]), (1, .v false [(.int .i64, .nil)]), (5, .v false [(.int .i64, .nil)])], [], [3000000]⟩
def X_l_markCandS_2 : List (Ex × Sk) := [((.exit 0), ⟨[(0, .v false [(.sl 274 h_4, (.own 3000000))]), (1, .v false [(.int .i64, .nil)])], [], [3000000]⟩)]
def Q_l_markCandS : Loops := fun i st => cond (Nat.beq i 2) (lam K_l_markCandS_2 3000000 X_l_markCandS_2 B_l_markCandS_2 st) <| .fail
theorem lp_l_markCandS_2 : ∀ d, bod ⟨lookT tys, ctrOf C_l_markCandS, kindOf C_l_markCandS, 3, 4⟩ 1 Tryz.f226.ntmps Q_l_markCandS (nthLoop Tryz.f226 0) K_l_markCandS_2 3000000 X_l_markCandS_2 d = B_l_markCandS_2 d := fun d => by kernel_rfl
theorem lo_l_markCandS_2 (cx : Cx) (hp : cx.pin.length ≤ 1) : LoopOk Tryz.prog cx Tryz.f226.ntmps Q_l_markCandS (nthLoop Tryz.f226 0) := loop_of (cfgOk_of mixed tys_ok (show FnsOk Tryz.prog C_l_markCandS from ⟨fn_l_markByteS, trivial⟩)) hp (all_of (by kernel_rfl : loopsOf (nthLoop Tryz.f226 0) = []) trivial) (by kernel_rfl) lp_l_markCandS_2
theorem e_l_markCandS : ∀ d, pcall ⟨lookT tys, ctrOf C_l_markCandS, kindOf C_l_markCandS, 3, 4⟩ 1 Q_l_markCandS Tryz.f226 (.lend [1]) (mkA P_l_markCandS d) = (T_l_markCandS d.1 d.2.1).run fun r => some (O_l_markCandS r) := fun d => by kernel_rfl
theorem fn_l_markCandS : Fn Tryz.prog 226 (.lend [1]) F_l_markCandS := fn_of (cfgOk_of mixed tys_ok (show FnsOk Tryz.prog C_l_markCandS from ⟨fn_l_markByteS, trivial⟩)) Tryz.func226 (by kernel_rfl) (by kernel_rfl) (fun cx b hp hb => all_of (by kernel_rfl : loopsOf (Tryz.f226.body.getD .skip) = [nthLoop Tryz.f226 0]) ⟨lo_l_markCandS_2 cx hp, trivial⟩ b hb) (R := (YI) × ((List YCand) × Unit)) (T := fun (d : aden P_l_markCandS) => T_l_markCandS d.1 d.2.1) e_l_markCandS
def P_l_markSessS : List (Bool × List Sh) := [(false, [.sl 100 h_13]), (false, [.int .i64])]
def O_l_markSessS (r : (YI) × ((List YSess) × Unit)) : List RV × List RV := ([rv (false, [.int .i64]) r.1], [rv (false, [.sl 100 h_13]) r.2])
def C_l_markSessS : Fns := [(31, (.lend [1]), F_l_markByteS), (262, (.lend [1]), F_l_markIntS), (226, (.lend [1]), F_l_markCandS)]
def F_l_markSessS : Fun1 := funV P_l_markSessS (fun d => (T_l_markSessS d.1 d.2.1).val) O_l_markSessS
def K_l_markSessS_2 : Sk := ⟨[(0, .v false [(.sl 100 h_13, (.own 3000000))]), (1, .v false [(.int .i64, .nil)]), (5, .v false [(.int .i64, .nil)])], [], [3000000]⟩
def X_l_markSessS_2 : List (Ex × Sk) := [((.exit 0), ⟨[(0, .v false [(.sl 100 h_13, (.own 3000000))]), (1, .v false [(.int .i64, .nil)])], [], [3000000]⟩)]
def Q_l_markSessS : Loops := fun i st => cond (Nat.beq i 2) (lam K_l_markSessS_2 3000000 X_l_markSessS_2 B_l_markSessS_2 st) <| .fail
theorem lp_l_markSessS_2 : ∀ d, bod ⟨lookT tys, ctrOf C_l_markSessS, kindOf C_l_markSessS, 3, 4⟩ 1 Tryz.f193.ntmps Q_l_markSessS (nthLoop Tryz.f193 0) K_l_markSessS_2 3000000 X_l_markSessS_2 d = B_l_markSessS_2 d := fun d => by kernel_rfl
theorem lo_l_markSessS_2 (cx : Cx) (hp : cx.pin.length ≤ 1) : LoopOk Tryz.prog cx Tryz.f193.ntmps Q_l_markSessS (nthLoop Tryz.f193 0) := loop_of (cfgOk_of mixed tys_ok (show FnsOk Tryz.prog C_l_markSessS from ⟨fn_l_markByteS, fn_l_markIntS, fn_l_markCandS, trivial⟩)) hp (all_of (by kernel_rfl : loopsOf (nthLoop Tryz.f193 0) = []) trivial) (by kernel_rfl) lp_l_markSessS_2
theorem e_l_markSessS : ∀ d, pcall ⟨lookT tys, ctrOf C_l_markSessS, kindOf C_l_markSessS, 3, 4⟩ 1 Q_l_markSessS Tryz.f193 (.lend [1]) (mkA P_l_markSessS d) = (T_l_markSessS d.1 d.2.1).run fun r => some (O_l_markSessS r) := fun d => by kernel_rfl
theorem fn_l_markSessS : Fn Tryz.prog 193 (.lend [1]) F_l_markSessS := fn_of (cfgOk_of mixed tys_ok (show FnsOk Tryz.prog C_l_markSessS from ⟨fn_l_markByteS, fn_l_markIntS, fn_l_markCandS, trivial⟩)) Tryz.func193 (by kernel_rfl) (by kernel_rfl) (fun cx b hp hb => all_of (by kernel_rfl : loopsOf (Tryz.f193.body.getD .skip) = [nthLoop Tryz.f193 0]) ⟨lo_l_markSessS_2 cx hp, trivial⟩ b hb) (R := (YI) × ((List YSess) × Unit)) (T := fun (d : aden P_l_markSessS) => T_l_markSessS d.1 d.2.1) e_l_markSessS
def P_l_markTab : List (Bool × List Sh) := [(true, [.int .i64, .sl 100 h_13]), (false, [.int .i64])]
def O_l_markTab (r : (YI) × (YTab)) : List RV × List RV := ([rv (false, [.int .i64]) r.1], [rv (true, [.int .i64, .sl 100 h_13]) r.2])
def C_l_markTab : Fns := [(193, (.lend [1]), F_l_markSessS)]
def F_l_markTab : Fun1 := funV P_l_markTab (fun d => (T_l_markTab d.1 d.2.1).val) O_l_markTab
def Q_l_markTab : Loops := fun _ _ => .fail
theorem e_l_markTab : ∀ d, pcall ⟨lookT tys, ctrOf C_l_markTab, kindOf C_l_markTab, 3, 4⟩ 1 Q_l_markTab Tryz.f90 (.lend [1]) (mkA P_l_markTab d) = (T_l_markTab d.1 d.2.1).run fun r => some (O_l_markTab r) := fun d => by kernel_rfl
theorem fn_l_markTab : Fn Tryz.prog 90 (.lend [1]) F_l_markTab := fn_of (cfgOk_of mixed tys_ok (show FnsOk Tryz.prog C_l_markTab from ⟨fn_l_markSessS, trivial⟩)) Tryz.func90 (by kernel_rfl) (by kernel_rfl) (fun cx b hp hb => all_of (by kernel_rfl : loopsOf (Tryz.f90.body.getD .skip) = []) trivial b hb) (R := (YI) × (YTab)) (T := fun (d : aden P_l_markTab) => T_l_markTab d.1 d.2.1) e_l_markTab
def P_l_markCreditS : List (Bool × List Sh) := [(false, [.sl 218 h_2]), (false, [.int .i64])]
def O_l_markCreditS (r : (YI) × ((List YCredit) × Unit)) : List RV × List RV := ([rv (false, [.int .i64]) r.1], [rv (false, [.sl 218 h_2]) r.2])
def C_l_markCreditS : Fns := []
def F_l_markCreditS : Fun1 := funV P_l_markCreditS (fun d => (T_l_markCreditS d.1 d.2.1).val) O_l_markCreditS
def K_l_markCreditS_2 : Sk := ⟨[(0, .v false [(.sl 218 h_2, (.own 3000000))]), (1, .v false [(.int .i64, .nil)]), (5, .v false [(.int .i64, .nil)])], [], [3000000]⟩
def X_l_markCreditS_2 : List (Ex × Sk) := [((.exit 0), ⟨[(0, .v false [(.sl 218 h_2, (.own 3000000))]), (1, .v false [(.int .i64, .nil)])], [], [3000000]⟩)]
def Q_l_markCreditS : Loops := fun i st => cond (Nat.beq i 2) (lam K_l_markCreditS_2 3000000 X_l_markCreditS_2 B_l_markCreditS_2 st) <| .fail
theorem lp_l_markCreditS_2 : ∀ d, bod ⟨lookT tys, ctrOf C_l_markCreditS, kindOf C_l_markCreditS, 3, 4⟩ 1 Tryz.f91.ntmps Q_l_markCreditS (nthLoop Tryz.f91 0) K_l_markCreditS_2 3000000 X_l_markCreditS_2 d = B_l_markCreditS_2 d := fun d => by kernel_rfl
theorem lo_l_markCreditS_2 (cx : Cx) (hp : cx.pin.length ≤ 1) : LoopOk Tryz.prog cx Tryz.f91.ntmps Q_l_markCreditS (nthLoop Tryz.f91 0) := loop_of (cfgOk_of mixed tys_ok (show FnsOk Tryz.prog C_l_markCreditS from trivial)) hp (all_of (by kernel_rfl : loopsOf (nthLoop Tryz.f91 0) = []) trivial) (by kernel_rfl) lp_l_markCreditS_2
theorem e_l_markCreditS : ∀ d, pcall ⟨lookT tys, ctrOf C_l_markCreditS, kindOf C_l_markCreditS, 3, 4⟩ 1 Q_l_markCreditS Tryz.f91 (.lend [1]) (mkA P_l_markCreditS d) = (T_l_markCreditS d.1 d.2.1).run fun r => some (O_l_markCreditS r) := fun d => by kernel_rfl
theorem fn_l_markCreditS : Fn Tryz.prog 91 (.lend [1]) F_l_markCreditS := fn_of (cfgOk_of mixed tys_ok (show FnsOk Tryz.prog C_l_markCreditS from trivial)) Tryz.func91 (by kernel_rfl) (by kernel_rfl) (fun cx b hp hb => all_of (by kernel_rfl : loopsOf (Tryz.f91.body.getD .skip) = [nthLoop Tryz.f91 0]) ⟨lo_l_markCreditS_2 cx hp, trivial⟩ b hb) (R := (YI) × ((List YCredit) × Unit)) (T := fun (d : aden P_l_markCreditS) => T_l_markCreditS d.1 d.2.1) e_l_markCreditS
def P_l_markServer : List (Bool × List Sh) := [(true, h_15), (false, [.int .i64])]
def O_l_markServer (r : (YI) × (YServer)) : List RV × List RV := ([rv (false, [.int .i64]) r.1], [rv (true, h_15) r.2])
def C_l_markServer : Fns := [(87, (.lend [1]), F_l_markByteSS), (88, (.lend [1]), F_l_markJar), (89, (.lend [1]), F_l_markDice), (90, (.lend [1]), F_l_markTab), (91, (.lend [1]), F_l_markCreditS)]
def F_l_markServer : Fun1 := funV P_l_markServer (fun d => (T_l_markServer d.1 d.2.1).val) O_l_markServer
def Q_l_markServer : Loops := fun _ _ => .fail
theorem e_l_markServer : ∀ d, pcall ⟨lookT tys, ctrOf C_l_markServer, kindOf C_l_markServer, 3, 4⟩ 1 Q_l_markServer Tryz.f18 (.lend [1]) (mkA P_l_markServer d) = (T_l_markServer d.1 d.2.1).run fun r => some (O_l_markServer r) := fun d => by kernel_rfl
theorem fn_l_markServer : Fn Tryz.prog 18 (.lend [1]) F_l_markServer := fn_of (cfgOk_of mixed tys_ok (show FnsOk Tryz.prog C_l_markServer from ⟨fn_l_markByteSS, fn_l_markJar, fn_l_markDice, fn_l_markTab, fn_l_markCreditS, trivial⟩)) Tryz.func18 (by kernel_rfl) (by kernel_rfl) (fun cx b hp hb => all_of (by kernel_rfl : loopsOf (Tryz.f18.body.getD .skip) = []) trivial b hb) (R := (YI) × (YServer)) (T := fun (d : aden P_l_markServer) => T_l_markServer d.1 d.2.1) e_l_markServer
def P_l_markNoteS : List (Bool × List Sh) := [(false, [.sl 139 h_8]), (false, [.int .i64])]
def O_l_markNoteS (r : (YI) × ((List YNote) × Unit)) : List RV × List RV := ([rv (false, [.int .i64]) r.1], [rv (false, [.sl 139 h_8]) r.2])
def C_l_markNoteS : Fns := [(31, (.lend [1]), F_l_markByteS)]
def F_l_markNoteS : Fun1 := funV P_l_markNoteS (fun d => (T_l_markNoteS d.1 d.2.1).val) O_l_markNoteS
def K_l_markNoteS_2 : Sk := ⟨[(0, .v false [(.sl 139 h_8, (.own 3000000))]), (1, .v false [(.int .i64, .nil)]), (5, .v false [(.int .i64, .nil)])], [], [3000000]⟩
def X_l_markNoteS_2 : List (Ex × Sk) := [((.exit 0), ⟨[(0, .v false [(.sl 139 h_8, (.own 3000000))]), (1, .v false [(.int .i64, .nil)])], [], [3000000]⟩)]
def Q_l_markNoteS : Loops := fun i st => cond (Nat.beq i 2) (lam K_l_markNoteS_2 3000000 X_l_markNoteS_2 B_l_markNoteS_2 st) <| .fail
theorem lp_l_markNoteS_2 : ∀ d, bod ⟨lookT tys, ctrOf C_l_markNoteS, kindOf C_l_markNoteS, 3, 4⟩ 1 Tryz.f19.ntmps Q_l_markNoteS (nthLoop Tryz.f19 0) K_l_markNoteS_2 3000000 X_l_markNoteS_2 d = B_l_markNoteS_2 d := fun d => by kernel_rfl
theorem lo_l_markNoteS_2 (cx : Cx) (hp : cx.pin.length ≤ 1) : LoopOk Tryz.prog cx Tryz.f19.ntmps Q_l_markNoteS (nthLoop Tryz.f19 0) := loop_of (cfgOk_of mixed tys_ok (show FnsOk Tryz.prog C_l_markNoteS from ⟨fn_l_markByteS, trivial⟩)) hp (all_of (by kernel_rfl : loopsOf (nthLoop Tryz.f19 0) = []) trivial) (by kernel_rfl) lp_l_markNoteS_2
theorem e_l_markNoteS : ∀ d, pcall ⟨lookT tys, ctrOf C_l_markNoteS, kindOf C_l_markNoteS, 3, 4⟩ 1 Q_l_markNoteS Tryz.f19 (.lend [1]) (mkA P_l_markNoteS d) = (T_l_markNoteS d.1 d.2.1).run fun r => some (O_l_markNoteS r) := fun d => by kernel_rfl
theorem fn_l_markNoteS : Fn Tryz.prog 19 (.lend [1]) F_l_markNoteS := fn_of (cfgOk_of mixed tys_ok (show FnsOk Tryz.prog C_l_markNoteS from ⟨fn_l_markByteS, trivial⟩)) Tryz.func19 (by kernel_rfl) (by kernel_rfl) (fun cx b hp hb => all_of (by kernel_rfl : loopsOf (Tryz.f19.body.getD .skip) = [nthLoop Tryz.f19 0]) ⟨lo_l_markNoteS_2 cx hp, trivial⟩ b hb) (R := (YI) × ((List YNote) × Unit)) (T := fun (d : aden P_l_markNoteS) => T_l_markNoteS d.1 d.2.1) e_l_markNoteS
def P_l_heldByteS : List (Bool × List Sh) := [(false, [.sl 5 [.int .u8]]), (false, [.int .i64])]
def O_l_heldByteS (r : (YI)) : List RV × List RV := ([rv (false, [.int .i64]) r], [])
def C_l_heldByteS : Fns := []
def F_l_heldByteS : Fun1 := funV P_l_heldByteS (fun d => (T_l_heldByteS d.1 d.2.1).val) O_l_heldByteS
def K_l_heldByteS_2 : Sk := ⟨[(0, .v false [(.sl 5 [.int .u8], .ro)]), (1, .v false [(.int .i64, .nil)]), (5, .v false [(.int .i64, .nil)])], [], []⟩
def X_l_heldByteS_2 : List (Ex × Sk) := [(.ret, ⟨[(4, .v false [(.int .i64, .nil)])], [], []⟩), ((.exit 0), ⟨[(1, .v false [(.int .i64, .nil)])], [], []⟩)]
def Q_l_heldByteS : Loops := fun i st => cond (Nat.beq i 2) (lam K_l_heldByteS_2 3000000 X_l_heldByteS_2 B_l_heldByteS_2 st) <| .fail
theorem lp_l_heldByteS_2 : ∀ d, bod ⟨lookT tys, ctrOf C_l_heldByteS, kindOf C_l_heldByteS, 3, 4⟩ 0 Tryz.f97.ntmps Q_l_heldByteS (nthLoop Tryz.f97 0) K_l_heldByteS_2 3000000 X_l_heldByteS_2 d = B_l_heldByteS_2 d := fun d => by kernel_rfl
theorem lo_l_heldByteS_2 (cx : Cx) (hp : cx.pin.length ≤ 0) : LoopOk Tryz.prog cx Tryz.f97.ntmps Q_l_heldByteS (nthLoop Tryz.f97 0) := loop_of (cfgOk_of mixed tys_ok (show FnsOk Tryz.prog C_l_heldByteS from trivial)) hp (all_of (by kernel_rfl : loopsOf (nthLoop Tryz.f97 0) = []) trivial) (by kernel_rfl) lp_l_heldByteS_2
theorem e_l_heldByteS : ∀ d, pcall ⟨lookT tys, ctrOf C_l_heldByteS, kindOf C_l_heldByteS, 3, 4⟩ 0 Q_l_heldByteS Tryz.f97 .plain (mkA P_l_heldByteS d) = (T_l_heldByteS d.1 d.2.1).run fun r => some (O_l_heldByteS r) := fun d => by kernel_rfl
theorem fn_l_heldByteS : Fn Tryz.prog 97 .plain F_l_heldByteS := fn_of (cfgOk_of mixed tys_ok (show FnsOk Tryz.prog C_l_heldByteS from trivial)) Tryz.func97 (by kernel_rfl) (by kernel_rfl) (fun cx b hp hb => all_of (by kernel_rfl : loopsOf (Tryz.f97.body.getD .skip) = [nthLoop Tryz.f97 0]) ⟨lo_l_heldByteS_2 cx hp, trivial⟩ b hb) (R := (YI)) (T := fun (d : aden P_l_heldByteS) => T_l_heldByteS d.1 d.2.1) e_l_heldByteS
def P_l_heldByteSS : List (Bool × List Sh) := [(false, [.sl 23 [.sl 5 [.int .u8]]]), (false, [.int .i64])]
def O_l_heldByteSS (r : (YI)) : List RV × List RV := ([rv (false, [.int .i64]) r], [])
def C_l_heldByteSS : Fns := [(97, .plain, F_l_heldByteS)]
def F_l_heldByteSS : Fun1 := funV P_l_heldByteSS (fun d => (T_l_heldByteSS d.1 d.2.1).val) O_l_heldByteSS
def K_l_heldByteSS_2 : Sk := ⟨[(0, .v false [(.sl 23 [.sl 5 [.int .u8]], .ro)]), (1, .v false [(.int .i64, .nil)]), (5, .v false [(.int .i64, .nil)])], [], []⟩
def X_l_heldByteSS_2 : List (Ex × Sk) := [(.ret, ⟨[(4, .v false [(.int .i64, .nil)])], [], []⟩), ((.exit 0), ⟨[(1, .v false [(.int .i64, .nil)])], [], []⟩)]
def Q_l_heldByteSS : Loops := fun i st => cond (Nat.beq i 2) (lam K_l_heldByteSS_2 3000000 X_l_heldByteSS_2 B_l_heldByteSS_2 st) <| .fail
theorem lp_l_heldByteSS_2 : ∀ d, bod ⟨lookT tys, ctrOf C_l_heldByteSS, kindOf C_l_heldByteSS, 3, 4⟩ 0 Tryz.f92.ntmps Q_l_heldByteSS (nthLoop Tryz.f92 0) K_l_heldByteSS_2 3000000 X_l_heldByteSS_2 d = B_l_heldByteSS_2 d := fun d => by kernel_rfl
theorem lo_l_heldByteSS_2 (cx : Cx) (hp : cx.pin.length ≤ 0) : LoopOk Tryz.prog cx Tryz.f92.ntmps Q_l_heldByteSS (nthLoop Tryz.f92 0) := loop_of (cfgOk_of mixed tys_ok (show FnsOk Tryz.prog C_l_heldByteSS from ⟨fn_l_heldByteS, trivial⟩)) hp (all_of (by kernel_rfl : loopsOf (nthLoop Tryz.f92 0) = []) trivial) (by kernel_rfl) lp_l_heldByteSS_2
theorem e_l_heldByteSS : ∀ d, pcall ⟨lookT tys, ctrOf C_l_heldByteSS, kindOf C_l_heldByteSS, 3, 4⟩ 0 Q_l_heldByteSS Tryz.f92 .plain (mkA P_l_heldByteSS d) = (T_l_heldByteSS d.1 d.2.1).run fun r => some (O_l_heldByteSS r) := fun d => by kernel_rfl
theorem fn_l_heldByteSS : Fn Tryz.prog 92 .plain F_l_heldByteSS := fn_of (cfgOk_of mixed tys_ok (show FnsOk Tryz.prog C_l_heldByteSS from ⟨fn_l_heldByteS, trivial⟩)) Tryz.func92 (by kernel_rfl) (by kernel_rfl) (fun cx b hp hb => all_of (by kernel_rfl : loopsOf (Tryz.f92.body.getD .skip) = [nthLoop Tryz.f92 0]) ⟨lo_l_heldByteSS_2 cx hp, trivial⟩ b hb) (R := (YI)) (T := fun (d : aden P_l_heldByteSS) => T_l_heldByteSS d.1 d.2.1) e_l_heldByteSS
def P_l_heldJar : List (Bool × List Sh) := [(true, [.sl 5 [.int .u8]]), (false, [.int .i64])]
def O_l_heldJar (r : (YI)) : List RV × List RV := ([rv (false, [.int .i64]) r], [])
def C_l_heldJar : Fns := [(97, .plain, F_l_heldByteS)]
def F_l_heldJar : Fun1 := funV P_l_heldJar (fun d => (T_l_heldJar d.1 d.2.1).val) O_l_heldJar
def Q_l_heldJar : Loops := fun _ _ => .fail
theorem e_l_heldJar : ∀ d, pcall ⟨lookT tys, ctrOf C_l_heldJar, kindOf C_l_heldJar, 3, 4⟩ 0 Q_l_heldJar Tryz.f93 .plain (mkA P_l_heldJar d) = (T_l_heldJar d.1 d.2.1).run fun r => some (O_l_heldJar r) := fun d => by kernel_rfl
theorem fn_l_heldJar : Fn Tryz.prog 93 .plain F_l_heldJar := fn_of (cfgOk_of mixed tys_ok (show FnsOk Tryz.prog C_l_heldJar from ⟨fn_l_heldByteS, trivial⟩)) Tryz.func93 (by kernel_rfl) (by kernel_rfl) (fun cx b hp hb => all_of (by kernel_rfl : loopsOf (Tryz.f93.body.getD .skip) = []) trivial b hb) (R := (YI)) (T := fun (d : aden P_l_heldJar) => T_l_heldJar d.1 d.2.1) e_l_heldJar
def P_l_heldDice : List (Bool × List Sh) := [(true, [.sl 5 [.int .u8], .int .i64]), (false, [.int .i64])]
def O_l_heldDice (r : (YI)) : List RV × List RV := ([rv (false, [.int .i64]) r], [])
def C_l_heldDice : Fns := [(97, .plain, F_l_heldByteS)]
def F_l_heldDice : Fun1 := funV P_l_heldDice (fun d => (T_l_heldDice d.1 d.2.1).val) O_l_heldDice
def Q_l_heldDice : Loops := fun _ _ => .fail
theorem e_l_heldDice : ∀ d, pcall ⟨lookT tys, ctrOf C_l_heldDice, kindOf C_l_heldDice, 3, 4⟩ 0 Q_l_heldDice Tryz.f94 .plain (mkA P_l_heldDice d) = (T_l_heldDice d.1 d.2.1).run fun r => some (O_l_heldDice r) := fun d => by kernel_rfl
theorem fn_l_heldDice : Fn Tryz.prog 94 .plain F_l_heldDice := fn_of (cfgOk_of mixed tys_ok (show FnsOk Tryz.prog C_l_heldDice from ⟨fn_l_heldByteS, trivial⟩)) Tryz.func94 (by kernel_rfl) (by kernel_rfl) (fun cx b hp hb => all_of (by kernel_rfl : loopsOf (Tryz.f94.body.getD .skip) = []) trivial b hb) (R := (YI)) (T := fun (d : aden P_l_heldDice) => T_l_heldDice d.1 d.2.1) e_l_heldDice
def P_l_heldIntS : List (Bool × List Sh) := [(false, [.sl 3 [.int .i64]]), (false, [.int .i64])]
def O_l_heldIntS (r : (YI)) : List RV × List RV := ([rv (false, [.int .i64]) r], [])
def C_l_heldIntS : Fns := []
def F_l_heldIntS : Fun1 := funV P_l_heldIntS (fun d => (T_l_heldIntS d.1 d.2.1).val) O_l_heldIntS
def K_l_heldIntS_2 : Sk := ⟨[(0, .v false [(.sl 3 [.int .i64], .ro)]), (1, .v false [(.int .i64, .nil)]), (5, .v false [(.int .i64, .nil)])], [], []⟩
def X_l_heldIntS_2 : List (Ex × Sk) := [(.ret, ⟨[(4, .v false [(.int .i64, .nil)])], [], []⟩), ((.exit 0), ⟨[(1, .v false [(.int .i64, .nil)])], [], []⟩)]
def Q_l_heldIntS : Loops := fun i st => cond (Nat.beq i 2) (lam K_l_heldIntS_2 3000000 X_l_heldIntS_2 B_l_heldIntS_2 st) <| .fail
theorem lp_l_heldIntS_2 : ∀ d, bod ⟨lookT tys, ctrOf C_l_heldIntS, kindOf C_l_heldIntS, 3, 4⟩ 0 Tryz.f263.ntmps Q_l_heldIntS (nthLoop Tryz.f263 0) K_l_heldIntS_2 3000000 X_l_heldIntS_2 d = B_l_heldIntS_2 d := fun d => by kernel_rfl
theorem lo_l_heldIntS_2 (cx : Cx) (hp : cx.pin.length ≤ 0) : LoopOk Tryz.prog cx Tryz.f263.ntmps Q_l_heldIntS (nthLoop Tryz.f263 0) := loop_of (cfgOk_of mixed tys_ok (show FnsOk Tryz.prog C_l_heldIntS from trivial)) hp (all_of (by kernel_rfl : loopsOf (nthLoop Tryz.f263 0) = []) trivial) (by kernel_rfl) lp_l_heldIntS_2
theorem e_l_heldIntS : ∀ d, pcall ⟨lookT tys, ctrOf C_l_heldIntS, kindOf C_l_heldIntS, 3, 4⟩ 0 Q_l_heldIntS Tryz.f263 .plain (mkA P_l_heldIntS d) = (T_l_heldIntS d.1 d.2.1).run fun r => some (O_l_heldIntS r) := fun d => by kernel_rfl
theorem fn_l_heldIntS : Fn Tryz.prog 263 .plain F_l_heldIntS := fn_of (cfgOk_of mixed tys_ok (show FnsOk Tryz.prog C_l_heldIntS from trivial)) Tryz.func263 (by kernel_rfl) (by kernel_rfl) (fun cx b hp hb => all_of (by kernel_rfl : loopsOf (Tryz.f263.body.getD .skip) = [nthLoop Tryz.f263 0]) ⟨lo_l_heldIntS_2 cx hp, trivial⟩ b hb) (R := (YI)) (T := fun (d : aden P_l_heldIntS) => T_l_heldIntS d.1 d.2.1) e_l_heldIntS
def P_l_heldCandS : List (Bool × List Sh) := [(false, [.sl 274 h_4]), (false, [.int .i64])]
def O_l_heldCandS (r : (YI)) : List RV × List RV := ([rv (false, [.int .i64]) r], [])
def C_l_heldCandS : Fns := [(97, .plain, F_l_heldByteS)]
def F_l_heldCandS : Fun1 := funV P_l_heldCandS (fun d => (T_l_heldCandS d.1 d.2.1).val) O_l_heldCandS
def K_l_heldCandS_2 : Sk := ⟨[(0, .v false [(.sl 274 h_4, .ro)]), (1, .v false [(.int .i64, .nil)]), (5, .v false [(.int .i64, .nil)])], [], []⟩
def X_l_heldCandS_2 : List (Ex × Sk) := [(.ret, ⟨[(4, .v false [(.int .i64, .nil)])], [], []⟩), ((.exit 0), ⟨[(1, .v false [(.int .i64, .nil)])], [], []⟩)]
def Q_l_heldCandS : Loops := fun i st => cond (Nat.beq i 2) (lam K_l_heldCandS_2 3000000 X_l_heldCandS_2 B_l_heldCandS_2 st) <| .fail
theorem lp_l_heldCandS_2 : ∀ d, bod ⟨lookT tys, ctrOf C_l_heldCandS, kindOf C_l_heldCandS, 3, 4⟩ 0 Tryz.f227.ntmps Q_l_heldCandS (nthLoop Tryz.f227 0) K_l_heldCandS_2 3000000 X_l_heldCandS_2 d = B_l_heldCandS_2 d := fun d => by kernel_rfl
theorem lo_l_heldCandS_2 (cx : Cx) (hp : cx.pin.length ≤ 0) : LoopOk Tryz.prog cx Tryz.f227.ntmps Q_l_heldCandS (nthLoop Tryz.f227 0) := loop_of (cfgOk_of mixed tys_ok (show FnsOk Tryz.prog C_l_heldCandS from ⟨fn_l_heldByteS, trivial⟩)) hp (all_of (by kernel_rfl : loopsOf (nthLoop Tryz.f227 0) = []) trivial) (by kernel_rfl) lp_l_heldCandS_2
theorem e_l_heldCandS : ∀ d, pcall ⟨lookT tys, ctrOf C_l_heldCandS, kindOf C_l_heldCandS, 3, 4⟩ 0 Q_l_heldCandS Tryz.f227 .plain (mkA P_l_heldCandS d) = (T_l_heldCandS d.1 d.2.1).run fun r => some (O_l_heldCandS r) := fun d => by kernel_rfl
theorem fn_l_heldCandS : Fn Tryz.prog 227 .plain F_l_heldCandS := fn_of (cfgOk_of mixed tys_ok (show FnsOk Tryz.prog C_l_heldCandS from ⟨fn_l_heldByteS, trivial⟩)) Tryz.func227 (by kernel_rfl) (by kernel_rfl) (fun cx b hp hb => all_of (by kernel_rfl : loopsOf (Tryz.f227.body.getD .skip) = [nthLoop Tryz.f227 0]) ⟨lo_l_heldCandS_2 cx hp, trivial⟩ b hb) (R := (YI)) (T := fun (d : aden P_l_heldCandS) => T_l_heldCandS d.1 d.2.1) e_l_heldCandS
def P_l_heldSessS : List (Bool × List Sh) := [(false, [.sl 100 h_13]), (false, [.int .i64])]
def O_l_heldSessS (r : (YI)) : List RV × List RV := ([rv (false, [.int .i64]) r], [])
def C_l_heldSessS : Fns := [(97, .plain, F_l_heldByteS), (263, .plain, F_l_heldIntS), (227, .plain, F_l_heldCandS)]
def F_l_heldSessS : Fun1 := funV P_l_heldSessS (fun d => (T_l_heldSessS d.1 d.2.1).val) O_l_heldSessS
def K_l_heldSessS_2 : Sk := ⟨[(0, .v false [(.sl 100 h_13, .ro)]), (1, .v false [(.int .i64, .nil)]), (5, .v false [(.int .i64, .nil)])], [], []⟩
def X_l_heldSessS_2 : List (Ex × Sk) := [(.ret, ⟨[(4, .v false [(.int .i64, .nil)])], [], []⟩), ((.exit 0), ⟨[(1, .v false [(.int .i64, .nil)])], [], []⟩)]
def Q_l_heldSessS : Loops := fun i st => cond (Nat.beq i 2) (lam K_l_heldSessS_2 3000000 X_l_heldSessS_2 B_l_heldSessS_2 st) <| .fail
theorem lp_l_heldSessS_2 : ∀ d, bod ⟨lookT tys, ctrOf C_l_heldSessS, kindOf C_l_heldSessS, 3, 4⟩ 0 Tryz.f194.ntmps Q_l_heldSessS (nthLoop Tryz.f194 0) K_l_heldSessS_2 3000000 X_l_heldSessS_2 d = B_l_heldSessS_2 d := fun d => by kernel_rfl
theorem lo_l_heldSessS_2 (cx : Cx) (hp : cx.pin.length ≤ 0) : LoopOk Tryz.prog cx Tryz.f194.ntmps Q_l_heldSessS (nthLoop Tryz.f194 0) := loop_of (cfgOk_of mixed tys_ok (show FnsOk Tryz.prog C_l_heldSessS from ⟨fn_l_heldByteS, fn_l_heldIntS, fn_l_heldCandS, trivial⟩)) hp (all_of (by kernel_rfl : loopsOf (nthLoop Tryz.f194 0) = []) trivial) (by kernel_rfl) lp_l_heldSessS_2
theorem e_l_heldSessS : ∀ d, pcall ⟨lookT tys, ctrOf C_l_heldSessS, kindOf C_l_heldSessS, 3, 4⟩ 0 Q_l_heldSessS Tryz.f194 .plain (mkA P_l_heldSessS d) = (T_l_heldSessS d.1 d.2.1).run fun r => some (O_l_heldSessS r) := fun d => by kernel_rfl
theorem fn_l_heldSessS : Fn Tryz.prog 194 .plain F_l_heldSessS := fn_of (cfgOk_of mixed tys_ok (show FnsOk Tryz.prog C_l_heldSessS from ⟨fn_l_heldByteS, fn_l_heldIntS, fn_l_heldCandS, trivial⟩)) Tryz.func194 (by kernel_rfl) (by kernel_rfl) (fun cx b hp hb => all_of (by kernel_rfl : loopsOf (Tryz.f194.body.getD .skip) = [nthLoop Tryz.f194 0]) ⟨lo_l_heldSessS_2 cx hp, trivial⟩ b hb) (R := (YI)) (T := fun (d : aden P_l_heldSessS) => T_l_heldSessS d.1 d.2.1) e_l_heldSessS
def P_l_heldTab : List (Bool × List Sh) := [(true, [.int .i64, .sl 100 h_13]), (false, [.int .i64])]
def O_l_heldTab (r : (YI)) : List RV × List RV := ([rv (false, [.int .i64]) r], [])
def C_l_heldTab : Fns := [(194, .plain, F_l_heldSessS)]
def F_l_heldTab : Fun1 := funV P_l_heldTab (fun d => (T_l_heldTab d.1 d.2.1).val) O_l_heldTab
def Q_l_heldTab : Loops := fun _ _ => .fail
theorem e_l_heldTab : ∀ d, pcall ⟨lookT tys, ctrOf C_l_heldTab, kindOf C_l_heldTab, 3, 4⟩ 0 Q_l_heldTab Tryz.f95 .plain (mkA P_l_heldTab d) = (T_l_heldTab d.1 d.2.1).run fun r => some (O_l_heldTab r) := fun d => by kernel_rfl
theorem fn_l_heldTab : Fn Tryz.prog 95 .plain F_l_heldTab := fn_of (cfgOk_of mixed tys_ok (show FnsOk Tryz.prog C_l_heldTab from ⟨fn_l_heldSessS, trivial⟩)) Tryz.func95 (by kernel_rfl) (by kernel_rfl) (fun cx b hp hb => all_of (by kernel_rfl : loopsOf (Tryz.f95.body.getD .skip) = []) trivial b hb) (R := (YI)) (T := fun (d : aden P_l_heldTab) => T_l_heldTab d.1 d.2.1) e_l_heldTab
def P_l_heldCreditS : List (Bool × List Sh) := [(false, [.sl 218 h_2]), (false, [.int .i64])]
def O_l_heldCreditS (r : (YI)) : List RV × List RV := ([rv (false, [.int .i64]) r], [])
def C_l_heldCreditS : Fns := []
def F_l_heldCreditS : Fun1 := funV P_l_heldCreditS (fun d => (T_l_heldCreditS d.1 d.2.1).val) O_l_heldCreditS
def K_l_heldCreditS_2 : Sk := ⟨[(0, .v false [(.sl 218 h_2, .ro)]), (1, .v false [(.int .i64, .nil)]), (5, .v false [(.int .i64, .nil)])], [], []⟩
def X_l_heldCreditS_2 : List (Ex × Sk) := [(.ret, ⟨[(4, .v false [(.int .i64, .nil)])], [], []⟩), ((.exit 0), ⟨[(1, .v false [(.int .i64, .nil)])], [], []⟩)]
def Q_l_heldCreditS : Loops := fun i st => cond (Nat.beq i 2) (lam K_l_heldCreditS_2 3000000 X_l_heldCreditS_2 B_l_heldCreditS_2 st) <| .fail
theorem lp_l_heldCreditS_2 : ∀ d, bod ⟨lookT tys, ctrOf C_l_heldCreditS, kindOf C_l_heldCreditS, 3, 4⟩ 0 Tryz.f96.ntmps Q_l_heldCreditS (nthLoop Tryz.f96 0) K_l_heldCreditS_2 3000000 X_l_heldCreditS_2 d = B_l_heldCreditS_2 d := fun d => by kernel_rfl
theorem lo_l_heldCreditS_2 (cx : Cx) (hp : cx.pin.length ≤ 0) : LoopOk Tryz.prog cx Tryz.f96.ntmps Q_l_heldCreditS (nthLoop Tryz.f96 0) := loop_of (cfgOk_of mixed tys_ok (show FnsOk Tryz.prog C_l_heldCreditS from trivial)) hp (all_of (by kernel_rfl : loopsOf (nthLoop Tryz.f96 0) = []) trivial) (by kernel_rfl) lp_l_heldCreditS_2
theorem e_l_heldCreditS : ∀ d, pcall ⟨lookT tys, ctrOf C_l_heldCreditS, kindOf C_l_heldCreditS, 3, 4⟩ 0 Q_l_heldCreditS Tryz.f96 .plain (mkA P_l_heldCreditS d) = (T_l_heldCreditS d.1 d.2.1).run fun r => some (O_l_heldCreditS r) := fun d => by kernel_rfl
theorem fn_l_heldCreditS : Fn Tryz.prog 96 .plain F_l_heldCreditS := fn_of (cfgOk_of mixed tys_ok (show FnsOk Tryz.prog C_l_heldCreditS from trivial)) Tryz.func96 (by kernel_rfl) (by kernel_rfl) (fun cx b hp hb => all_of (by kernel_rfl : loopsOf (Tryz.f96.body.getD .skip) = [nthLoop Tryz.f96 0]) ⟨lo_l_heldCreditS_2 cx hp, trivial⟩ b hb) (R := (YI)) (T := fun (d : aden P_l_heldCreditS) => T_l_heldCreditS d.1 d.2.1) e_l_heldCreditS
def P_l_heldServer : List (Bool × List Sh) := [(true, h_15), (false, [.int .i64])]
def O_l_heldServer (r : (YI)) : List RV × List RV := ([rv (false, [.int .i64]) r], [])
def C_l_heldServer : Fns := [(92, .plain, F_l_heldByteSS), (93, .plain, F_l_heldJar), (94, .plain, F_l_heldDice), (95, .plain, F_l_heldTab), (96, .plain, F_l_heldCreditS)]
def F_l_heldServer : Fun1 := funV P_l_heldServer (fun d => (T_l_heldServer d.1 d.2.1).val) O_l_heldServer
def Q_l_heldServer : Loops := fun _ _ => .fail
theorem e_l_heldServer : ∀ d, pcall ⟨lookT tys, ctrOf C_l_heldServer, kindOf C_l_heldServer, 3, 4⟩ 0 Q_l_heldServer Tryz.f20 .plain (mkA P_l_heldServer d) = (T_l_heldServer d.1 d.2.1).run fun r => some (O_l_heldServer r) := fun d => by kernel_rfl
theorem fn_l_heldServer : Fn Tryz.prog 20 .plain F_l_heldServer := fn_of (cfgOk_of mixed tys_ok (show FnsOk Tryz.prog C_l_heldServer from ⟨fn_l_heldByteSS, fn_l_heldJar, fn_l_heldDice, fn_l_heldTab, fn_l_heldCreditS, trivial⟩)) Tryz.func20 (by kernel_rfl) (by kernel_rfl) (fun cx b hp hb => all_of (by kernel_rfl : loopsOf (Tryz.f20.body.getD .skip) = []) trivial b hb) (R := (YI)) (T := fun (d : aden P_l_heldServer) => T_l_heldServer d.1 d.2.1) e_l_heldServer
def P_l_heldNoteS : List (Bool × List Sh) := [(false, [.sl 139 h_8]), (false, [.int .i64])]
def O_l_heldNoteS (r : (YI)) : List RV × List RV := ([rv (false, [.int .i64]) r], [])
def C_l_heldNoteS : Fns := [(97, .plain, F_l_heldByteS)]
def F_l_heldNoteS : Fun1 := funV P_l_heldNoteS (fun d => (T_l_heldNoteS d.1 d.2.1).val) O_l_heldNoteS
def K_l_heldNoteS_2 : Sk := ⟨[(0, .v false [(.sl 139 h_8, .ro)]), (1, .v false [(.int .i64, .nil)]), (5, .v false [(.int .i64, .nil)])], [], []⟩
def X_l_heldNoteS_2 : List (Ex × Sk) := [(.ret, ⟨[(4, .v false [(.int .i64, .nil)])], [], []⟩), ((.exit 0), ⟨[(1, .v false [(.int .i64, .nil)])], [], []⟩)]
def Q_l_heldNoteS : Loops := fun i st => cond (Nat.beq i 2) (lam K_l_heldNoteS_2 3000000 X_l_heldNoteS_2 B_l_heldNoteS_2 st) <| .fail
theorem lp_l_heldNoteS_2 : ∀ d, bod ⟨lookT tys, ctrOf C_l_heldNoteS, kindOf C_l_heldNoteS, 3, 4⟩ 0 Tryz.f21.ntmps Q_l_heldNoteS (nthLoop Tryz.f21 0) K_l_heldNoteS_2 3000000 X_l_heldNoteS_2 d = B_l_heldNoteS_2 d := fun d => by kernel_rfl
theorem lo_l_heldNoteS_2 (cx : Cx) (hp : cx.pin.length ≤ 0) : LoopOk Tryz.prog cx Tryz.f21.ntmps Q_l_heldNoteS (nthLoop Tryz.f21 0) := loop_of (cfgOk_of mixed tys_ok (show FnsOk Tryz.prog C_l_heldNoteS from ⟨fn_l_heldByteS, trivial⟩)) hp (all_of (by kernel_rfl : loopsOf (nthLoop Tryz.f21 0) = []) trivial) (by kernel_rfl) lp_l_heldNoteS_2
theorem e_l_heldNoteS : ∀ d, pcall ⟨lookT tys, ctrOf C_l_heldNoteS, kindOf C_l_heldNoteS, 3, 4⟩ 0 Q_l_heldNoteS Tryz.f21 .plain (mkA P_l_heldNoteS d) = (T_l_heldNoteS d.1 d.2.1).run fun r => some (O_l_heldNoteS r) := fun d => by kernel_rfl
theorem fn_l_heldNoteS : Fn Tryz.prog 21 .plain F_l_heldNoteS := fn_of (cfgOk_of mixed tys_ok (show FnsOk Tryz.prog C_l_heldNoteS from ⟨fn_l_heldByteS, trivial⟩)) Tryz.func21 (by kernel_rfl) (by kernel_rfl) (fun cx b hp hb => all_of (by kernel_rfl : loopsOf (Tryz.f21.body.getD .skip) = [nthLoop Tryz.f21 0]) ⟨lo_l_heldNoteS_2 cx hp, trivial⟩ b hb) (R := (YI)) (T := fun (d : aden P_l_heldNoteS) => T_l_heldNoteS d.1 d.2.1) e_l_heldNoteS
def P_l_FnExactServerClose : List (Bool × List Sh) := [(true, h_14), (false, [.int .i64])]
def O_l_FnExactServerClose (r : (Bool × Unit)) : List RV × List RV := ([rv (false, [.bool]) r], [])
def C_l_FnExactServerClose : Fns := [(12, .plain, F_l_szServer), (14, .plain, F_l_toServer), (13, .plain, F_s_ServerClose), (15, .plain, F_i_ServerClose), (16, .plain, F_l_eqServer), (17, .plain, F_l_eqNoteS), (18, (.lend [1]), F_l_markServer), (19, (.lend [1]), F_l_markNoteS), (20, .plain, F_l_heldServer), (21, .plain, F_l_heldNoteS)]
def F_l_FnExactServerClose : Fun1 := funV P_l_FnExactServerClose (fun d => (T_l_FnExactServerClose d.1 d.2.1).val) O_l_FnExactServerClose
def Q_l_FnExactServerClose : Loops := fun _ _ => .fail
theorem e_l_FnExactServerClose : ∀ d, pcall ⟨lookT tys, ctrOf C_l_FnExactServerClose, kindOf C_l_FnExactServerClose, 3, 4⟩ 0 Q_l_FnExactServerClose Tryz.f3 .plain (mkA P_l_FnExactServerClose d) = (T_l_FnExactServerClose d.1 d.2.1).run fun r => some (O_l_FnExactServerClose r) := fun d => by kernel_rfl
theorem fn_l_FnExactServerClose : Fn Tryz.prog 3 .plain F_l_FnExactServerClose := fn_of (cfgOk_of mixed tys_ok (show FnsOk Tryz.prog C_l_FnExactServerClose from ⟨fn_l_szServer, fn_l_toServer, fn_s_ServerClose, fn_i_ServerClose, fn_l_eqServer, fn_l_eqNoteS, fn_l_markServer, fn_l_markNoteS, fn_l_heldServer, fn_l_heldNoteS, trivial⟩)) Tryz.func3 (by kernel_rfl) (by kernel_rfl) (fun cx b hp hb => all_of (by kernel_rfl : loopsOf (Tryz.f3.body.getD .skip) = []) trivial b hb) (R := (Bool × Unit)) (T := fun (d : aden P_l_FnExactServerClose) => T_l_FnExactServerClose d.1 d.2.1) e_l_FnExactServerClose
end
end Go.Proofs.YtdlcjpjflckdlaaGreat

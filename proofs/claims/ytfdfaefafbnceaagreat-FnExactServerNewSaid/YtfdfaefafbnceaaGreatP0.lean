/-
  That the functions of the seat answer what the terms of text W say; nothing is assumed.
-/
import Derived.Test.YtfdfaefafbnceaaGreatW
import Derived.Test.YtfdfaefafbnceaaGreatProg
import Derived.KernelRfl
namespace Go.Proofs.YtfdfaefafbnceaaGreat
open Go.RowKit
set_option linter.unusedVariables false
set_option maxRecDepth 100000
set_option maxHeartbeats 4000000
noncomputable section
abbrev h_0 : List Sh := [.int .i64, .int .i64, .bool, .int .u8]
abbrev h_1 : List Sh := [.bool, .int .i64, .int .i64, .int .i64]
abbrev h_2 : List Sh := [.int .i64, .int .i64, .int .i64, .int .i64]
abbrev h_3 : List Sh := [.sl 3 [.int .i64], .sl 5 [.int .u8], .int .i64]
abbrev h_4 : List Sh := [.int .i64, .int .i64, .sl 5 [.int .u8], .int .i64]
abbrev h_5 : List Sh := [.int .i64, .sl 5 [.int .u8], .int .i64, .int .i64, .sl 3 [.int .i64]]
abbrev h_6 : List Sh := [.int .i64, .int .i64, .sl 194 h_4]
abbrev h_7 : List Sh := [.int .i64, .int .i64, .sl 198 h_4]
abbrev h_8 : List Sh := [.int .i64, .int .i64, .int .i64, .sl 5 [.int .u8], .sl 5 [.int .u8], .int .i64, .int .i64, .sl 5 [.int .u8], .sl 5 [.int .u8], .int .i64, .int .i64, .int .i64]
abbrev h_9 : List Sh := [.int .i64, .int .i64, .sl 5 [.int .u8], .sl 5 [.int .u8], .int .i64, .sl 5 [.int .u8], .sl 5 [.int .u8], .int .i64, .int .i64, .sl 5 [.int .u8], .sl 5 [.int .u8]]
abbrev h_10 : List Sh := [.int .i64, .sl 5 [.int .u8], .int .i64, .sl 5 [.int .u8], .int .i64, .int .i64, .sl 3 [.int .i64], .int .i64, .sl 5 [.int .u8], .int .i64, .int .i64, .sl 3 [.int .i64], .bool, .int .i64, .sl 5 [.int .u8]]
abbrev h_11 : List Sh := [.int .i64, .sl 5 [.int .u8], .sl 5 [.int .u8], .int .i64, .sl 5 [.int .u8], .int .i64, .sl 5 [.int .u8], .int .i64, .int .i64, .sl 3 [.int .i64], .int .i64, .sl 5 [.int .u8], .int .i64, .int .i64, .sl 3 [.int .i64], .bool, .int .i64, .sl 5 [.int .u8], .int .i64, .int .i64, .sl 194 h_4, .int .i64, .int .i64, .bool]
abbrev h_12 : List Sh := [.int .i64, .sl 5 [.int .u8], .sl 5 [.int .u8], .int .i64, .sl 5 [.int .u8], .int .i64, .sl 5 [.int .u8], .int .i64, .int .i64, .sl 3 [.int .i64], .int .i64, .sl 5 [.int .u8], .int .i64, .int .i64, .sl 3 [.int .i64], .bool, .int .i64, .sl 5 [.int .u8], .int .i64, .int .i64, .sl 198 h_4, .int .i64, .int .i64, .bool]
abbrev h_13 : List Sh := [.sl 25 [.sl 5 [.int .u8]], .sl 5 [.int .u8], .sl 5 [.int .u8], .int .i64, .int .i64, .sl 58 h_12, .sl 190 h_2]
abbrev h_14 : List Sh := [.int .i64, .sl 5 [.int .u8], .int .i64, .int .i64, .int .i64, .sl 5 [.int .u8], .int .i64, .int .i64, .sl 5 [.int .u8], .sl 5 [.int .u8], .int .i64, .sl 5 [.int .u8], .sl 5 [.int .u8], .int .i64, .int .i64, .sl 5 [.int .u8], .sl 5 [.int .u8], .int .i64, .sl 5 [.int .u8], .int .i64, .sl 5 [.int .u8], .int .i64, .int .i64, .sl 3 [.int .i64], .int .i64, .sl 5 [.int .u8], .int .i64, .int .i64, .sl 3 [.int .i64], .bool, .int .i64, .sl 5 [.int .u8], .bool, .int .i64, .int .i64, .int .i64, .bool, .int .i64, .int .i64, .int .i64, .int .i64]
def tys : List (Nat × Ty) := [(3, ⟨false, [.int .i64], [], false⟩),
  (4, ⟨false, [.bool], [], false⟩),
  (5, ⟨false, [.int .u8], [], false⟩),
  (9, ⟨false, [.str], [], false⟩),
  (25, ⟨false, [.sl 5 [.int .u8]], [], false⟩),
  (26, ⟨false, [.sl 3 [.int .i64]], [], false⟩),
  (42, ⟨false, [.sl 58 [.int .i64, .sl 5 [.int .u8], .sl 5 [.int .u8], .int .i64, .sl 5 [.int .u8], .int .i64, .sl 5 [.int .u8], .int .i64, .int .i64, .sl 3 [.int .i64], .int .i64, .sl 5 [.int .u8], .int .i64, .int .i64, .sl 3 [.int .i64], .bool, .int .i64, .sl 5 [.int .u8], .int .i64, .int .i64, .sl 198 [.int .i64, .int .i64, .sl 5 [.int .u8], .int .i64], .int .i64, .int .i64, .bool]], [], false⟩),
  (44, ⟨true, [.int .i64, .sl 58 [.int .i64, .sl 5 [.int .u8], .sl 5 [.int .u8], .int .i64, .sl 5 [.int .u8], .int .i64, .sl 5 [.int .u8], .int .i64, .int .i64, .sl 3 [.int .i64], .int .i64, .sl 5 [.int .u8], .int .i64, .int .i64, .sl 3 [.int .i64], .bool, .int .i64, .sl 5 [.int .u8], .int .i64, .int .i64, .sl 198 [.int .i64, .int .i64, .sl 5 [.int .u8], .int .i64], .int .i64, .int .i64, .bool]], [(0, 1), (1, 1)], false⟩),
  (48, ⟨true, [.int .i64, .sl 3 [.int .i64]], [(0, 1), (1, 1)], false⟩),
  (50, ⟨true, [.int .i64, .sl 5 [.int .u8], .int .i64, .int .i64, .sl 3 [.int .i64]], [(0, 1), (1, 1), (2, 1), (3, 2)], false⟩),
  (52, ⟨true, [.int .i64, .sl 5 [.int .u8], .int .i64, .sl 5 [.int .u8], .int .i64, .int .i64, .sl 3 [.int .i64], .int .i64, .sl 5 [.int .u8], .int .i64, .int .i64, .sl 3 [.int .i64], .bool, .int .i64, .sl 5 [.int .u8]], [(0, 1), (1, 1), (2, 5), (7, 5), (12, 1), (13, 1), (14, 1)], false⟩),
  (53, ⟨true, [.int .i64, .int .i64], [(0, 1), (1, 1)], true⟩),
  (54, ⟨false, [.sl 198 [.int .i64, .int .i64, .sl 5 [.int .u8], .int .i64]], [], false⟩),
  (56, ⟨true, [.int .i64, .int .i64, .sl 198 [.int .i64, .int .i64, .sl 5 [.int .u8], .int .i64]], [(0, 2), (2, 1)], false⟩),
  (58, ⟨true, [.int .i64, .sl 5 [.int .u8], .sl 5 [.int .u8], .int .i64, .sl 5 [.int .u8], .int .i64, .sl 5 [.int .u8], .int .i64, .int .i64, .sl 3 [.int .i64], .int .i64, .sl 5 [.int .u8], .int .i64, .int .i64, .sl 3 [.int .i64], .bool, .int .i64, .sl 5 [.int .u8], .int .i64, .int .i64, .sl 198 [.int .i64, .int .i64, .sl 5 [.int .u8], .int .i64], .int .i64, .int .i64, .bool], [(0, 1), (1, 1), (2, 1), (3, 15), (18, 3), (21, 1), (22, 1), (23, 1)], false⟩),
  (101, ⟨false, [.sl 25 [.sl 5 [.int .u8]]], [], false⟩),
  (104, ⟨true, [.sl 5 [.int .u8]], [(0, 1)], false⟩),
  (106, ⟨true, [.sl 5 [.int .u8], .int .i64], [(0, 1), (1, 1)], false⟩),
  (107, ⟨false, [.sl 190 [.int .i64, .int .i64, .int .i64, .int .i64]], [], false⟩),
  (109, ⟨true, [.sl 25 [.sl 5 [.int .u8]], .sl 5 [.int .u8], .sl 5 [.int .u8], .int .i64, .int .i64, .sl 58 [.int .i64, .sl 5 [.int .u8], .sl 5 [.int .u8], .int .i64, .sl 5 [.int .u8], .int .i64, .sl 5 [.int .u8], .int .i64, .int .i64, .sl 3 [.int .i64], .int .i64, .sl 5 [.int .u8], .int .i64, .int .i64, .sl 3 [.int .i64], .bool, .int .i64, .sl 5 [.int .u8], .int .i64, .int .i64, .sl 198 [.int .i64, .int .i64, .sl 5 [.int .u8], .int .i64], .int .i64, .int .i64, .bool], .sl 190 [.int .i64, .int .i64, .int .i64, .int .i64]], [(0, 1), (1, 1), (2, 2), (4, 2), (6, 1)], false⟩),
  (190, ⟨true, [.int .i64, .int .i64, .int .i64, .int .i64], [(0, 2), (2, 1), (3, 1)], false⟩),
  (198, ⟨true, [.int .i64, .int .i64, .sl 5 [.int .u8], .int .i64], [(0, 2), (2, 1), (3, 1)], false⟩),
  (226, ⟨true, [.sl 3 [.int .i64], .sl 5 [.int .u8], .int .i64], [(0, 1), (1, 1), (2, 1)], false⟩),
  (237, ⟨false, [.int .u64], [], false⟩)]
theorem tys_ok : tysB Tryz.prog tys = true := by kernel_rfl
theorem mixed : Tryz.prog.follows .mixedOrders = true := by kernel_rfl
def P_l_szByteS : List (Bool × List Sh) := [(false, [.sl 5 [.int .u8]]), (false, [.int .i64])]
def O_l_szByteS (r : (YI)) : List RV × List RV := ([rv (false, [.int .i64]) r], [])
def C_l_szByteS : Fns := []
def F_l_szByteS : Fun1 := funV P_l_szByteS (fun d => (T_l_szByteS d.1 d.2.1).val) O_l_szByteS
def Q_l_szByteS : Loops := fun _ _ => .fail
theorem e_l_szByteS : ∀ d, pcall ⟨lookT tys, ctrOf C_l_szByteS, kindOf C_l_szByteS, 3, 4⟩ 0 Q_l_szByteS Tryz.f55 .plain (mkA P_l_szByteS d) = (T_l_szByteS d.1 d.2.1).run fun r => some (O_l_szByteS r) := fun d => by kernel_rfl
theorem fn_l_szByteS : Fn Tryz.prog 55 .plain F_l_szByteS := fn_of (cfgOk_of mixed tys_ok (show FnsOk Tryz.prog C_l_szByteS from trivial)) Tryz.func55 (by kernel_rfl) (by kernel_rfl) (fun cx b hp hb => all_of (by kernel_rfl : loopsOf (Tryz.f55.body.getD .skip) = []) trivial b hb) (R := (YI)) (T := fun (d : aden P_l_szByteS) => T_l_szByteS d.1 d.2.1) e_l_szByteS
def P_l_szByteSS : List (Bool × List Sh) := [(false, [.sl 25 [.sl 5 [.int .u8]]]), (false, [.int .i64])]
def O_l_szByteSS (r : (YI)) : List RV × List RV := ([rv (false, [.int .i64]) r], [])
def C_l_szByteSS : Fns := [(55, .plain, F_l_szByteS)]
def F_l_szByteSS : Fun1 := funV P_l_szByteSS (fun d => (T_l_szByteSS d.1 d.2.1).val) O_l_szByteSS
def K_l_szByteSS_5 : Sk := ⟨[(0, .v false [(.sl 25 [.sl 5 [.int .u8]], .ro)]), (1, .v false [(.int .i64, .nil)]), (5, .v false [(.int .i64, .nil)])], [], []⟩
def X_l_szByteSS_5 : List (Ex × Sk) := [(.ret, ⟨[(4, .v false [(.int .i64, .nil)])], [], []⟩), ((.exit 0), ⟨[(1, .v false [(.int .i64, .nil)])], [], []⟩)]
def Q_l_szByteSS : Loops := fun i st => cond (Nat.beq i 5) (lam K_l_szByteSS_5 6000000 X_l_szByteSS_5 B_l_szByteSS_5 st) <| .fail
theorem lp_l_szByteSS_5 : ∀ d, bod ⟨lookT tys, ctrOf C_l_szByteSS, kindOf C_l_szByteSS, 3, 4⟩ 0 Tryz.f45.ntmps Q_l_szByteSS (nthLoop Tryz.f45 0) K_l_szByteSS_5 6000000 X_l_szByteSS_5 d = B_l_szByteSS_5 d := fun d => by kernel_rfl
theorem lo_l_szByteSS_5 (cx : Cx) (hp : cx.pin.length ≤ 0) : LoopOk Tryz.prog cx Tryz.f45.ntmps Q_l_szByteSS (nthLoop Tryz.f45 0) := loop_of (cfgOk_of mixed tys_ok (show FnsOk Tryz.prog C_l_szByteSS from ⟨fn_l_szByteS, trivial⟩)) hp (all_of (by kernel_rfl : loopsOf (nthLoop Tryz.f45 0) = []) trivial) (by kernel_rfl) lp_l_szByteSS_5
theorem e_l_szByteSS : ∀ d, pcall ⟨lookT tys, ctrOf C_l_szByteSS, kindOf C_l_szByteSS, 3, 4⟩ 0 Q_l_szByteSS Tryz.f45 .plain (mkA P_l_szByteSS d) = (T_l_szByteSS d.1 d.2.1).run fun r => some (O_l_szByteSS r) := fun d => by kernel_rfl
theorem fn_l_szByteSS : Fn Tryz.prog 45 .plain F_l_szByteSS := fn_of (cfgOk_of mixed tys_ok (show FnsOk Tryz.prog C_l_szByteSS from ⟨fn_l_szByteS, trivial⟩)) Tryz.func45 (by kernel_rfl) (by kernel_rfl) (fun cx b hp hb => all_of (by kernel_rfl : loopsOf (Tryz.f45.body.getD .skip) = [nthLoop Tryz.f45 0]) ⟨lo_l_szByteSS_5 cx hp, trivial⟩ b hb) (R := (YI)) (T := fun (d : aden P_l_szByteSS) => T_l_szByteSS d.1 d.2.1) e_l_szByteSS
def P_l_toByteS : List (Bool × List Sh) := [(false, [.sl 5 [.int .u8]])]
def O_l_toByteS (r : (YBs)) : List RV × List RV := ([rv (false, [.sl 5 [.int .u8]]) r], [])
def C_l_toByteS : Fns := []
def F_l_toByteS : Fun1 := funV P_l_toByteS (fun d => (T_l_toByteS d.1).val) O_l_toByteS
def K_l_toByteS_3 : Sk := ⟨[(0, .v false [(.sl 5 [.int .u8], .ro)]), (3, .v false [(.sl 5 [.int .u8], (.own 4000000))]), (4, .v false [(.int .i64, .nil)])], [], [4000000]⟩
def X_l_toByteS_3 : List (Ex × Sk) := [((.exit 0), ⟨[(3, .v false [(.sl 5 [.int .u8], (.own 4000000))])], [], [4000000]⟩)]
def Q_l_toByteS : Loops := fun i st => cond (Nat.beq i 3) (lam K_l_toByteS_3 4000000 X_l_toByteS_3 B_l_toByteS_3 st) <| .fail
theorem lp_l_toByteS_3 : ∀ d, bod ⟨lookT tys, ctrOf C_l_toByteS, kindOf C_l_toByteS, 3, 4⟩ 0 Tryz.f23.ntmps Q_l_toByteS (nthLoop Tryz.f23 0) K_l_toByteS_3 4000000 X_l_toByteS_3 d = B_l_toByteS_3 d := fun d => by kernel_rfl
theorem lo_l_toByteS_3 (cx : Cx) (hp : cx.pin.length ≤ 0) : LoopOk Tryz.prog cx Tryz.f23.ntmps Q_l_toByteS (nthLoop Tryz.f23 0) := loop_of (cfgOk_of mixed tys_ok (show FnsOk Tryz.prog C_l_toByteS from trivial)) hp (all_of (by kernel_rfl : loopsOf (nthLoop Tryz.f23 0) = []) trivial) (by kernel_rfl) lp_l_toByteS_3
theorem e_l_toByteS : ∀ d, pcall ⟨lookT tys, ctrOf C_l_toByteS, kindOf C_l_toByteS, 3, 4⟩ 0 Q_l_toByteS Tryz.f23 .plain (mkA P_l_toByteS d) = (T_l_toByteS d.1).run fun r => some (O_l_toByteS r) := fun d => by kernel_rfl
theorem fn_l_toByteS : Fn Tryz.prog 23 .plain F_l_toByteS := fn_of (cfgOk_of mixed tys_ok (show FnsOk Tryz.prog C_l_toByteS from trivial)) Tryz.func23 (by kernel_rfl) (by kernel_rfl) (fun cx b hp hb => all_of (by kernel_rfl : loopsOf (Tryz.f23.body.getD .skip) = [nthLoop Tryz.f23 0]) ⟨lo_l_toByteS_3 cx hp, trivial⟩ b hb) (R := (YBs)) (T := fun (d : aden P_l_toByteS) => T_l_toByteS d.1) e_l_toByteS
def P_l_toByteSS : List (Bool × List Sh) := [(false, [.sl 25 [.sl 5 [.int .u8]]])]
def O_l_toByteSS (r : ((List YBs) × Unit)) : List RV × List RV := ([rv (false, [.sl 25 [.sl 5 [.int .u8]]]) r], [])
def C_l_toByteSS : Fns := [(23, .plain, F_l_toByteS)]
def F_l_toByteSS : Fun1 := funV P_l_toByteSS (fun d => (T_l_toByteSS d.1).val) O_l_toByteSS
def K_l_toByteSS_3 : Sk := ⟨[(0, .v false [(.sl 25 [.sl 5 [.int .u8]], .ro)]), (3, .v false [(.sl 25 [.sl 5 [.int .u8]], (.own 4000000))]), (4, .v false [(.int .i64, .nil)])], [], [4000000]⟩
def X_l_toByteSS_3 : List (Ex × Sk) := [((.exit 0), ⟨[(3, .v false [(.sl 25 [.sl 5 [.int .u8]], (.own 4000000))])], [], [4000000]⟩)]
def Q_l_toByteSS : Loops := fun i st => cond (Nat.beq i 3) (lam K_l_toByteSS_3 4000000 X_l_toByteSS_3 B_l_toByteSS_3 st) <| .fail
theorem lp_l_toByteSS_3 : ∀ d, bod ⟨lookT tys, ctrOf C_l_toByteSS, kindOf C_l_toByteSS, 3, 4⟩ 0 Tryz.f47.ntmps Q_l_toByteSS (nthLoop Tryz.f47 0) K_l_toByteSS_3 4000000 X_l_toByteSS_3 d = B_l_toByteSS_3 d := fun d => by kernel_rfl
theorem lo_l_toByteSS_3 (cx : Cx) (hp : cx.pin.length ≤ 0) : LoopOk Tryz.prog cx Tryz.f47.ntmps Q_l_toByteSS (nthLoop Tryz.f47 0) := loop_of (cfgOk_of mixed tys_ok (show FnsOk Tryz.prog C_l_toByteSS from ⟨fn_l_toByteS, trivial⟩)) hp (all_of (by kernel_rfl : loopsOf (nthLoop Tryz.f47 0) = []) trivial) (by kernel_rfl) lp_l_toByteSS_3
theorem e_l_toByteSS : ∀ d, pcall ⟨lookT tys, ctrOf C_l_toByteSS, kindOf C_l_toByteSS, 3, 4⟩ 0 Q_l_toByteSS Tryz.f47 .plain (mkA P_l_toByteSS d) = (T_l_toByteSS d.1).run fun r => some (O_l_toByteSS r) := fun d => by kernel_rfl
theorem fn_l_toByteSS : Fn Tryz.prog 47 .plain F_l_toByteSS := fn_of (cfgOk_of mixed tys_ok (show FnsOk Tryz.prog C_l_toByteSS from ⟨fn_l_toByteS, trivial⟩)) Tryz.func47 (by kernel_rfl) (by kernel_rfl) (fun cx b hp hb => all_of (by kernel_rfl : loopsOf (Tryz.f47.body.getD .skip) = [nthLoop Tryz.f47 0]) ⟨lo_l_toByteSS_3 cx hp, trivial⟩ b hb) (R := ((List YBs) × Unit)) (T := fun (d : aden P_l_toByteSS) => T_l_toByteSS d.1) e_l_toByteSS
def P_s_l10Copy : List (Bool × List Sh) := [(true, [.sl 5 [.int .u8], .int .i64])]
def O_s_l10Copy (r : (YDice)) : List RV × List RV := ([rv (true, [.sl 5 [.int .u8], .int .i64]) r], [])
def C_s_l10Copy : Fns := []
def F_s_l10Copy : Fun1 := funV P_s_l10Copy (fun d => (T_s_l10Copy d.1).val) O_s_l10Copy
def Q_s_l10Copy : Loops := fun _ _ => .fail
theorem e_s_l10Copy : ∀ d, pcall ⟨lookT tys, ctrOf C_s_l10Copy, kindOf C_s_l10Copy, 3, 4⟩ 0 Q_s_l10Copy Tryz.f176 .plain (mkA P_s_l10Copy d) = (T_s_l10Copy d.1).run fun r => some (O_s_l10Copy r) := fun d => by kernel_rfl
theorem fn_s_l10Copy : Fn Tryz.prog 176 .plain F_s_l10Copy := fn_of (cfgOk_of mixed tys_ok (show FnsOk Tryz.prog C_s_l10Copy from trivial)) Tryz.func176 (by kernel_rfl) (by kernel_rfl) (fun cx b hp hb => all_of (by kernel_rfl : loopsOf (Tryz.f176.body.getD .skip) = []) trivial b hb) (R := (YDice)) (T := fun (d : aden P_s_l10Copy) => T_s_l10Copy d.1) e_s_l10Copy
def P_s_l1In : List (Bool × List Sh) := [(false, [.int .i64]), (false, [.int .i64]), (false, [.int .i64])]
def O_s_l1In (r : (Bool × Unit)) : List RV × List RV := ([rv (false, [.bool]) r], [])
def C_s_l1In : Fns := []
def F_s_l1In : Fun1 := funV P_s_l1In (fun d => (T_s_l1In d.1 d.2.1 d.2.2.1).val) O_s_l1In
def Q_s_l1In : Loops := fun _ _ => .fail
theorem e_s_l1In : ∀ d, pcall ⟨lookT tys, ctrOf C_s_l1In, kindOf C_s_l1In, 3, 4⟩ 0 Q_s_l1In Tryz.f60 .plain (mkA P_s_l1In d) = (T_s_l1In d.1 d.2.1 d.2.2.1).run fun r => some (O_s_l1In r) := fun d => by kernel_rfl
theorem fn_s_l1In : Fn Tryz.prog 60 .plain F_s_l1In := fn_of (cfgOk_of mixed tys_ok (show FnsOk Tryz.prog C_s_l1In from trivial)) Tryz.func60 (by kernel_rfl) (by kernel_rfl) (fun cx b hp hb => all_of (by kernel_rfl : loopsOf (Tryz.f60.body.getD .skip) = []) trivial b hb) (R := (Bool × Unit)) (T := fun (d : aden P_s_l1In) => T_s_l1In d.1 d.2.1 d.2.2.1) e_s_l1In
def P_s_DiceOk : List (Bool × List Sh) := [(true, [.sl 5 [.int .u8], .int .i64])]
def O_s_DiceOk (r : (Bool × Unit)) : List RV × List RV := ([rv (false, [.bool]) r], [])
def C_s_DiceOk : Fns := [(60, .plain, F_s_l1In)]
def F_s_DiceOk : Fun1 := funV P_s_DiceOk (fun d => (T_s_DiceOk d.1).val) O_s_DiceOk
def Q_s_DiceOk : Loops := fun _ _ => .fail
theorem e_s_DiceOk : ∀ d, pcall ⟨lookT tys, ctrOf C_s_DiceOk, kindOf C_s_DiceOk, 3, 4⟩ 0 Q_s_DiceOk Tryz.f177 .plain (mkA P_s_DiceOk d) = (T_s_DiceOk d.1).run fun r => some (O_s_DiceOk r) := fun d => by kernel_rfl
theorem fn_s_DiceOk : Fn Tryz.prog 177 .plain F_s_DiceOk := fn_of (cfgOk_of mixed tys_ok (show FnsOk Tryz.prog C_s_DiceOk from ⟨fn_s_l1In, trivial⟩)) Tryz.func177 (by kernel_rfl) (by kernel_rfl) (fun cx b hp hb => all_of (by kernel_rfl : loopsOf (Tryz.f177.body.getD .skip) = []) trivial b hb) (R := (Bool × Unit)) (T := fun (d : aden P_s_DiceOk) => T_s_DiceOk d.1) e_s_DiceOk
def P_s_PutN : List (Bool × List Sh) := [(false, [.sl 5 [.int .u8]]), (false, [.int .i64]), (false, [.int .i64])]
def O_s_PutN (r : (YBs)) : List RV × List RV := ([rv (false, [.sl 5 [.int .u8]]) r], [])
def C_s_PutN : Fns := []
def F_s_PutN : Fun1 := funV P_s_PutN (fun d => (T_s_PutN d.1 d.2.1 d.2.2.1).val) O_s_PutN
def K_s_PutN_5 : Sk := ⟨[(1, .v false [(.int .i64, .nil)]), (7, .v false [(.sl 5 [.int .u8], (.own 6000000))]), (8, .v false [(.int .i64, .nil)])], [], [6000000]⟩
def X_s_PutN_5 : List (Ex × Sk) := [((.exit 0), ⟨[(7, .v false [(.sl 5 [.int .u8], (.own 6000000))])], [], [6000000]⟩)]
def Q_s_PutN : Loops := fun i st => cond (Nat.beq i 5) (lam K_s_PutN_5 6000000 X_s_PutN_5 B_s_PutN_5 st) <| .fail
theorem lp_s_PutN_5 : ∀ d, bod ⟨lookT tys, ctrOf C_s_PutN, kindOf C_s_PutN, 3, 4⟩ 0 Tryz.f211.ntmps Q_s_PutN (nthLoop Tryz.f211 0) K_s_PutN_5 6000000 X_s_PutN_5 d = B_s_PutN_5 d := fun d => by kernel_rfl
theorem lo_s_PutN_5 (cx : Cx) (hp : cx.pin.length ≤ 0) : LoopOk Tryz.prog cx Tryz.f211.ntmps Q_s_PutN (nthLoop Tryz.f211 0) := loop_of (cfgOk_of mixed tys_ok (show FnsOk Tryz.prog C_s_PutN from trivial)) hp (all_of (by kernel_rfl : loopsOf (nthLoop Tryz.f211 0) = []) trivial) (by kernel_rfl) lp_s_PutN_5
theorem e_s_PutN : ∀ d, pcall ⟨lookT tys, ctrOf C_s_PutN, kindOf C_s_PutN, 3, 4⟩ 0 Q_s_PutN Tryz.f211 .plain (mkA P_s_PutN d) = (T_s_PutN d.1 d.2.1 d.2.2.1).run fun r => some (O_s_PutN r) := fun d => by kernel_rfl
theorem fn_s_PutN : Fn Tryz.prog 211 .plain F_s_PutN := fn_of (cfgOk_of mixed tys_ok (show FnsOk Tryz.prog C_s_PutN from trivial)) Tryz.func211 (by kernel_rfl) (by kernel_rfl) (fun cx b hp hb => all_of (by kernel_rfl : loopsOf (Tryz.f211.body.getD .skip) = [nthLoop Tryz.f211 0]) ⟨lo_s_PutN_5 cx hp, trivial⟩ b hb) (R := (YBs)) (T := fun (d : aden P_s_PutN) => T_s_PutN d.1 d.2.1 d.2.2.1) e_s_PutN
def P_s_Pad : List (Bool × List Sh) := [(false, [.int .i64])]
def O_s_Pad (r : (YBs)) : List RV × List RV := ([rv (false, [.sl 5 [.int .u8]]) r], [])
def C_s_Pad : Fns := [(211, .plain, F_s_PutN)]
def F_s_Pad : Fun1 := funV P_s_Pad (fun d => (T_s_Pad d.1).val) O_s_Pad
def K_s_Pad_4 : Sk := ⟨[(0, .v false [(.int .i64, .nil)]), (3, .v false [(.sl 5 [.int .u8], (.own 5000000))])], [], [5000000]⟩
def X_s_Pad_4 : List (Ex × Sk) := [((.exit 0), ⟨[(0, .v false [(.int .i64, .nil)]), (3, .v false [(.sl 5 [.int .u8], (.own 5000000))])], [], [5000000]⟩)]
def Q_s_Pad : Loops := fun i st => cond (Nat.beq i 4) (lam K_s_Pad_4 5000000 X_s_Pad_4 B_s_Pad_4 st) <| .fail
theorem lp_s_Pad_4 : ∀ d, bod ⟨lookT tys, ctrOf C_s_Pad, kindOf C_s_Pad, 3, 4⟩ 0 Tryz.f233.ntmps Q_s_Pad (nthLoop Tryz.f233 0) K_s_Pad_4 5000000 X_s_Pad_4 d = B_s_Pad_4 d := fun d => by kernel_rfl
theorem lo_s_Pad_4 (cx : Cx) (hp : cx.pin.length ≤ 0) : LoopOk Tryz.prog cx Tryz.f233.ntmps Q_s_Pad (nthLoop Tryz.f233 0) := loop_of (cfgOk_of mixed tys_ok (show FnsOk Tryz.prog C_s_Pad from ⟨fn_s_PutN, trivial⟩)) hp (all_of (by kernel_rfl : loopsOf (nthLoop Tryz.f233 0) = []) trivial) (by kernel_rfl) lp_s_Pad_4
theorem e_s_Pad : ∀ d, pcall ⟨lookT tys, ctrOf C_s_Pad, kindOf C_s_Pad, 3, 4⟩ 0 Q_s_Pad Tryz.f233 .plain (mkA P_s_Pad d) = (T_s_Pad d.1).run fun r => some (O_s_Pad r) := fun d => by kernel_rfl
theorem fn_s_Pad : Fn Tryz.prog 233 .plain F_s_Pad := fn_of (cfgOk_of mixed tys_ok (show FnsOk Tryz.prog C_s_Pad from ⟨fn_s_PutN, trivial⟩)) Tryz.func233 (by kernel_rfl) (by kernel_rfl) (fun cx b hp hb => all_of (by kernel_rfl : loopsOf (Tryz.f233.body.getD .skip) = [nthLoop Tryz.f233 0]) ⟨lo_s_Pad_4 cx hp, trivial⟩ b hb) (R := (YBs)) (T := fun (d : aden P_s_Pad) => T_s_Pad d.1) e_s_Pad
def P_s_Start : List (Bool × List Sh) := []
def O_s_Start (r : ((List YI) × Unit)) : List RV × List RV := ([rv (false, [.sl 3 [.int .i64]]) r], [])
def C_s_Start : Fns := []
def F_s_Start : Fun1 := funV P_s_Start (fun d => (T_s_Start ).val) O_s_Start
def Q_s_Start : Loops := fun _ _ => .fail
theorem e_s_Start : ∀ d, pcall ⟨lookT tys, ctrOf C_s_Start, kindOf C_s_Start, 3, 4⟩ 0 Q_s_Start Tryz.f234 .plain (mkA P_s_Start d) = (T_s_Start ).run fun r => some (O_s_Start r) := fun d => by kernel_rfl
theorem fn_s_Start : Fn Tryz.prog 234 .plain F_s_Start := fn_of (cfgOk_of mixed tys_ok (show FnsOk Tryz.prog C_s_Start from trivial)) Tryz.func234 (by kernel_rfl) (by kernel_rfl) (fun cx b hp hb => all_of (by kernel_rfl : loopsOf (Tryz.f234.body.getD .skip) = []) trivial b hb) (R := ((List YI) × Unit)) (T := fun (d : aden P_s_Start) => T_s_Start ) e_s_Start
def P_s_l2Words : List (Bool × List Sh) := [(false, [.sl 3 [.int .i64]])]
def O_s_l2Words (r : (Bool × Unit)) : List RV × List RV := ([rv (false, [.bool]) r], [])
def C_s_l2Words : Fns := [(60, .plain, F_s_l1In)]
def F_s_l2Words : Fun1 := funV P_s_l2Words (fun d => (T_s_l2Words d.1).val) O_s_l2Words
def K_s_l2Words_2 : Sk := ⟨[(0, .v false [(.sl 3 [.int .i64], .ro)]), (3, .v false [(.int .i64, .nil)])], [], []⟩
def X_s_l2Words_2 : List (Ex × Sk) := [(.ret, ⟨[(2, .v false [(.bool, .nil)])], [], []⟩), ((.exit 0), ⟨[(0, .v false [(.sl 3 [.int .i64], .ro)])], [], []⟩)]
def Q_s_l2Words : Loops := fun i st => cond (Nat.beq i 2) (lam K_s_l2Words_2 3000000 X_s_l2Words_2 B_s_l2Words_2 st) <| .fail
theorem lp_s_l2Words_2 : ∀ d, bod ⟨lookT tys, ctrOf C_s_l2Words, kindOf C_s_l2Words, 3, 4⟩ 0 Tryz.f240.ntmps Q_s_l2Words (nthLoop Tryz.f240 0) K_s_l2Words_2 3000000 X_s_l2Words_2 d = B_s_l2Words_2 d := fun d => by kernel_rfl
theorem lo_s_l2Words_2 (cx : Cx) (hp : cx.pin.length ≤ 0) : LoopOk Tryz.prog cx Tryz.f240.ntmps Q_s_l2Words (nthLoop Tryz.f240 0) := loop_of (cfgOk_of mixed tys_ok (show FnsOk Tryz.prog C_s_l2Words from ⟨fn_s_l1In, trivial⟩)) hp (all_of (by kernel_rfl : loopsOf (nthLoop Tryz.f240 0) = []) trivial) (by kernel_rfl) lp_s_l2Words_2
theorem e_s_l2Words : ∀ d, pcall ⟨lookT tys, ctrOf C_s_l2Words, kindOf C_s_l2Words, 3, 4⟩ 0 Q_s_l2Words Tryz.f240 .plain (mkA P_s_l2Words d) = (T_s_l2Words d.1).run fun r => some (O_s_l2Words r) := fun d => by kernel_rfl
theorem fn_s_l2Words : Fn Tryz.prog 240 .plain F_s_l2Words := fn_of (cfgOk_of mixed tys_ok (show FnsOk Tryz.prog C_s_l2Words from ⟨fn_s_l1In, trivial⟩)) Tryz.func240 (by kernel_rfl) (by kernel_rfl) (fun cx b hp hb => all_of (by kernel_rfl : loopsOf (Tryz.f240.body.getD .skip) = [nthLoop Tryz.f240 0]) ⟨lo_s_l2Words_2 cx hp, trivial⟩ b hb) (R := (Bool × Unit)) (T := fun (d : aden P_s_l2Words) => T_s_l2Words d.1) e_s_l2Words
def P_s_l2K : List (Bool × List Sh) := []
def O_s_l2K (r : ((List YI) × Unit)) : List RV × List RV := ([rv (false, [.sl 3 [.int .i64]]) r], [])
def C_s_l2K : Fns := []
def F_s_l2K : Fun1 := funV P_s_l2K (fun d => (T_s_l2K ).val) O_s_l2K
def Q_s_l2K : Loops := fun _ _ => .fail
theorem e_s_l2K : ∀ d, pcall ⟨lookT tys, ctrOf C_s_l2K, kindOf C_s_l2K, 3, 4⟩ 0 Q_s_l2K Tryz.f241 .plain (mkA P_s_l2K d) = (T_s_l2K ).run fun r => some (O_s_l2K r) := fun d => by kernel_rfl
theorem fn_s_l2K : Fn Tryz.prog 241 .plain F_s_l2K := fn_of (cfgOk_of mixed tys_ok (show FnsOk Tryz.prog C_s_l2K from trivial)) Tryz.func241 (by kernel_rfl) (by kernel_rfl) (fun cx b hp hb => all_of (by kernel_rfl : loopsOf (Tryz.f241.body.getD .skip) = []) trivial b hb) (R := ((List YI) × Unit)) (T := fun (d : aden P_s_l2K) => T_s_l2K ) e_s_l2K
def P_s_GetN : List (Bool × List Sh) := [(false, [.sl 5 [.int .u8]]), (false, [.int .i64]), (false, [.int .i64])]
def O_s_GetN (r : (YI) × (YI) × (Bool × Unit)) : List RV × List RV := ([rv (false, [.int .i64]) r.1, rv (false, [.int .i64]) r.2.1, rv (false, [.bool]) r.2.2], [])
def C_s_GetN : Fns := []
def F_s_GetN : Fun1 := funV P_s_GetN (fun d => (T_s_GetN d.1 d.2.1 d.2.2.1).val) O_s_GetN
def K_s_GetN_5 : Sk := ⟨[(0, .v false [(.sl 5 [.int .u8], .ro)]), (1, .v false [(.int .i64, .nil)]), (2, .v false [(.int .i64, .nil)]), (9, .v false [(.int .i64, .nil)]), (10, .v false [(.int .i64, .nil)])], [], []⟩
def X_s_GetN_5 : List (Ex × Sk) := [((.exit 0), ⟨[(1, .v false [(.int .i64, .nil)]), (2, .v false [(.int .i64, .nil)]), (9, .v false [(.int .i64, .nil)])], [], []⟩)]
def Q_s_GetN : Loops := fun i st => cond (Nat.beq i 5) (lam K_s_GetN_5 6000000 X_s_GetN_5 B_s_GetN_5 st) <| .fail
theorem lp_s_GetN_5 : ∀ d, bod ⟨lookT tys, ctrOf C_s_GetN, kindOf C_s_GetN, 3, 4⟩ 0 Tryz.f249.ntmps Q_s_GetN (nthLoop Tryz.f249 0) K_s_GetN_5 6000000 X_s_GetN_5 d = B_s_GetN_5 d := fun d => by kernel_rfl
theorem lo_s_GetN_5 (cx : Cx) (hp : cx.pin.length ≤ 0) : LoopOk Tryz.prog cx Tryz.f249.ntmps Q_s_GetN (nthLoop Tryz.f249 0) := loop_of (cfgOk_of mixed tys_ok (show FnsOk Tryz.prog C_s_GetN from trivial)) hp (all_of (by kernel_rfl : loopsOf (nthLoop Tryz.f249 0) = []) trivial) (by kernel_rfl) lp_s_GetN_5
theorem e_s_GetN : ∀ d, pcall ⟨lookT tys, ctrOf C_s_GetN, kindOf C_s_GetN, 3, 4⟩ 0 Q_s_GetN Tryz.f249 .plain (mkA P_s_GetN d) = (T_s_GetN d.1 d.2.1 d.2.2.1).run fun r => some (O_s_GetN r) := fun d => by kernel_rfl
theorem fn_s_GetN : Fn Tryz.prog 249 .plain F_s_GetN := fn_of (cfgOk_of mixed tys_ok (show FnsOk Tryz.prog C_s_GetN from trivial)) Tryz.func249 (by kernel_rfl) (by kernel_rfl) (fun cx b hp hb => all_of (by kernel_rfl : loopsOf (Tryz.f249.body.getD .skip) = [nthLoop Tryz.f249 0]) ⟨lo_s_GetN_5 cx hp, trivial⟩ b hb) (R := (YI) × (YI) × (Bool × Unit)) (T := fun (d : aden P_s_GetN) => T_s_GetN d.1 d.2.1 d.2.2.1) e_s_GetN
def P_s_Rot : List (Bool × List Sh) := [(false, [.int .i64]), (false, [.int .i64])]
def O_s_Rot (r : (YI)) : List RV × List RV := ([rv (false, [.int .i64]) r], [])
def C_s_Rot : Fns := []
def F_s_Rot : Fun1 := funV P_s_Rot (fun d => (T_s_Rot d.1 d.2.1).val) O_s_Rot
def Q_s_Rot : Loops := fun _ _ => .fail
theorem e_s_Rot : ∀ d, pcall ⟨lookT tys, ctrOf C_s_Rot, kindOf C_s_Rot, 3, 4⟩ 0 Q_s_Rot Tryz.f243 .plain (mkA P_s_Rot d) = (T_s_Rot d.1 d.2.1).run fun r => some (O_s_Rot r) := fun d => by kernel_rfl
theorem fn_s_Rot : Fn Tryz.prog 243 .plain F_s_Rot := fn_of (cfgOk_of mixed tys_ok (show FnsOk Tryz.prog C_s_Rot from trivial)) Tryz.func243 (by kernel_rfl) (by kernel_rfl) (fun cx b hp hb => all_of (by kernel_rfl : loopsOf (Tryz.f243.body.getD .skip) = []) trivial b hb) (R := (YI)) (T := fun (d : aden P_s_Rot) => T_s_Rot d.1 d.2.1) e_s_Rot
def P_s_Schedule : List (Bool × List Sh) := [(false, [.sl 5 [.int .u8]])]
def O_s_Schedule (r : ((List YI) × Unit)) : List RV × List RV := ([rv (false, [.sl 3 [.int .i64]]) r], [])
def C_s_Schedule : Fns := [(249, .plain, F_s_GetN), (243, .plain, F_s_Rot)]
def F_s_Schedule : Fun1 := funV P_s_Schedule (fun d => (T_s_Schedule d.1).val) O_s_Schedule
def K_s_Schedule_10 : Sk := ⟨[(3, .v false [(.sl 3 [.int .i64], (.own 11000000))]), (8, .v false [(.int .i64, .nil)])], [], [11000000]⟩
def X_s_Schedule_10 : List (Ex × Sk) := [((.exit 2), ⟨[(3, .v false [(.sl 3 [.int .i64], (.own 11000000))])], [], [11000000]⟩)]
def K_s_Schedule_5 : Sk := ⟨[(0, .v false [(.sl 5 [.int .u8], .ro)]), (3, .v false [(.sl 3 [.int .i64], (.own 6000000))]), (4, .v false [(.int .i64, .nil)])], [], [6000000]⟩
def X_s_Schedule_5 : List (Ex × Sk) := [((.exit 0), ⟨[(3, .v false [(.sl 3 [.int .i64], (.own 6000000))])], [], [6000000]⟩)]
def Q_s_Schedule : Loops := fun i st => cond (Nat.beq i 5) (lam K_s_Schedule_5 6000000 X_s_Schedule_5 B_s_Schedule_5 st) <| cond (Nat.beq i 10) (lam K_s_Schedule_10 11000000 X_s_Schedule_10 B_s_Schedule_10 st) <| .fail
theorem lp_s_Schedule_5 : ∀ d, bod ⟨lookT tys, ctrOf C_s_Schedule, kindOf C_s_Schedule, 3, 4⟩ 0 Tryz.f242.ntmps Q_s_Schedule (nthLoop Tryz.f242 0) K_s_Schedule_5 6000000 X_s_Schedule_5 d = B_s_Schedule_5 d := fun d => by kernel_rfl
theorem lo_s_Schedule_5 (cx : Cx) (hp : cx.pin.length ≤ 0) : LoopOk Tryz.prog cx Tryz.f242.ntmps Q_s_Schedule (nthLoop Tryz.f242 0) := loop_of (cfgOk_of mixed tys_ok (show FnsOk Tryz.prog C_s_Schedule from ⟨fn_s_GetN, fn_s_Rot, trivial⟩)) hp (all_of (by kernel_rfl : loopsOf (nthLoop Tryz.f242 0) = []) trivial) (by kernel_rfl) lp_s_Schedule_5
theorem lp_s_Schedule_10 : ∀ d, bod ⟨lookT tys, ctrOf C_s_Schedule, kindOf C_s_Schedule, 3, 4⟩ 0 Tryz.f242.ntmps Q_s_Schedule (nthLoop Tryz.f242 1) K_s_Schedule_10 11000000 X_s_Schedule_10 d = B_s_Schedule_10 d := fun d => by kernel_rfl
theorem lo_s_Schedule_10 (cx : Cx) (hp : cx.pin.length ≤ 0) : LoopOk Tryz.prog cx Tryz.f242.ntmps Q_s_Schedule (nthLoop Tryz.f242 1) := loop_of (cfgOk_of mixed tys_ok (show FnsOk Tryz.prog C_s_Schedule from ⟨fn_s_GetN, fn_s_Rot, trivial⟩)) hp (all_of (by kernel_rfl : loopsOf (nthLoop Tryz.f242 1) = []) trivial) (by kernel_rfl) lp_s_Schedule_10
theorem e_s_Schedule : ∀ d, pcall ⟨lookT tys, ctrOf C_s_Schedule, kindOf C_s_Schedule, 3, 4⟩ 0 Q_s_Schedule Tryz.f242 .plain (mkA P_s_Schedule d) = (T_s_Schedule d.1).run fun r => some (O_s_Schedule r) := fun d => by kernel_rfl
theorem fn_s_Schedule : Fn Tryz.prog 242 .plain F_s_Schedule := fn_of (cfgOk_of mixed tys_ok (show FnsOk Tryz.prog C_s_Schedule from ⟨fn_s_GetN, fn_s_Rot, trivial⟩)) Tryz.func242 (by kernel_rfl) (by kernel_rfl) (fun cx b hp hb => all_of (by kernel_rfl : loopsOf (Tryz.f242.body.getD .skip) = [nthLoop Tryz.f242 0, nthLoop Tryz.f242 1]) ⟨lo_s_Schedule_5 cx hp, lo_s_Schedule_10 cx hp, trivial⟩ b hb) (R := ((List YI) × Unit)) (T := fun (d : aden P_s_Schedule) => T_s_Schedule d.1) e_s_Schedule
def P_s_Compress : List (Bool × List Sh) := [(false, [.sl 3 [.int .i64]]), (false, [.sl 5 [.int .u8]])]
def O_s_Compress (r : ((List YI) × Unit)) : List RV × List RV := ([rv (false, [.sl 3 [.int .i64]]) r], [])
def C_s_Compress : Fns := [(240, .plain, F_s_l2Words), (241, .plain, F_s_l2K), (242, .plain, F_s_Schedule), (243, .plain, F_s_Rot)]
def F_s_Compress : Fun1 := funV P_s_Compress (fun d => (T_s_Compress d.1 d.2.1).val) O_s_Compress
def K_s_Compress_22 : Sk := ⟨[(0, .v false [(.sl 3 [.int .i64], .ro)]), (5, .v false [(.sl 3 [.int .i64], (.own 23000000))]), (19, .v false [(.sl 3 [.int .i64], (.own 23000001))]), (20, .v false [(.int .i64, .nil)])], [], [23000000, 23000001]⟩
def X_s_Compress_22 : List (Ex × Sk) := [((.exit 2), ⟨[(5, .v false [(.sl 3 [.int .i64], (.own 23000000))])], [], [23000000]⟩)]
def K_s_Compress_8 : Sk := ⟨[(0, .v false [(.sl 3 [.int .i64], .ro)]), (5, .v false [(.sl 3 [.int .i64], (.own 9000000))]), (6, .v false [(.sl 3 [.int .i64], (.own 9000001))]), (7, .v false [(.sl 3 [.int .i64], (.own 9000002))]), (8, .v false [(.int .i64, .nil)]), (9, .v false [(.int .i64, .nil)]), (10, .v false [(.int .i64, .nil)]), (11, .v false [(.int .i64, .nil)]), (12, .v false [(.int .i64, .nil)]), (13, .v false [(.int .i64, .nil)]), (14, .v false [(.int .i64, .nil)]), (15, .v false [(.int .i64, .nil)]), (16, .v false [(.int .i64, .nil)])], [], [9000000, 9000001, 9000002]⟩
def X_s_Compress_8 : List (Ex × Sk) := [((.exit 0), ⟨[(0, .v false [(.sl 3 [.int .i64], .ro)]), (5, .v false [(.sl 3 [.int .i64], (.own 9000000))]), (8, .v false [(.int .i64, .nil)]), (9, .v false [(.int .i64, .nil)]), (10, .v false [(.int .i64, .nil)]), (11, .v false [(.int .i64, .nil)]), (12, .v false [(.int .i64, .nil)]), (13, .v false [(.int .i64, .nil)]), (14, .v false [(.int .i64, .nil)]), (15, .v false [(.int .i64, .nil)])], [], [9000000]⟩)]
def Q_s_Compress : Loops := fun i st => cond (Nat.beq i 8) (lam K_s_Compress_8 9000000 X_s_Compress_8 B_s_Compress_8 st) <| cond (Nat.beq i 22) (lam K_s_Compress_22 23000000 X_s_Compress_22 B_s_Compress_22 st) <| .fail
theorem lp_s_Compress_8 : ∀ d, bod ⟨lookT tys, ctrOf C_s_Compress, kindOf C_s_Compress, 3, 4⟩ 0 Tryz.f235.ntmps Q_s_Compress (nthLoop Tryz.f235 0) K_s_Compress_8 9000000 X_s_Compress_8 d = B_s_Compress_8 d := fun d => by kernel_rfl
theorem lo_s_Compress_8 (cx : Cx) (hp : cx.pin.length ≤ 0) : LoopOk Tryz.prog cx Tryz.f235.ntmps Q_s_Compress (nthLoop Tryz.f235 0) := loop_of (cfgOk_of mixed tys_ok (show FnsOk Tryz.prog C_s_Compress from ⟨fn_s_l2Words, fn_s_l2K, fn_s_Schedule, fn_s_Rot, trivial⟩)) hp (all_of (by kernel_rfl : loopsOf (nthLoop Tryz.f235 0) = []) trivial) (by kernel_rfl) lp_s_Compress_8
theorem lp_s_Compress_22 : ∀ d, bod ⟨lookT tys, ctrOf C_s_Compress, kindOf C_s_Compress, 3, 4⟩ 0 Tryz.f235.ntmps Q_s_Compress (nthLoop Tryz.f235 1) K_s_Compress_22 23000000 X_s_Compress_22 d = B_s_Compress_22 d := fun d => by kernel_rfl
theorem lo_s_Compress_22 (cx : Cx) (hp : cx.pin.length ≤ 0) : LoopOk Tryz.prog cx Tryz.f235.ntmps Q_s_Compress (nthLoop Tryz.f235 1) := loop_of (cfgOk_of mixed tys_ok (show FnsOk Tryz.prog C_s_Compress from ⟨fn_s_l2Words, fn_s_l2K, fn_s_Schedule, fn_s_Rot, trivial⟩)) hp (all_of (by kernel_rfl : loopsOf (nthLoop Tryz.f235 1) = []) trivial) (by kernel_rfl) lp_s_Compress_22
theorem e_s_Compress : ∀ d, pcall ⟨lookT tys, ctrOf C_s_Compress, kindOf C_s_Compress, 3, 4⟩ 0 Q_s_Compress Tryz.f235 .plain (mkA P_s_Compress d) = (T_s_Compress d.1 d.2.1).run fun r => some (O_s_Compress r) := fun d => by kernel_rfl
theorem fn_s_Compress : Fn Tryz.prog 235 .plain F_s_Compress := fn_of (cfgOk_of mixed tys_ok (show FnsOk Tryz.prog C_s_Compress from ⟨fn_s_l2Words, fn_s_l2K, fn_s_Schedule, fn_s_Rot, trivial⟩)) Tryz.func235 (by kernel_rfl) (by kernel_rfl) (fun cx b hp hb => all_of (by kernel_rfl : loopsOf (Tryz.f235.body.getD .skip) = [nthLoop Tryz.f235 0, nthLoop Tryz.f235 1]) ⟨lo_s_Compress_8 cx hp, lo_s_Compress_22 cx hp, trivial⟩ b hb) (R := ((List YI) × Unit)) (T := fun (d : aden P_s_Compress) => T_s_Compress d.1 d.2.1) e_s_Compress
def P_s_l2Out : List (Bool × List Sh) := [(false, [.sl 3 [.int .i64]])]
def O_s_l2Out (r : (YBs)) : List RV × List RV := ([rv (false, [.sl 5 [.int .u8]]) r], [])
def C_s_l2Out : Fns := [(211, .plain, F_s_PutN)]
def F_s_l2Out : Fun1 := funV P_s_l2Out (fun d => (T_s_l2Out d.1).val) O_s_l2Out
def K_s_l2Out_3 : Sk := ⟨[(0, .v false [(.sl 3 [.int .i64], .ro)]), (3, .v false [(.sl 5 [.int .u8], (.own 4000000))]), (4, .v false [(.int .i64, .nil)])], [], [4000000]⟩
def X_s_l2Out_3 : List (Ex × Sk) := [((.exit 0), ⟨[(3, .v false [(.sl 5 [.int .u8], (.own 4000000))])], [], [4000000]⟩)]
def Q_s_l2Out : Loops := fun i st => cond (Nat.beq i 3) (lam K_s_l2Out_3 4000000 X_s_l2Out_3 B_s_l2Out_3 st) <| .fail
theorem lp_s_l2Out_3 : ∀ d, bod ⟨lookT tys, ctrOf C_s_l2Out, kindOf C_s_l2Out, 3, 4⟩ 0 Tryz.f236.ntmps Q_s_l2Out (nthLoop Tryz.f236 0) K_s_l2Out_3 4000000 X_s_l2Out_3 d = B_s_l2Out_3 d := fun d => by kernel_rfl
theorem lo_s_l2Out_3 (cx : Cx) (hp : cx.pin.length ≤ 0) : LoopOk Tryz.prog cx Tryz.f236.ntmps Q_s_l2Out (nthLoop Tryz.f236 0) := loop_of (cfgOk_of mixed tys_ok (show FnsOk Tryz.prog C_s_l2Out from ⟨fn_s_PutN, trivial⟩)) hp (all_of (by kernel_rfl : loopsOf (nthLoop Tryz.f236 0) = []) trivial) (by kernel_rfl) lp_s_l2Out_3
theorem e_s_l2Out : ∀ d, pcall ⟨lookT tys, ctrOf C_s_l2Out, kindOf C_s_l2Out, 3, 4⟩ 0 Q_s_l2Out Tryz.f236 .plain (mkA P_s_l2Out d) = (T_s_l2Out d.1).run fun r => some (O_s_l2Out r) := fun d => by kernel_rfl
theorem fn_s_l2Out : Fn Tryz.prog 236 .plain F_s_l2Out := fn_of (cfgOk_of mixed tys_ok (show FnsOk Tryz.prog C_s_l2Out from ⟨fn_s_PutN, trivial⟩)) Tryz.func236 (by kernel_rfl) (by kernel_rfl) (fun cx b hp hb => all_of (by kernel_rfl : loopsOf (Tryz.f236.body.getD .skip) = [nthLoop Tryz.f236 0]) ⟨lo_s_l2Out_3 cx hp, trivial⟩ b hb) (R := (YBs)) (T := fun (d : aden P_s_l2Out) => T_s_l2Out d.1) e_s_l2Out
def P_s_Sha : List (Bool × List Sh) := [(false, [.sl 5 [.int .u8]])]
def O_s_Sha (r : (YBs)) : List RV × List RV := ([rv (false, [.sl 5 [.int .u8]]) r], [])
def C_s_Sha : Fns := [(233, .plain, F_s_Pad), (234, .plain, F_s_Start), (235, .plain, F_s_Compress), (236, .plain, F_s_l2Out)]
def F_s_Sha : Fun1 := funV P_s_Sha (fun d => (T_s_Sha d.1).val) O_s_Sha
def K_s_Sha_6 : Sk := ⟨[(3, .v false [(.sl 5 [.int .u8], (.own 7000000))]), (4, .v false [(.sl 3 [.int .i64], (.own 7000001))]), (5, .v false [(.int .i64, .nil)])], [], [7000000, 7000001]⟩
def X_s_Sha_6 : List (Ex × Sk) := [((.exit 0), ⟨[(4, .v false [(.sl 3 [.int .i64], (.own 7000000))])], [], [7000000]⟩)]
def Q_s_Sha : Loops := fun i st => cond (Nat.beq i 6) (lam K_s_Sha_6 7000000 X_s_Sha_6 B_s_Sha_6 st) <| .fail
theorem lp_s_Sha_6 : ∀ d, bod ⟨lookT tys, ctrOf C_s_Sha, kindOf C_s_Sha, 3, 4⟩ 0 Tryz.f226.ntmps Q_s_Sha (nthLoop Tryz.f226 0) K_s_Sha_6 7000000 X_s_Sha_6 d = B_s_Sha_6 d := fun d => by kernel_rfl
theorem lo_s_Sha_6 (cx : Cx) (hp : cx.pin.length ≤ 0) : LoopOk Tryz.prog cx Tryz.f226.ntmps Q_s_Sha (nthLoop Tryz.f226 0) := loop_of (cfgOk_of mixed tys_ok (show FnsOk Tryz.prog C_s_Sha from ⟨fn_s_Pad, fn_s_Start, fn_s_Compress, fn_s_l2Out, trivial⟩)) hp (all_of (by kernel_rfl : loopsOf (nthLoop Tryz.f226 0) = []) trivial) (by kernel_rfl) lp_s_Sha_6
theorem e_s_Sha : ∀ d, pcall ⟨lookT tys, ctrOf C_s_Sha, kindOf C_s_Sha, 3, 4⟩ 0 Q_s_Sha Tryz.f226 .plain (mkA P_s_Sha d) = (T_s_Sha d.1).run fun r => some (O_s_Sha r) := fun d => by kernel_rfl
theorem fn_s_Sha : Fn Tryz.prog 226 .plain F_s_Sha := fn_of (cfgOk_of mixed tys_ok (show FnsOk Tryz.prog C_s_Sha from ⟨fn_s_Pad, fn_s_Start, fn_s_Compress, fn_s_l2Out, trivial⟩)) Tryz.func226 (by kernel_rfl) (by kernel_rfl) (fun cx b hp hb => all_of (by kernel_rfl : loopsOf (Tryz.f226.body.getD .skip) = [nthLoop Tryz.f226 0]) ⟨lo_s_Sha_6 cx hp, trivial⟩ b hb) (R := (YBs)) (T := fun (d : aden P_s_Sha) => T_s_Sha d.1) e_s_Sha
def P_s_BlockKey : List (Bool × List Sh) := [(false, [.sl 5 [.int .u8]])]
def O_s_BlockKey (r : (YBs)) : List RV × List RV := ([rv (false, [.sl 5 [.int .u8]]) r], [])
def C_s_BlockKey : Fns := [(226, .plain, F_s_Sha)]
def F_s_BlockKey : Fun1 := funV P_s_BlockKey (fun d => (T_s_BlockKey d.1).val) O_s_BlockKey
def K_s_BlockKey_6 : Sk := ⟨[(3, .v false [(.sl 5 [.int .u8], (.own 7000000))])], [], [7000000]⟩
def X_s_BlockKey_6 : List (Ex × Sk) := [((.exit 0), ⟨[(3, .v false [(.sl 5 [.int .u8], (.own 7000000))])], [], [7000000]⟩)]
def Q_s_BlockKey : Loops := fun i st => cond (Nat.beq i 6) (lam K_s_BlockKey_6 7000000 X_s_BlockKey_6 B_s_BlockKey_6 st) <| .fail
theorem lp_s_BlockKey_6 : ∀ d, bod ⟨lookT tys, ctrOf C_s_BlockKey, kindOf C_s_BlockKey, 3, 4⟩ 0 Tryz.f225.ntmps Q_s_BlockKey (nthLoop Tryz.f225 0) K_s_BlockKey_6 7000000 X_s_BlockKey_6 d = B_s_BlockKey_6 d := fun d => by kernel_rfl
theorem lo_s_BlockKey_6 (cx : Cx) (hp : cx.pin.length ≤ 0) : LoopOk Tryz.prog cx Tryz.f225.ntmps Q_s_BlockKey (nthLoop Tryz.f225 0) := loop_of (cfgOk_of mixed tys_ok (show FnsOk Tryz.prog C_s_BlockKey from ⟨fn_s_Sha, trivial⟩)) hp (all_of (by kernel_rfl : loopsOf (nthLoop Tryz.f225 0) = []) trivial) (by kernel_rfl) lp_s_BlockKey_6
theorem e_s_BlockKey : ∀ d, pcall ⟨lookT tys, ctrOf C_s_BlockKey, kindOf C_s_BlockKey, 3, 4⟩ 0 Q_s_BlockKey Tryz.f225 .plain (mkA P_s_BlockKey d) = (T_s_BlockKey d.1).run fun r => some (O_s_BlockKey r) := fun d => by kernel_rfl
theorem fn_s_BlockKey : Fn Tryz.prog 225 .plain F_s_BlockKey := fn_of (cfgOk_of mixed tys_ok (show FnsOk Tryz.prog C_s_BlockKey from ⟨fn_s_Sha, trivial⟩)) Tryz.func225 (by kernel_rfl) (by kernel_rfl) (fun cx b hp hb => all_of (by kernel_rfl : loopsOf (Tryz.f225.body.getD .skip) = [nthLoop Tryz.f225 0]) ⟨lo_s_BlockKey_6 cx hp, trivial⟩ b hb) (R := (YBs)) (T := fun (d : aden P_s_BlockKey) => T_s_BlockKey d.1) e_s_BlockKey
def P_s_Hmac : List (Bool × List Sh) := [(false, [.sl 5 [.int .u8]]), (false, [.sl 5 [.int .u8]])]
def O_s_Hmac (r : (YBs)) : List RV × List RV := ([rv (false, [.sl 5 [.int .u8]]) r], [])
def C_s_Hmac : Fns := [(225, .plain, F_s_BlockKey), (226, .plain, F_s_Sha)]
def F_s_Hmac : Fun1 := funV P_s_Hmac (fun d => (T_s_Hmac d.1 d.2.1).val) O_s_Hmac
def K_s_Hmac_7 : Sk := ⟨[(1, .v false [(.sl 5 [.int .u8], .ro)]), (5, .v false [(.sl 5 [.int .u8], (.own 8000000))]), (6, .v false [(.sl 5 [.int .u8], (.own 8000001))]), (7, .v false [(.sl 5 [.int .u8], (.own 8000002))]), (8, .v false [(.int .i64, .nil)])], [], [8000000, 8000001, 8000002]⟩
def X_s_Hmac_7 : List (Ex × Sk) := [((.exit 0), ⟨[(1, .v false [(.sl 5 [.int .u8], .ro)]), (6, .v false [(.sl 5 [.int .u8], (.own 8000000))]), (7, .v false [(.sl 5 [.int .u8], (.own 8000001))])], [], [8000000, 8000001]⟩)]
def Q_s_Hmac : Loops := fun i st => cond (Nat.beq i 7) (lam K_s_Hmac_7 8000000 X_s_Hmac_7 B_s_Hmac_7 st) <| .fail
theorem lp_s_Hmac_7 : ∀ d, bod ⟨lookT tys, ctrOf C_s_Hmac, kindOf C_s_Hmac, 3, 4⟩ 0 Tryz.f210.ntmps Q_s_Hmac (nthLoop Tryz.f210 0) K_s_Hmac_7 8000000 X_s_Hmac_7 d = B_s_Hmac_7 d := fun d => by kernel_rfl
theorem lo_s_Hmac_7 (cx : Cx) (hp : cx.pin.length ≤ 0) : LoopOk Tryz.prog cx Tryz.f210.ntmps Q_s_Hmac (nthLoop Tryz.f210 0) := loop_of (cfgOk_of mixed tys_ok (show FnsOk Tryz.prog C_s_Hmac from ⟨fn_s_BlockKey, fn_s_Sha, trivial⟩)) hp (all_of (by kernel_rfl : loopsOf (nthLoop Tryz.f210 0) = []) trivial) (by kernel_rfl) lp_s_Hmac_7
theorem e_s_Hmac : ∀ d, pcall ⟨lookT tys, ctrOf C_s_Hmac, kindOf C_s_Hmac, 3, 4⟩ 0 Q_s_Hmac Tryz.f210 .plain (mkA P_s_Hmac d) = (T_s_Hmac d.1 d.2.1).run fun r => some (O_s_Hmac r) := fun d => by kernel_rfl
theorem fn_s_Hmac : Fn Tryz.prog 210 .plain F_s_Hmac := fn_of (cfgOk_of mixed tys_ok (show FnsOk Tryz.prog C_s_Hmac from ⟨fn_s_BlockKey, fn_s_Sha, trivial⟩)) Tryz.func210 (by kernel_rfl) (by kernel_rfl) (fun cx b hp hb => all_of (by kernel_rfl : loopsOf (Tryz.f210.body.getD .skip) = [nthLoop Tryz.f210 0]) ⟨lo_s_Hmac_7 cx hp, trivial⟩ b hb) (R := (YBs)) (T := fun (d : aden P_s_Hmac) => T_s_Hmac d.1 d.2.1) e_s_Hmac
def P_s_DiceAt : List (Bool × List Sh) := [(false, [.sl 5 [.int .u8]]), (false, [.int .i64])]
def O_s_DiceAt (r : (YBs)) : List RV × List RV := ([rv (false, [.sl 5 [.int .u8]]) r], [])
def C_s_DiceAt : Fns := [(60, .plain, F_s_l1In), (211, .plain, F_s_PutN), (210, .plain, F_s_Hmac)]
def F_s_DiceAt : Fun1 := funV P_s_DiceAt (fun d => (T_s_DiceAt d.1 d.2.1).val) O_s_DiceAt
def Q_s_DiceAt : Loops := fun _ _ => .fail
theorem e_s_DiceAt : ∀ d, pcall ⟨lookT tys, ctrOf C_s_DiceAt, kindOf C_s_DiceAt, 3, 4⟩ 0 Q_s_DiceAt Tryz.f178 .plain (mkA P_s_DiceAt d) = (T_s_DiceAt d.1 d.2.1).run fun r => some (O_s_DiceAt r) := fun d => by kernel_rfl
theorem fn_s_DiceAt : Fn Tryz.prog 178 .plain F_s_DiceAt := fn_of (cfgOk_of mixed tys_ok (show FnsOk Tryz.prog C_s_DiceAt from ⟨fn_s_l1In, fn_s_PutN, fn_s_Hmac, trivial⟩)) Tryz.func178 (by kernel_rfl) (by kernel_rfl) (fun cx b hp hb => all_of (by kernel_rfl : loopsOf (Tryz.f178.body.getD .skip) = []) trivial b hb) (R := (YBs)) (T := fun (d : aden P_s_DiceAt) => T_s_DiceAt d.1 d.2.1) e_s_DiceAt
def P_s_Roll : List (Bool × List Sh) := [(true, [.sl 5 [.int .u8], .int .i64])]
def O_s_Roll (r : (YDice) × (YBs)) : List RV × List RV := ([rv (true, [.sl 5 [.int .u8], .int .i64]) r.1, rv (false, [.sl 5 [.int .u8]]) r.2], [])
def C_s_Roll : Fns := [(176, .plain, F_s_l10Copy), (177, .plain, F_s_DiceOk), (178, .plain, F_s_DiceAt)]
def F_s_Roll : Fun1 := funV P_s_Roll (fun d => (T_s_Roll d.1).val) O_s_Roll
def Q_s_Roll : Loops := fun _ _ => .fail
theorem e_s_Roll : ∀ d, pcall ⟨lookT tys, ctrOf C_s_Roll, kindOf C_s_Roll, 3, 4⟩ 0 Q_s_Roll Tryz.f112 .plain (mkA P_s_Roll d) = (T_s_Roll d.1).run fun r => some (O_s_Roll r) := fun d => by kernel_rfl
theorem fn_s_Roll : Fn Tryz.prog 112 .plain F_s_Roll := fn_of (cfgOk_of mixed tys_ok (show FnsOk Tryz.prog C_s_Roll from ⟨fn_s_l10Copy, fn_s_DiceOk, fn_s_DiceAt, trivial⟩)) Tryz.func112 (by kernel_rfl) (by kernel_rfl) (fun cx b hp hb => all_of (by kernel_rfl : loopsOf (Tryz.f112.body.getD .skip) = []) trivial b hb) (R := (YDice) × (YBs)) (T := fun (d : aden P_s_Roll) => T_s_Roll d.1) e_s_Roll
def P_s_Expand : List (Bool × List Sh) := [(false, [.sl 5 [.int .u8]]), (false, [.sl 5 [.int .u8]]), (false, [.int .i64])]
def O_s_Expand (r : (YBs) × (Bool × Unit)) : List RV × List RV := ([rv (false, [.sl 5 [.int .u8]]) r.1, rv (false, [.bool]) r.2], [])
def C_s_Expand : Fns := [(60, .plain, F_s_l1In), (210, .plain, F_s_Hmac)]
def F_s_Expand : Fun1 := funV P_s_Expand (fun d => (T_s_Expand d.1 d.2.1 d.2.2.1).val) O_s_Expand
def K_s_Expand_6 : Sk := ⟨[(0, .v false [(.sl 5 [.int .u8], .ro)]), (1, .v false [(.sl 5 [.int .u8], .ro)]), (2, .v false [(.int .i64, .nil)]), (8, .v false [(.sl 5 [.int .u8], (.own 7000000))]), (9, .v false [(.sl 5 [.int .u8], (.own 7000001))]), (10, .v false [(.int .i64, .nil)])], [], [7000000, 7000001]⟩
def X_s_Expand_6 : List (Ex × Sk) := [((.exit 0), ⟨[(2, .v false [(.int .i64, .nil)]), (8, .v false [(.sl 5 [.int .u8], (.own 7000000))])], [], [7000000]⟩)]
def Q_s_Expand : Loops := fun i st => cond (Nat.beq i 6) (lam K_s_Expand_6 7000000 X_s_Expand_6 B_s_Expand_6 st) <| .fail
theorem lp_s_Expand_6 : ∀ d, bod ⟨lookT tys, ctrOf C_s_Expand, kindOf C_s_Expand, 3, 4⟩ 0 Tryz.f212.ntmps Q_s_Expand (nthLoop Tryz.f212 0) K_s_Expand_6 7000000 X_s_Expand_6 d = B_s_Expand_6 d := fun d => by kernel_rfl
theorem lo_s_Expand_6 (cx : Cx) (hp : cx.pin.length ≤ 0) : LoopOk Tryz.prog cx Tryz.f212.ntmps Q_s_Expand (nthLoop Tryz.f212 0) := loop_of (cfgOk_of mixed tys_ok (show FnsOk Tryz.prog C_s_Expand from ⟨fn_s_l1In, fn_s_Hmac, trivial⟩)) hp (all_of (by kernel_rfl : loopsOf (nthLoop Tryz.f212 0) = []) trivial) (by kernel_rfl) lp_s_Expand_6
theorem e_s_Expand : ∀ d, pcall ⟨lookT tys, ctrOf C_s_Expand, kindOf C_s_Expand, 3, 4⟩ 0 Q_s_Expand Tryz.f212 .plain (mkA P_s_Expand d) = (T_s_Expand d.1 d.2.1 d.2.2.1).run fun r => some (O_s_Expand r) := fun d => by kernel_rfl
theorem fn_s_Expand : Fn Tryz.prog 212 .plain F_s_Expand := fn_of (cfgOk_of mixed tys_ok (show FnsOk Tryz.prog C_s_Expand from ⟨fn_s_l1In, fn_s_Hmac, trivial⟩)) Tryz.func212 (by kernel_rfl) (by kernel_rfl) (fun cx b hp hb => all_of (by kernel_rfl : loopsOf (Tryz.f212.body.getD .skip) = [nthLoop Tryz.f212 0]) ⟨lo_s_Expand_6 cx hp, trivial⟩ b hb) (R := (YBs) × (Bool × Unit)) (T := fun (d : aden P_s_Expand) => T_s_Expand d.1 d.2.1 d.2.2.1) e_s_Expand
def P_s_Derive : List (Bool × List Sh) := [(false, [.sl 5 [.int .u8]]), (false, [.str])]
def O_s_Derive (r : (YBs)) : List RV × List RV := ([rv (false, [.sl 5 [.int .u8]]) r], [])
def C_s_Derive : Fns := [(212, .plain, F_s_Expand)]
def F_s_Derive : Fun1 := funV P_s_Derive (fun d => (T_s_Derive d.1 d.2.1).val) O_s_Derive
def Q_s_Derive : Loops := fun _ _ => .fail
theorem e_s_Derive : ∀ d, pcall ⟨lookT tys, ctrOf C_s_Derive, kindOf C_s_Derive, 3, 4⟩ 0 Q_s_Derive Tryz.f179 .plain (mkA P_s_Derive d) = (T_s_Derive d.1 d.2.1).run fun r => some (O_s_Derive r) := fun d => by kernel_rfl
theorem fn_s_Derive : Fn Tryz.prog 179 .plain F_s_Derive := fn_of (cfgOk_of mixed tys_ok (show FnsOk Tryz.prog C_s_Derive from ⟨fn_s_Expand, trivial⟩)) Tryz.func179 (by kernel_rfl) (by kernel_rfl) (fun cx b hp hb => all_of (by kernel_rfl : loopsOf (Tryz.f179.body.getD .skip) = []) trivial b hb) (R := (YBs)) (T := fun (d : aden P_s_Derive) => T_s_Derive d.1 d.2.1) e_s_Derive
def P_s_JarNew : List (Bool × List Sh) := [(false, [.sl 5 [.int .u8]])]
def O_s_JarNew (r : (YBs)) : List RV × List RV := ([rv (true, [.sl 5 [.int .u8]]) r], [])
def C_s_JarNew : Fns := [(179, .plain, F_s_Derive)]
def F_s_JarNew : Fun1 := funV P_s_JarNew (fun d => (T_s_JarNew d.1).val) O_s_JarNew
def Q_s_JarNew : Loops := fun _ _ => .fail
theorem e_s_JarNew : ∀ d, pcall ⟨lookT tys, ctrOf C_s_JarNew, kindOf C_s_JarNew, 3, 4⟩ 0 Q_s_JarNew Tryz.f113 .plain (mkA P_s_JarNew d) = (T_s_JarNew d.1).run fun r => some (O_s_JarNew r) := fun d => by kernel_rfl
theorem fn_s_JarNew : Fn Tryz.prog 113 .plain F_s_JarNew := fn_of (cfgOk_of mixed tys_ok (show FnsOk Tryz.prog C_s_JarNew from ⟨fn_s_Derive, trivial⟩)) Tryz.func113 (by kernel_rfl) (by kernel_rfl) (fun cx b hp hb => all_of (by kernel_rfl : loopsOf (Tryz.f113.body.getD .skip) = []) trivial b hb) (R := (YBs)) (T := fun (d : aden P_s_JarNew) => T_s_JarNew d.1) e_s_JarNew
def P_s_TabNew : List (Bool × List Sh) := [(false, [.int .i64])]
def O_s_TabNew (r : (YTab)) : List RV × List RV := ([rv (true, [.int .i64, .sl 58 h_12]) r], [])
def C_s_TabNew : Fns := [(60, .plain, F_s_l1In)]
def F_s_TabNew : Fun1 := funV P_s_TabNew (fun d => (T_s_TabNew d.1).val) O_s_TabNew
def Q_s_TabNew : Loops := fun _ _ => .fail
theorem e_s_TabNew : ∀ d, pcall ⟨lookT tys, ctrOf C_s_TabNew, kindOf C_s_TabNew, 3, 4⟩ 0 Q_s_TabNew Tryz.f114 .plain (mkA P_s_TabNew d) = (T_s_TabNew d.1).run fun r => some (O_s_TabNew r) := fun d => by kernel_rfl
theorem fn_s_TabNew : Fn Tryz.prog 114 .plain F_s_TabNew := fn_of (cfgOk_of mixed tys_ok (show FnsOk Tryz.prog C_s_TabNew from ⟨fn_s_l1In, trivial⟩)) Tryz.func114 (by kernel_rfl) (by kernel_rfl) (fun cx b hp hb => all_of (by kernel_rfl : loopsOf (Tryz.f114.body.getD .skip) = []) trivial b hb) (R := (YTab)) (T := fun (d : aden P_s_TabNew) => T_s_TabNew d.1) e_s_TabNew
def P_s_JarOk : List (Bool × List Sh) := [(true, [.sl 5 [.int .u8]])]
def O_s_JarOk (r : (Bool × Unit)) : List RV × List RV := ([rv (false, [.bool]) r], [])
def C_s_JarOk : Fns := []
def F_s_JarOk : Fun1 := funV P_s_JarOk (fun d => (T_s_JarOk d.1).val) O_s_JarOk
def Q_s_JarOk : Loops := fun _ _ => .fail
theorem e_s_JarOk : ∀ d, pcall ⟨lookT tys, ctrOf C_s_JarOk, kindOf C_s_JarOk, 3, 4⟩ 0 Q_s_JarOk Tryz.f180 .plain (mkA P_s_JarOk d) = (T_s_JarOk d.1).run fun r => some (O_s_JarOk r) := fun d => by kernel_rfl
theorem fn_s_JarOk : Fn Tryz.prog 180 .plain F_s_JarOk := fn_of (cfgOk_of mixed tys_ok (show FnsOk Tryz.prog C_s_JarOk from trivial)) Tryz.func180 (by kernel_rfl) (by kernel_rfl) (fun cx b hp hb => all_of (by kernel_rfl : loopsOf (Tryz.f180.body.getD .skip) = []) trivial b hb) (R := (Bool × Unit)) (T := fun (d : aden P_s_JarOk) => T_s_JarOk d.1) e_s_JarOk
def P_s_Live : List (Bool × List Sh) := [(true, [.int .i64, .sl 58 h_12])]
def O_s_Live (r : (YI)) : List RV × List RV := ([rv (false, [.int .i64]) r], [])
def C_s_Live : Fns := []
def F_s_Live : Fun1 := funV P_s_Live (fun d => (T_s_Live d.1).val) O_s_Live
def K_s_Live_3 : Sk := ⟨[(1, .box 1 0), (3, .v false [(.int .i64, .nil)]), (4, .v false [(.int .i64, .nil)])], [(1, [(.int .i64, .nil), (.sl 58 h_12, .ro)])], []⟩
def X_s_Live_3 : List (Ex × Sk) := [((.exit 0), ⟨[(3, .v false [(.int .i64, .nil)])], [], []⟩)]
def Q_s_Live : Loops := fun i st => cond (Nat.beq i 3) (lam K_s_Live_3 4000000 X_s_Live_3 B_s_Live_3 st) <| .fail
theorem lp_s_Live_3 : ∀ d, bod ⟨lookT tys, ctrOf C_s_Live, kindOf C_s_Live, 3, 4⟩ 0 Tryz.f77.ntmps Q_s_Live (nthLoop Tryz.f77 0) K_s_Live_3 4000000 X_s_Live_3 d = B_s_Live_3 d := fun d => by kernel_rfl
theorem lo_s_Live_3 (cx : Cx) (hp : cx.pin.length ≤ 0) : LoopOk Tryz.prog cx Tryz.f77.ntmps Q_s_Live (nthLoop Tryz.f77 0) := loop_of (cfgOk_of mixed tys_ok (show FnsOk Tryz.prog C_s_Live from trivial)) hp (all_of (by kernel_rfl : loopsOf (nthLoop Tryz.f77 0) = []) trivial) (by kernel_rfl) lp_s_Live_3
theorem e_s_Live : ∀ d, pcall ⟨lookT tys, ctrOf C_s_Live, kindOf C_s_Live, 3, 4⟩ 0 Q_s_Live Tryz.f77 .plain (mkA P_s_Live d) = (T_s_Live d.1).run fun r => some (O_s_Live r) := fun d => by kernel_rfl
theorem fn_s_Live : Fn Tryz.prog 77 .plain F_s_Live := fn_of (cfgOk_of mixed tys_ok (show FnsOk Tryz.prog C_s_Live from trivial)) Tryz.func77 (by kernel_rfl) (by kernel_rfl) (fun cx b hp hb => all_of (by kernel_rfl : loopsOf (Tryz.f77.body.getD .skip) = [nthLoop Tryz.f77 0]) ⟨lo_s_Live_3 cx hp, trivial⟩ b hb) (R := (YI)) (T := fun (d : aden P_s_Live) => T_s_Live d.1) e_s_Live
def P_s_l14None : List (Bool × List Sh) := [(true, h_5)]
def O_s_l14None (r : (Bool × Unit)) : List RV × List RV := ([rv (false, [.bool]) r], [])
def C_s_l14None : Fns := []
def F_s_l14None : Fun1 := funV P_s_l14None (fun d => (T_s_l14None d.1).val) O_s_l14None
def Q_s_l14None : Loops := fun _ _ => .fail
theorem e_s_l14None : ∀ d, pcall ⟨lookT tys, ctrOf C_s_l14None, kindOf C_s_l14None, 3, 4⟩ 0 Q_s_l14None Tryz.f199 .plain (mkA P_s_l14None d) = (T_s_l14None d.1).run fun r => some (O_s_l14None r) := fun d => by kernel_rfl
theorem fn_s_l14None : Fn Tryz.prog 199 .plain F_s_l14None := fn_of (cfgOk_of mixed tys_ok (show FnsOk Tryz.prog C_s_l14None from trivial)) Tryz.func199 (by kernel_rfl) (by kernel_rfl) (fun cx b hp hb => all_of (by kernel_rfl : loopsOf (Tryz.f199.body.getD .skip) = []) trivial b hb) (R := (Bool × Unit)) (T := fun (d : aden P_s_l14None) => T_s_l14None d.1) e_s_l14None
def P_s_l19NoChan : List (Bool × List Sh) := [(true, h_10)]
def O_s_l19NoChan (r : (Bool × Unit)) : List RV × List RV := ([rv (false, [.bool]) r], [])
def C_s_l19NoChan : Fns := [(199, .plain, F_s_l14None)]
def F_s_l19NoChan : Fun1 := funV P_s_l19NoChan (fun d => (T_s_l19NoChan d.1).val) O_s_l19NoChan
def Q_s_l19NoChan : Loops := fun _ _ => .fail
theorem e_s_l19NoChan : ∀ d, pcall ⟨lookT tys, ctrOf C_s_l19NoChan, kindOf C_s_l19NoChan, 3, 4⟩ 0 Q_s_l19NoChan Tryz.f146 .plain (mkA P_s_l19NoChan d) = (T_s_l19NoChan d.1).run fun r => some (O_s_l19NoChan r) := fun d => by kernel_rfl
theorem fn_s_l19NoChan : Fn Tryz.prog 146 .plain F_s_l19NoChan := fn_of (cfgOk_of mixed tys_ok (show FnsOk Tryz.prog C_s_l19NoChan from ⟨fn_s_l14None, trivial⟩)) Tryz.func146 (by kernel_rfl) (by kernel_rfl) (fun cx b hp hb => all_of (by kernel_rfl : loopsOf (Tryz.f146.body.getD .skip) = []) trivial b hb) (R := (Bool × Unit)) (T := fun (d : aden P_s_l19NoChan) => T_s_l19NoChan d.1) e_s_l19NoChan
def P_s_Near : List (Bool × List Sh) := [(false, [.int .i64])]
def O_s_Near (r : (YAddr)) : List RV × List RV := ([rv (true, [.int .i64, .int .i64]) r], [])
def C_s_Near : Fns := [(60, .plain, F_s_l1In)]
def F_s_Near : Fun1 := funV P_s_Near (fun d => (T_s_Near d.1).val) O_s_Near
def Q_s_Near : Loops := fun _ _ => .fail
theorem e_s_Near : ∀ d, pcall ⟨lookT tys, ctrOf C_s_Near, kindOf C_s_Near, 3, 4⟩ 0 Q_s_Near Tryz.f147 .plain (mkA P_s_Near d) = (T_s_Near d.1).run fun r => some (O_s_Near r) := fun d => by kernel_rfl
theorem fn_s_Near : Fn Tryz.prog 147 .plain F_s_Near := fn_of (cfgOk_of mixed tys_ok (show FnsOk Tryz.prog C_s_Near from ⟨fn_s_l1In, trivial⟩)) Tryz.func147 (by kernel_rfl) (by kernel_rfl) (fun cx b hp hb => all_of (by kernel_rfl : loopsOf (Tryz.f147.body.getD .skip) = []) trivial b hb) (R := (YAddr)) (T := fun (d : aden P_s_Near) => T_s_Near d.1) e_s_Near
def P_s_l8Bit : List (Bool × List Sh) := [(true, [.int .i64, .sl 3 [.int .i64]]), (false, [.int .i64])]
def O_s_l8Bit (r : (Bool × Unit)) : List RV × List RV := ([rv (false, [.bool]) r], [])
def C_s_l8Bit : Fns := []
def F_s_l8Bit : Fun1 := funV P_s_l8Bit (fun d => (T_s_l8Bit d.1 d.2.1).val) O_s_l8Bit
def Q_s_l8Bit : Loops := fun _ _ => .fail
theorem e_s_l8Bit : ∀ d, pcall ⟨lookT tys, ctrOf C_s_l8Bit, kindOf C_s_l8Bit, 3, 4⟩ 0 Q_s_l8Bit Tryz.f230 .plain (mkA P_s_l8Bit d) = (T_s_l8Bit d.1 d.2.1).run fun r => some (O_s_l8Bit r) := fun d => by kernel_rfl
theorem fn_s_l8Bit : Fn Tryz.prog 230 .plain F_s_l8Bit := fn_of (cfgOk_of mixed tys_ok (show FnsOk Tryz.prog C_s_l8Bit from trivial)) Tryz.func230 (by kernel_rfl) (by kernel_rfl) (fun cx b hp hb => all_of (by kernel_rfl : loopsOf (Tryz.f230.body.getD .skip) = []) trivial b hb) (R := (Bool × Unit)) (T := fun (d : aden P_s_l8Bit) => T_s_l8Bit d.1 d.2.1) e_s_l8Bit
def P_s_WinOk : List (Bool × List Sh) := [(true, [.int .i64, .sl 3 [.int .i64]])]
def O_s_WinOk (r : (Bool × Unit)) : List RV × List RV := ([rv (false, [.bool]) r], [])
def C_s_WinOk : Fns := [(60, .plain, F_s_l1In), (230, .plain, F_s_l8Bit)]
def F_s_WinOk : Fun1 := funV P_s_WinOk (fun d => (T_s_WinOk d.1).val) O_s_WinOk
def K_s_WinOk_11 : Sk := ⟨[(1, .box 1 0), (4, .v false [(.int .i64, .nil)])], [(1, [(.int .i64, .nil), (.sl 3 [.int .i64], .ro)])], []⟩
def X_s_WinOk_11 : List (Ex × Sk) := [(.ret, ⟨[(2, .v false [(.bool, .nil)])], [], []⟩), ((.exit 2), ⟨[], [], []⟩)]
def K_s_WinOk_4 : Sk := ⟨[(1, .box 1 0), (3, .v false [(.int .i64, .nil)])], [(1, [(.int .i64, .nil), (.sl 3 [.int .i64], .ro)])], []⟩
def X_s_WinOk_4 : List (Ex × Sk) := [(.ret, ⟨[(2, .v false [(.bool, .nil)])], [], []⟩), ((.exit 0), ⟨[(1, .box 1 0)], [(1, [(.int .i64, .nil), (.sl 3 [.int .i64], .ro)])], []⟩)]
def Q_s_WinOk : Loops := fun i st => cond (Nat.beq i 4) (lam K_s_WinOk_4 5000000 X_s_WinOk_4 B_s_WinOk_4 st) <| cond (Nat.beq i 11) (lam K_s_WinOk_11 12000000 X_s_WinOk_11 B_s_WinOk_11 st) <| .fail
theorem lp_s_WinOk_4 : ∀ d, bod ⟨lookT tys, ctrOf C_s_WinOk, kindOf C_s_WinOk, 3, 4⟩ 0 Tryz.f222.ntmps Q_s_WinOk (nthLoop Tryz.f222 0) K_s_WinOk_4 5000000 X_s_WinOk_4 d = B_s_WinOk_4 d := fun d => by kernel_rfl
theorem lo_s_WinOk_4 (cx : Cx) (hp : cx.pin.length ≤ 0) : LoopOk Tryz.prog cx Tryz.f222.ntmps Q_s_WinOk (nthLoop Tryz.f222 0) := loop_of (cfgOk_of mixed tys_ok (show FnsOk Tryz.prog C_s_WinOk from ⟨fn_s_l1In, fn_s_l8Bit, trivial⟩)) hp (all_of (by kernel_rfl : loopsOf (nthLoop Tryz.f222 0) = []) trivial) (by kernel_rfl) lp_s_WinOk_4
theorem lp_s_WinOk_11 : ∀ d, bod ⟨lookT tys, ctrOf C_s_WinOk, kindOf C_s_WinOk, 3, 4⟩ 0 Tryz.f222.ntmps Q_s_WinOk (nthLoop Tryz.f222 1) K_s_WinOk_11 12000000 X_s_WinOk_11 d = B_s_WinOk_11 d := fun d => by kernel_rfl
theorem lo_s_WinOk_11 (cx : Cx) (hp : cx.pin.length ≤ 0) : LoopOk Tryz.prog cx Tryz.f222.ntmps Q_s_WinOk (nthLoop Tryz.f222 1) := loop_of (cfgOk_of mixed tys_ok (show FnsOk Tryz.prog C_s_WinOk from ⟨fn_s_l1In, fn_s_l8Bit, trivial⟩)) hp (all_of (by kernel_rfl : loopsOf (nthLoop Tryz.f222 1) = []) trivial) (by kernel_rfl) lp_s_WinOk_11
theorem e_s_WinOk : ∀ d, pcall ⟨lookT tys, ctrOf C_s_WinOk, kindOf C_s_WinOk, 3, 4⟩ 0 Q_s_WinOk Tryz.f222 .plain (mkA P_s_WinOk d) = (T_s_WinOk d.1).run fun r => some (O_s_WinOk r) := fun d => by kernel_rfl
theorem fn_s_WinOk : Fn Tryz.prog 222 .plain F_s_WinOk := fn_of (cfgOk_of mixed tys_ok (show FnsOk Tryz.prog C_s_WinOk from ⟨fn_s_l1In, fn_s_l8Bit, trivial⟩)) Tryz.func222 (by kernel_rfl) (by kernel_rfl) (fun cx b hp hb => all_of (by kernel_rfl : loopsOf (Tryz.f222.body.getD .skip) = [nthLoop Tryz.f222 0, nthLoop Tryz.f222 1]) ⟨lo_s_WinOk_4 cx hp, lo_s_WinOk_11 cx hp, trivial⟩ b hb) (R := (Bool × Unit)) (T := fun (d : aden P_s_WinOk) => T_s_WinOk d.1) e_s_WinOk
def P_s_EpOk : List (Bool × List Sh) := [(true, h_5)]
def O_s_EpOk (r : (Bool × Unit)) : List RV × List RV := ([rv (false, [.bool]) r], [])
def C_s_EpOk : Fns := [(60, .plain, F_s_l1In), (222, .plain, F_s_WinOk)]
def F_s_EpOk : Fun1 := funV P_s_EpOk (fun d => (T_s_EpOk d.1).val) O_s_EpOk
def Q_s_EpOk : Loops := fun _ _ => .fail
theorem e_s_EpOk : ∀ d, pcall ⟨lookT tys, ctrOf C_s_EpOk, kindOf C_s_EpOk, 3, 4⟩ 0 Q_s_EpOk Tryz.f200 .plain (mkA P_s_EpOk d) = (T_s_EpOk d.1).run fun r => some (O_s_EpOk r) := fun d => by kernel_rfl
theorem fn_s_EpOk : Fn Tryz.prog 200 .plain F_s_EpOk := fn_of (cfgOk_of mixed tys_ok (show FnsOk Tryz.prog C_s_EpOk from ⟨fn_s_l1In, fn_s_WinOk, trivial⟩)) Tryz.func200 (by kernel_rfl) (by kernel_rfl) (fun cx b hp hb => all_of (by kernel_rfl : loopsOf (Tryz.f200.body.getD .skip) = []) trivial b hb) (R := (Bool × Unit)) (T := fun (d : aden P_s_EpOk) => T_s_EpOk d.1) e_s_EpOk
def P_s_ChanOk : List (Bool × List Sh) := [(true, h_10)]
def O_s_ChanOk (r : (Bool × Unit)) : List RV × List RV := ([rv (false, [.bool]) r], [])
def C_s_ChanOk : Fns := [(60, .plain, F_s_l1In), (200, .plain, F_s_EpOk), (199, .plain, F_s_l14None)]
def F_s_ChanOk : Fun1 := funV P_s_ChanOk (fun d => (T_s_ChanOk d.1).val) O_s_ChanOk
def Q_s_ChanOk : Loops := fun _ _ => .fail
theorem e_s_ChanOk : ∀ d, pcall ⟨lookT tys, ctrOf C_s_ChanOk, kindOf C_s_ChanOk, 3, 4⟩ 0 Q_s_ChanOk Tryz.f148 .plain (mkA P_s_ChanOk d) = (T_s_ChanOk d.1).run fun r => some (O_s_ChanOk r) := fun d => by kernel_rfl
theorem fn_s_ChanOk : Fn Tryz.prog 148 .plain F_s_ChanOk := fn_of (cfgOk_of mixed tys_ok (show FnsOk Tryz.prog C_s_ChanOk from ⟨fn_s_l1In, fn_s_EpOk, fn_s_l14None, trivial⟩)) Tryz.func148 (by kernel_rfl) (by kernel_rfl) (fun cx b hp hb => all_of (by kernel_rfl : loopsOf (Tryz.f148.body.getD .skip) = []) trivial b hb) (R := (Bool × Unit)) (T := fun (d : aden P_s_ChanOk) => T_s_ChanOk d.1) e_s_ChanOk
def P_s_l1Same : List (Bool × List Sh) := [(false, [.sl 5 [.int .u8]]), (false, [.sl 5 [.int .u8]])]
def O_s_l1Same (r : (Bool × Unit)) : List RV × List RV := ([rv (false, [.bool]) r], [])
def C_s_l1Same : Fns := []
def F_s_l1Same : Fun1 := funV P_s_l1Same (fun d => (T_s_l1Same d.1 d.2.1).val) O_s_l1Same
def Q_s_l1Same : Loops := fun _ _ => .fail
theorem e_s_l1Same : ∀ d, pcall ⟨lookT tys, ctrOf C_s_l1Same, kindOf C_s_l1Same, 3, 4⟩ 0 Q_s_l1Same Tryz.f149 .plain (mkA P_s_l1Same d) = (T_s_l1Same d.1 d.2.1).run fun r => some (O_s_l1Same r) := fun d => by kernel_rfl
theorem fn_s_l1Same : Fn Tryz.prog 149 .plain F_s_l1Same := fn_of (cfgOk_of mixed tys_ok (show FnsOk Tryz.prog C_s_l1Same from trivial)) Tryz.func149 (by kernel_rfl) (by kernel_rfl) (fun cx b hp hb => all_of (by kernel_rfl : loopsOf (Tryz.f149.body.getD .skip) = []) trivial b hb) (R := (Bool × Unit)) (T := fun (d : aden P_s_l1Same) => T_s_l1Same d.1 d.2.1) e_s_l1Same
def P_s_AddrOk : List (Bool × List Sh) := [(true, [.int .i64, .int .i64])]
def O_s_AddrOk (r : (Bool × Unit)) : List RV × List RV := ([rv (false, [.bool]) r], [])
def C_s_AddrOk : Fns := [(60, .plain, F_s_l1In)]
def F_s_AddrOk : Fun1 := funV P_s_AddrOk (fun d => (T_s_AddrOk d.1).val) O_s_AddrOk
def Q_s_AddrOk : Loops := fun _ _ => .fail
theorem e_s_AddrOk : ∀ d, pcall ⟨lookT tys, ctrOf C_s_AddrOk, kindOf C_s_AddrOk, 3, 4⟩ 0 Q_s_AddrOk Tryz.f82 .plain (mkA P_s_AddrOk d) = (T_s_AddrOk d.1).run fun r => some (O_s_AddrOk r) := fun d => by kernel_rfl
theorem fn_s_AddrOk : Fn Tryz.prog 82 .plain F_s_AddrOk := fn_of (cfgOk_of mixed tys_ok (show FnsOk Tryz.prog C_s_AddrOk from ⟨fn_s_l1In, trivial⟩)) Tryz.func82 (by kernel_rfl) (by kernel_rfl) (fun cx b hp hb => all_of (by kernel_rfl : loopsOf (Tryz.f82.body.getD .skip) = []) trivial b hb) (R := (Bool × Unit)) (T := fun (d : aden P_s_AddrOk) => T_s_AddrOk d.1) e_s_AddrOk
def P_s_PathsOk : List (Bool × List Sh) := [(true, h_7)]
def O_s_PathsOk (r : (Bool × Unit)) : List RV × List RV := ([rv (false, [.bool]) r], [])
def C_s_PathsOk : Fns := [(82, .plain, F_s_AddrOk), (60, .plain, F_s_l1In)]
def F_s_PathsOk : Fun1 := funV P_s_PathsOk (fun d => (T_s_PathsOk d.1).val) O_s_PathsOk
def K_s_PathsOk_4 : Sk := ⟨[(1, .box 1 0), (3, .v false [(.int .i64, .nil)])], [(1, [(.int .i64, .nil), (.int .i64, .nil), (.sl 198 h_4, .ro)])], []⟩
def X_s_PathsOk_4 : List (Ex × Sk) := [(.ret, ⟨[(2, .v false [(.bool, .nil)])], [], []⟩), ((.exit 0), ⟨[], [], []⟩)]
def K_s_PathsOk_10 : Sk := ⟨[(1, .box 1 0), (3, .v false [(.int .i64, .nil)]), (4, .box 4 0), (5, .v false [(.int .i64, .nil)])], [(1, [(.int .i64, .nil), (.int .i64, .nil), (.sl 198 h_4, .ro)]), (4, [(.int .i64, .nil), (.int .i64, .nil), (.sl 5 [.int .u8], .ro), (.int .i64, .nil)])], []⟩
def X_s_PathsOk_10 : List (Ex × Sk) := [(.ret, ⟨[(2, .v false [(.bool, .nil)])], [], []⟩), ((.exit 2), ⟨[(1, .box 1 0), (3, .v false [(.int .i64, .nil)])], [(1, [(.int .i64, .nil), (.int .i64, .nil), (.sl 198 h_4, .ro)])], []⟩)]
def Q_s_PathsOk : Loops := fun i st => cond (Nat.beq i 10) (lam K_s_PathsOk_10 11000000 X_s_PathsOk_10 B_s_PathsOk_10 st) <| cond (Nat.beq i 4) (lam K_s_PathsOk_4 5000000 X_s_PathsOk_4 B_s_PathsOk_4 st) <| .fail
theorem lp_s_PathsOk_10 : ∀ d, bod ⟨lookT tys, ctrOf C_s_PathsOk, kindOf C_s_PathsOk, 3, 4⟩ 0 Tryz.f150.ntmps Q_s_PathsOk (nthLoop Tryz.f150 1) K_s_PathsOk_10 11000000 X_s_PathsOk_10 d = B_s_PathsOk_10 d := fun d => by kernel_rfl
theorem lo_s_PathsOk_10 (cx : Cx) (hp : cx.pin.length ≤ 0) : LoopOk Tryz.prog cx Tryz.f150.ntmps Q_s_PathsOk (nthLoop Tryz.f150 1) := loop_of (cfgOk_of mixed tys_ok (show FnsOk Tryz.prog C_s_PathsOk from ⟨fn_s_AddrOk, fn_s_l1In, trivial⟩)) hp (all_of (by kernel_rfl : loopsOf (nthLoop Tryz.f150 1) = []) trivial) (by kernel_rfl) lp_s_PathsOk_10
theorem lp_s_PathsOk_4 : ∀ d, bod ⟨lookT tys, ctrOf C_s_PathsOk, kindOf C_s_PathsOk, 3, 4⟩ 0 Tryz.f150.ntmps Q_s_PathsOk (nthLoop Tryz.f150 0) K_s_PathsOk_4 5000000 X_s_PathsOk_4 d = B_s_PathsOk_4 d := fun d => by kernel_rfl
theorem lo_s_PathsOk_4 (cx : Cx) (hp : cx.pin.length ≤ 0) : LoopOk Tryz.prog cx Tryz.f150.ntmps Q_s_PathsOk (nthLoop Tryz.f150 0) := loop_of (cfgOk_of mixed tys_ok (show FnsOk Tryz.prog C_s_PathsOk from ⟨fn_s_AddrOk, fn_s_l1In, trivial⟩)) hp (all_of (by kernel_rfl : loopsOf (nthLoop Tryz.f150 0) = [nthLoop Tryz.f150 1]) ⟨lo_s_PathsOk_10 cx hp, trivial⟩) (by kernel_rfl) lp_s_PathsOk_4
theorem e_s_PathsOk : ∀ d, pcall ⟨lookT tys, ctrOf C_s_PathsOk, kindOf C_s_PathsOk, 3, 4⟩ 0 Q_s_PathsOk Tryz.f150 .plain (mkA P_s_PathsOk d) = (T_s_PathsOk d.1).run fun r => some (O_s_PathsOk r) := fun d => by kernel_rfl
theorem fn_s_PathsOk : Fn Tryz.prog 150 .plain F_s_PathsOk := fn_of (cfgOk_of mixed tys_ok (show FnsOk Tryz.prog C_s_PathsOk from ⟨fn_s_AddrOk, fn_s_l1In, trivial⟩)) Tryz.func150 (by kernel_rfl) (by kernel_rfl) (fun cx b hp hb => all_of (by kernel_rfl : loopsOf (Tryz.f150.body.getD .skip) = [nthLoop Tryz.f150 0]) ⟨lo_s_PathsOk_4 cx hp, trivial⟩ b hb) (R := (Bool × Unit)) (T := fun (d : aden P_s_PathsOk) => T_s_PathsOk d.1) e_s_PathsOk
def P_s_SessOk : List (Bool × List Sh) := [(true, h_12)]
def O_s_SessOk (r : (Bool × Unit)) : List RV × List RV := ([rv (false, [.bool]) r], [])
def C_s_SessOk : Fns := [(60, .plain, F_s_l1In), (146, .plain, F_s_l19NoChan), (147, .plain, F_s_Near), (148, .plain, F_s_ChanOk), (149, .plain, F_s_l1Same), (150, .plain, F_s_PathsOk)]
def F_s_SessOk : Fun1 := funV P_s_SessOk (fun d => (T_s_SessOk d.1).val) O_s_SessOk
def Q_s_SessOk : Loops := fun _ _ => .fail
theorem e_s_SessOk : ∀ d, pcall ⟨lookT tys, ctrOf C_s_SessOk, kindOf C_s_SessOk, 3, 4⟩ 0 Q_s_SessOk Tryz.f75 .plain (mkA P_s_SessOk d) = (T_s_SessOk d.1).run fun r => some (O_s_SessOk r) := fun d => by kernel_rfl
theorem fn_s_SessOk : Fn Tryz.prog 75 .plain F_s_SessOk := fn_of (cfgOk_of mixed tys_ok (show FnsOk Tryz.prog C_s_SessOk from ⟨fn_s_l1In, fn_s_l19NoChan, fn_s_Near, fn_s_ChanOk, fn_s_l1Same, fn_s_PathsOk, trivial⟩)) Tryz.func75 (by kernel_rfl) (by kernel_rfl) (fun cx b hp hb => all_of (by kernel_rfl : loopsOf (Tryz.f75.body.getD .skip) = []) trivial b hb) (R := (Bool × Unit)) (T := fun (d : aden P_s_SessOk) => T_s_SessOk d.1) e_s_SessOk
def P_s_FindSn : List (Bool × List Sh) := [(true, [.int .i64, .sl 58 h_12]), (false, [.sl 5 [.int .u8]])]
def O_s_FindSn (r : (YI)) : List RV × List RV := ([rv (false, [.int .i64]) r], [])
def C_s_FindSn : Fns := [(149, .plain, F_s_l1Same)]
def F_s_FindSn : Fun1 := funV P_s_FindSn (fun d => (T_s_FindSn d.1 d.2.1).val) O_s_FindSn
def K_s_FindSn_2 : Sk := ⟨[(1, .v false [(.sl 5 [.int .u8], .ro)]), (2, .box 2 0), (5, .v false [(.int .i64, .nil)])], [(2, [(.int .i64, .nil), (.sl 58 h_12, .ro)])], []⟩
def X_s_FindSn_2 : List (Ex × Sk) := [(.ret, ⟨[(4, .v false [(.int .i64, .nil)])], [], []⟩), ((.exit 0), ⟨[], [], []⟩)]
def Q_s_FindSn : Loops := fun i st => cond (Nat.beq i 2) (lam K_s_FindSn_2 3000000 X_s_FindSn_2 B_s_FindSn_2 st) <| .fail
theorem lp_s_FindSn_2 : ∀ d, bod ⟨lookT tys, ctrOf C_s_FindSn, kindOf C_s_FindSn, 3, 4⟩ 0 Tryz.f76.ntmps Q_s_FindSn (nthLoop Tryz.f76 0) K_s_FindSn_2 3000000 X_s_FindSn_2 d = B_s_FindSn_2 d := fun d => by kernel_rfl
theorem lo_s_FindSn_2 (cx : Cx) (hp : cx.pin.length ≤ 0) : LoopOk Tryz.prog cx Tryz.f76.ntmps Q_s_FindSn (nthLoop Tryz.f76 0) := loop_of (cfgOk_of mixed tys_ok (show FnsOk Tryz.prog C_s_FindSn from ⟨fn_s_l1Same, trivial⟩)) hp (all_of (by kernel_rfl : loopsOf (nthLoop Tryz.f76 0) = []) trivial) (by kernel_rfl) lp_s_FindSn_2
theorem e_s_FindSn : ∀ d, pcall ⟨lookT tys, ctrOf C_s_FindSn, kindOf C_s_FindSn, 3, 4⟩ 0 Q_s_FindSn Tryz.f76 .plain (mkA P_s_FindSn d) = (T_s_FindSn d.1 d.2.1).run fun r => some (O_s_FindSn r) := fun d => by kernel_rfl
theorem fn_s_FindSn : Fn Tryz.prog 76 .plain F_s_FindSn := fn_of (cfgOk_of mixed tys_ok (show FnsOk Tryz.prog C_s_FindSn from ⟨fn_s_l1Same, trivial⟩)) Tryz.func76 (by kernel_rfl) (by kernel_rfl) (fun cx b hp hb => all_of (by kernel_rfl : loopsOf (Tryz.f76.body.getD .skip) = [nthLoop Tryz.f76 0]) ⟨lo_s_FindSn_2 cx hp, trivial⟩ b hb) (R := (YI)) (T := fun (d : aden P_s_FindSn) => T_s_FindSn d.1 d.2.1) e_s_FindSn
def P_s_TabOk : List (Bool × List Sh) := [(true, [.int .i64, .sl 58 h_12])]
def O_s_TabOk (r : (Bool × Unit)) : List RV × List RV := ([rv (false, [.bool]) r], [])
def C_s_TabOk : Fns := [(60, .plain, F_s_l1In), (77, .plain, F_s_Live), (75, .plain, F_s_SessOk), (76, .plain, F_s_FindSn)]
def F_s_TabOk : Fun1 := funV P_s_TabOk (fun d => (T_s_TabOk d.1).val) O_s_TabOk
def K_s_TabOk_4 : Sk := ⟨[(1, .box 1 0), (3, .v false [(.int .i64, .nil)])], [(1, [(.int .i64, .nil), (.sl 58 h_12, .ro)])], []⟩
def X_s_TabOk_4 : List (Ex × Sk) := [(.ret, ⟨[(2, .v false [(.bool, .nil)])], [], []⟩), ((.exit 0), ⟨[], [], []⟩)]
def Q_s_TabOk : Loops := fun i st => cond (Nat.beq i 4) (lam K_s_TabOk_4 5000000 X_s_TabOk_4 B_s_TabOk_4 st) <| .fail
theorem lp_s_TabOk_4 : ∀ d, bod ⟨lookT tys, ctrOf C_s_TabOk, kindOf C_s_TabOk, 3, 4⟩ 0 Tryz.f59.ntmps Q_s_TabOk (nthLoop Tryz.f59 0) K_s_TabOk_4 5000000 X_s_TabOk_4 d = B_s_TabOk_4 d := fun d => by kernel_rfl
theorem lo_s_TabOk_4 (cx : Cx) (hp : cx.pin.length ≤ 0) : LoopOk Tryz.prog cx Tryz.f59.ntmps Q_s_TabOk (nthLoop Tryz.f59 0) := loop_of (cfgOk_of mixed tys_ok (show FnsOk Tryz.prog C_s_TabOk from ⟨fn_s_l1In, fn_s_Live, fn_s_SessOk, fn_s_FindSn, trivial⟩)) hp (all_of (by kernel_rfl : loopsOf (nthLoop Tryz.f59 0) = []) trivial) (by kernel_rfl) lp_s_TabOk_4
theorem e_s_TabOk : ∀ d, pcall ⟨lookT tys, ctrOf C_s_TabOk, kindOf C_s_TabOk, 3, 4⟩ 0 Q_s_TabOk Tryz.f59 .plain (mkA P_s_TabOk d) = (T_s_TabOk d.1).run fun r => some (O_s_TabOk r) := fun d => by kernel_rfl
theorem fn_s_TabOk : Fn Tryz.prog 59 .plain F_s_TabOk := fn_of (cfgOk_of mixed tys_ok (show FnsOk Tryz.prog C_s_TabOk from ⟨fn_s_l1In, fn_s_Live, fn_s_SessOk, fn_s_FindSn, trivial⟩)) Tryz.func59 (by kernel_rfl) (by kernel_rfl) (fun cx b hp hb => all_of (by kernel_rfl : loopsOf (Tryz.f59.body.getD .skip) = [nthLoop Tryz.f59 0]) ⟨lo_s_TabOk_4 cx hp, trivial⟩ b hb) (R := (Bool × Unit)) (T := fun (d : aden P_s_TabOk) => T_s_TabOk d.1) e_s_TabOk
def P_s_CreditsOk : List (Bool × List Sh) := [(false, [.sl 190 h_2])]
def O_s_CreditsOk (r : (Bool × Unit)) : List RV × List RV := ([rv (false, [.bool]) r], [])
def C_s_CreditsOk : Fns := [(82, .plain, F_s_AddrOk), (60, .plain, F_s_l1In)]
def F_s_CreditsOk : Fun1 := funV P_s_CreditsOk (fun d => (T_s_CreditsOk d.1).val) O_s_CreditsOk
def K_s_CreditsOk_4 : Sk := ⟨[(0, .v false [(.sl 190 h_2, .ro)]), (3, .v false [(.int .i64, .nil)])], [], []⟩
def X_s_CreditsOk_4 : List (Ex × Sk) := [(.ret, ⟨[(2, .v false [(.bool, .nil)])], [], []⟩), ((.exit 0), ⟨[], [], []⟩)]
def K_s_CreditsOk_9 : Sk := ⟨[(0, .v false [(.sl 190 h_2, .ro)]), (3, .v false [(.int .i64, .nil)]), (4, .v false [(.int .i64, .nil)])], [], []⟩
def X_s_CreditsOk_9 : List (Ex × Sk) := [(.ret, ⟨[(2, .v false [(.bool, .nil)])], [], []⟩), ((.exit 2), ⟨[(0, .v false [(.sl 190 h_2, .ro)]), (3, .v false [(.int .i64, .nil)])], [], []⟩)]
def Q_s_CreditsOk : Loops := fun i st => cond (Nat.beq i 9) (lam K_s_CreditsOk_9 10000000 X_s_CreditsOk_9 B_s_CreditsOk_9 st) <| cond (Nat.beq i 4) (lam K_s_CreditsOk_4 5000000 X_s_CreditsOk_4 B_s_CreditsOk_4 st) <| .fail
theorem lp_s_CreditsOk_9 : ∀ d, bod ⟨lookT tys, ctrOf C_s_CreditsOk, kindOf C_s_CreditsOk, 3, 4⟩ 0 Tryz.f181.ntmps Q_s_CreditsOk (nthLoop Tryz.f181 1) K_s_CreditsOk_9 10000000 X_s_CreditsOk_9 d = B_s_CreditsOk_9 d := fun d => by kernel_rfl
theorem lo_s_CreditsOk_9 (cx : Cx) (hp : cx.pin.length ≤ 0) : LoopOk Tryz.prog cx Tryz.f181.ntmps Q_s_CreditsOk (nthLoop Tryz.f181 1) := loop_of (cfgOk_of mixed tys_ok (show FnsOk Tryz.prog C_s_CreditsOk from ⟨fn_s_AddrOk, fn_s_l1In, trivial⟩)) hp (all_of (by kernel_rfl : loopsOf (nthLoop Tryz.f181 1) = []) trivial) (by kernel_rfl) lp_s_CreditsOk_9
theorem lp_s_CreditsOk_4 : ∀ d, bod ⟨lookT tys, ctrOf C_s_CreditsOk, kindOf C_s_CreditsOk, 3, 4⟩ 0 Tryz.f181.ntmps Q_s_CreditsOk (nthLoop Tryz.f181 0) K_s_CreditsOk_4 5000000 X_s_CreditsOk_4 d = B_s_CreditsOk_4 d := fun d => by kernel_rfl
theorem lo_s_CreditsOk_4 (cx : Cx) (hp : cx.pin.length ≤ 0) : LoopOk Tryz.prog cx Tryz.f181.ntmps Q_s_CreditsOk (nthLoop Tryz.f181 0) := loop_of (cfgOk_of mixed tys_ok (show FnsOk Tryz.prog C_s_CreditsOk from ⟨fn_s_AddrOk, fn_s_l1In, trivial⟩)) hp (all_of (by kernel_rfl : loopsOf (nthLoop Tryz.f181 0) = [nthLoop Tryz.f181 1]) ⟨lo_s_CreditsOk_9 cx hp, trivial⟩) (by kernel_rfl) lp_s_CreditsOk_4
theorem e_s_CreditsOk : ∀ d, pcall ⟨lookT tys, ctrOf C_s_CreditsOk, kindOf C_s_CreditsOk, 3, 4⟩ 0 Q_s_CreditsOk Tryz.f181 .plain (mkA P_s_CreditsOk d) = (T_s_CreditsOk d.1).run fun r => some (O_s_CreditsOk r) := fun d => by kernel_rfl
theorem fn_s_CreditsOk : Fn Tryz.prog 181 .plain F_s_CreditsOk := fn_of (cfgOk_of mixed tys_ok (show FnsOk Tryz.prog C_s_CreditsOk from ⟨fn_s_AddrOk, fn_s_l1In, trivial⟩)) Tryz.func181 (by kernel_rfl) (by kernel_rfl) (fun cx b hp hb => all_of (by kernel_rfl : loopsOf (Tryz.f181.body.getD .skip) = [nthLoop Tryz.f181 0]) ⟨lo_s_CreditsOk_4 cx hp, trivial⟩ b hb) (R := (Bool × Unit)) (T := fun (d : aden P_s_CreditsOk) => T_s_CreditsOk d.1) e_s_CreditsOk
def P_s_PskOk : List (Bool × List Sh) := [(false, [.sl 5 [.int .u8]])]
def O_s_PskOk (r : (Bool × Unit)) : List RV × List RV := ([rv (false, [.bool]) r], [])
def C_s_PskOk : Fns := [(60, .plain, F_s_l1In)]
def F_s_PskOk : Fun1 := funV P_s_PskOk (fun d => (T_s_PskOk d.1).val) O_s_PskOk
def Q_s_PskOk : Loops := fun _ _ => .fail
theorem e_s_PskOk : ∀ d, pcall ⟨lookT tys, ctrOf C_s_PskOk, kindOf C_s_PskOk, 3, 4⟩ 0 Q_s_PskOk Tryz.f81 .plain (mkA P_s_PskOk d) = (T_s_PskOk d.1).run fun r => some (O_s_PskOk r) := fun d => by kernel_rfl
theorem fn_s_PskOk : Fn Tryz.prog 81 .plain F_s_PskOk := fn_of (cfgOk_of mixed tys_ok (show FnsOk Tryz.prog C_s_PskOk from ⟨fn_s_l1In, trivial⟩)) Tryz.func81 (by kernel_rfl) (by kernel_rfl) (fun cx b hp hb => all_of (by kernel_rfl : loopsOf (Tryz.f81.body.getD .skip) = []) trivial b hb) (R := (Bool × Unit)) (T := fun (d : aden P_s_PskOk) => T_s_PskOk d.1) e_s_PskOk
def P_s_ServerOk : List (Bool × List Sh) := [(true, h_13)]
def O_s_ServerOk (r : (Bool × Unit)) : List RV × List RV := ([rv (false, [.bool]) r], [])
def C_s_ServerOk : Fns := [(60, .plain, F_s_l1In), (180, .plain, F_s_JarOk), (177, .plain, F_s_DiceOk), (59, .plain, F_s_TabOk), (181, .plain, F_s_CreditsOk), (81, .plain, F_s_PskOk)]
def F_s_ServerOk : Fun1 := funV P_s_ServerOk (fun d => (T_s_ServerOk d.1).val) O_s_ServerOk
def K_s_ServerOk_9 : Sk := ⟨[(1, .box 1 0), (4, .v false [(.int .i64, .nil)])], [(1, [(.sl 25 [.sl 5 [.int .u8]], .ro), (.sl 5 [.int .u8], .ro), (.sl 5 [.int .u8], .ro), (.int .i64, .nil), (.int .i64, .nil), (.sl 58 h_12, .ro), (.sl 190 h_2, .ro)])], []⟩
def X_s_ServerOk_9 : List (Ex × Sk) := [(.ret, ⟨[(2, .v false [(.bool, .nil)])], [], []⟩), ((.exit 2), ⟨[], [], []⟩)]
def K_s_ServerOk_4 : Sk := ⟨[(1, .box 1 0), (3, .v false [(.int .i64, .nil)])], [(1, [(.sl 25 [.sl 5 [.int .u8]], .ro), (.sl 5 [.int .u8], .ro), (.sl 5 [.int .u8], .ro), (.int .i64, .nil), (.int .i64, .nil), (.sl 58 h_12, .ro), (.sl 190 h_2, .ro)])], []⟩
def X_s_ServerOk_4 : List (Ex × Sk) := [(.ret, ⟨[(2, .v false [(.bool, .nil)])], [], []⟩), ((.exit 0), ⟨[(1, .box 1 0)], [(1, [(.sl 25 [.sl 5 [.int .u8]], .ro), (.sl 5 [.int .u8], .ro), (.sl 5 [.int .u8], .ro), (.int .i64, .nil), (.int .i64, .nil), (.sl 58 h_12, .ro), (.sl 190 h_2, .ro)])], []⟩)]
def Q_s_ServerOk : Loops := fun i st => cond (Nat.beq i 4) (lam K_s_ServerOk_4 5000000 X_s_ServerOk_4 B_s_ServerOk_4 st) <| cond (Nat.beq i 9) (lam K_s_ServerOk_9 10000000 X_s_ServerOk_9 B_s_ServerOk_9 st) <| .fail
theorem lp_s_ServerOk_4 : ∀ d, bod ⟨lookT tys, ctrOf C_s_ServerOk, kindOf C_s_ServerOk, 3, 4⟩ 0 Tryz.f115.ntmps Q_s_ServerOk (nthLoop Tryz.f115 0) K_s_ServerOk_4 5000000 X_s_ServerOk_4 d = B_s_ServerOk_4 d := fun d => by kernel_rfl
theorem lo_s_ServerOk_4 (cx : Cx) (hp : cx.pin.length ≤ 0) : LoopOk Tryz.prog cx Tryz.f115.ntmps Q_s_ServerOk (nthLoop Tryz.f115 0) := loop_of (cfgOk_of mixed tys_ok (show FnsOk Tryz.prog C_s_ServerOk from ⟨fn_s_l1In, fn_s_JarOk, fn_s_DiceOk, fn_s_TabOk, fn_s_CreditsOk, fn_s_PskOk, trivial⟩)) hp (all_of (by kernel_rfl : loopsOf (nthLoop Tryz.f115 0) = []) trivial) (by kernel_rfl) lp_s_ServerOk_4
theorem lp_s_ServerOk_9 : ∀ d, bod ⟨lookT tys, ctrOf C_s_ServerOk, kindOf C_s_ServerOk, 3, 4⟩ 0 Tryz.f115.ntmps Q_s_ServerOk (nthLoop Tryz.f115 1) K_s_ServerOk_9 10000000 X_s_ServerOk_9 d = B_s_ServerOk_9 d := fun d => by kernel_rfl
theorem lo_s_ServerOk_9 (cx : Cx) (hp : cx.pin.length ≤ 0) : LoopOk Tryz.prog cx Tryz.f115.ntmps Q_s_ServerOk (nthLoop Tryz.f115 1) := loop_of (cfgOk_of mixed tys_ok (show FnsOk Tryz.prog C_s_ServerOk from ⟨fn_s_l1In, fn_s_JarOk, fn_s_DiceOk, fn_s_TabOk, fn_s_CreditsOk, fn_s_PskOk, trivial⟩)) hp (all_of (by kernel_rfl : loopsOf (nthLoop Tryz.f115 1) = []) trivial) (by kernel_rfl) lp_s_ServerOk_9
theorem e_s_ServerOk : ∀ d, pcall ⟨lookT tys, ctrOf C_s_ServerOk, kindOf C_s_ServerOk, 3, 4⟩ 0 Q_s_ServerOk Tryz.f115 .plain (mkA P_s_ServerOk d) = (T_s_ServerOk d.1).run fun r => some (O_s_ServerOk r) := fun d => by kernel_rfl
theorem fn_s_ServerOk : Fn Tryz.prog 115 .plain F_s_ServerOk := fn_of (cfgOk_of mixed tys_ok (show FnsOk Tryz.prog C_s_ServerOk from ⟨fn_s_l1In, fn_s_JarOk, fn_s_DiceOk, fn_s_TabOk, fn_s_CreditsOk, fn_s_PskOk, trivial⟩)) Tryz.func115 (by kernel_rfl) (by kernel_rfl) (fun cx b hp hb => all_of (by kernel_rfl : loopsOf (Tryz.f115.body.getD .skip) = [nthLoop Tryz.f115 0, nthLoop Tryz.f115 1]) ⟨lo_s_ServerOk_4 cx hp, lo_s_ServerOk_9 cx hp, trivial⟩ b hb) (R := (Bool × Unit)) (T := fun (d : aden P_s_ServerOk) => T_s_ServerOk d.1) e_s_ServerOk
def P_s_ServerNew : List (Bool × List Sh) := [(false, [.sl 25 [.sl 5 [.int .u8]]]), (false, [.sl 5 [.int .u8]]), (false, [.int .i64])]
def O_s_ServerNew (r : (YServer)) : List RV × List RV := ([rv (true, h_13) r], [])
def C_s_ServerNew : Fns := [(112, .plain, F_s_Roll), (113, .plain, F_s_JarNew), (114, .plain, F_s_TabNew), (115, .plain, F_s_ServerOk)]
def F_s_ServerNew : Fun1 := funV P_s_ServerNew (fun d => (T_s_ServerNew d.1 d.2.1 d.2.2.1).val) O_s_ServerNew
def K_s_ServerNew_4 : Sk := ⟨[(0, .v false [(.sl 25 [.sl 5 [.int .u8]], .ro)]), (6, .box 6 0), (9, .box 9 0), (10, .v false [(.int .i64, .nil)])], [(6, [(.sl 25 [.sl 5 [.int .u8]], (.own 5000000)), (.sl 5 [.int .u8], (.own 5000001)), (.sl 5 [.int .u8], (.own 5000002)), (.int .i64, .nil), (.int .i64, .nil), (.sl 58 h_12, (.own 5000003)), (.sl 190 h_2, (.own 5000004))]), (9, [(.sl 25 [.sl 5 [.int .u8]], (.own 5000005)), (.sl 5 [.int .u8], (.own 5000006)), (.sl 5 [.int .u8], (.own 5000007)), (.int .i64, .nil), (.int .i64, .nil), (.sl 58 h_12, (.own 5000008)), (.sl 190 h_2, (.own 5000009))])], [5000000, 5000001, 5000002, 5000003, 5000004, 5000005, 5000006, 5000007, 5000008, 5000009]⟩
def X_s_ServerNew_4 : List (Ex × Sk) := [((.exit 0), ⟨[(6, .box 6 0), (9, .box 9 0)], [(6, [(.sl 25 [.sl 5 [.int .u8]], (.own 5000000)), (.sl 5 [.int .u8], (.own 5000001)), (.sl 5 [.int .u8], (.own 5000002)), (.int .i64, .nil), (.int .i64, .nil), (.sl 58 h_12, (.own 5000003)), (.sl 190 h_2, (.own 5000004))]), (9, [(.sl 25 [.sl 5 [.int .u8]], (.own 5000005)), (.sl 5 [.int .u8], (.own 5000006)), (.sl 5 [.int .u8], (.own 5000007)), (.int .i64, .nil), (.int .i64, .nil), (.sl 58 h_12, (.own 5000008)), (.sl 190 h_2, (.own 5000009))])], [5000000, 5000001, 5000002, 5000003, 5000004, 5000005, 5000006, 5000007, 5000008, 5000009]⟩)]
def Q_s_ServerNew : Loops := fun i st => cond (Nat.beq i 4) (lam K_s_ServerNew_4 5000000 X_s_ServerNew_4 B_s_ServerNew_4 st) <| .fail
theorem lp_s_ServerNew_4 : ∀ d, bod ⟨lookT tys, ctrOf C_s_ServerNew, kindOf C_s_ServerNew, 3, 4⟩ 0 Tryz.f46.ntmps Q_s_ServerNew (nthLoop Tryz.f46 0) K_s_ServerNew_4 5000000 X_s_ServerNew_4 d = B_s_ServerNew_4 d := fun d => by kernel_rfl
theorem lo_s_ServerNew_4 (cx : Cx) (hp : cx.pin.length ≤ 0) : LoopOk Tryz.prog cx Tryz.f46.ntmps Q_s_ServerNew (nthLoop Tryz.f46 0) := loop_of (cfgOk_of mixed tys_ok (show FnsOk Tryz.prog C_s_ServerNew from ⟨fn_s_Roll, fn_s_JarNew, fn_s_TabNew, fn_s_ServerOk, trivial⟩)) hp (all_of (by kernel_rfl : loopsOf (nthLoop Tryz.f46 0) = []) trivial) (by kernel_rfl) lp_s_ServerNew_4
theorem e_s_ServerNew : ∀ d, pcall ⟨lookT tys, ctrOf C_s_ServerNew, kindOf C_s_ServerNew, 3, 4⟩ 0 Q_s_ServerNew Tryz.f46 .plain (mkA P_s_ServerNew d) = (T_s_ServerNew d.1 d.2.1 d.2.2.1).run fun r => some (O_s_ServerNew r) := fun d => by kernel_rfl
theorem fn_s_ServerNew : Fn Tryz.prog 46 .plain F_s_ServerNew := fn_of (cfgOk_of mixed tys_ok (show FnsOk Tryz.prog C_s_ServerNew from ⟨fn_s_Roll, fn_s_JarNew, fn_s_TabNew, fn_s_ServerOk, trivial⟩)) Tryz.func46 (by kernel_rfl) (by kernel_rfl) (fun cx b hp hb => all_of (by kernel_rfl : loopsOf (Tryz.f46.body.getD .skip) = [nthLoop Tryz.f46 0]) ⟨lo_s_ServerNew_4 cx hp, trivial⟩ b hb) (R := (YServer)) (T := fun (d : aden P_s_ServerNew) => T_s_ServerNew d.1 d.2.1 d.2.2.1) e_s_ServerNew
def P_i_clone : List (Bool × List Sh) := [(false, [.sl 5 [.int .u8]])]
def O_i_clone (r : (YBs)) : List RV × List RV := ([rv (false, [.sl 5 [.int .u8]]) r], [])
def C_i_clone : Fns := []
def F_i_clone : Fun1 := funV P_i_clone (fun d => (T_i_clone d.1).val) O_i_clone
def Q_i_clone : Loops := fun _ _ => .fail
theorem e_i_clone : ∀ d, pcall ⟨lookT tys, ctrOf C_i_clone, kindOf C_i_clone, 3, 4⟩ 0 Q_i_clone Tryz.f91 .plain (mkA P_i_clone d) = (T_i_clone d.1).run fun r => some (O_i_clone r) := fun d => by kernel_rfl
theorem fn_i_clone : Fn Tryz.prog 91 .plain F_i_clone := fn_of (cfgOk_of mixed tys_ok (show FnsOk Tryz.prog C_i_clone from trivial)) Tryz.func91 (by kernel_rfl) (by kernel_rfl) (fun cx b hp hb => all_of (by kernel_rfl : loopsOf (Tryz.f91.body.getD .skip) = []) trivial b hb) (R := (YBs)) (T := fun (d : aden P_i_clone) => T_i_clone d.1) e_i_clone
def P_i_within : List (Bool × List Sh) := [(false, [.int .i64]), (false, [.int .i64]), (false, [.int .i64])]
def O_i_within (r : (Bool × Unit)) : List RV × List RV := ([rv (false, [.bool]) r], [])
def C_i_within : Fns := []
def F_i_within : Fun1 := funV P_i_within (fun d => (T_i_within d.1 d.2.1 d.2.2.1).val) O_i_within
def Q_i_within : Loops := fun _ _ => .fail
theorem e_i_within : ∀ d, pcall ⟨lookT tys, ctrOf C_i_within, kindOf C_i_within, 3, 4⟩ 0 Q_i_within Tryz.f88 .plain (mkA P_i_within d) = (T_i_within d.1 d.2.1 d.2.2.1).run fun r => some (O_i_within r) := fun d => by kernel_rfl
theorem fn_i_within : Fn Tryz.prog 88 .plain F_i_within := fn_of (cfgOk_of mixed tys_ok (show FnsOk Tryz.prog C_i_within from trivial)) Tryz.func88 (by kernel_rfl) (by kernel_rfl) (fun cx b hp hb => all_of (by kernel_rfl : loopsOf (Tryz.f88.body.getD .skip) = []) trivial b hb) (R := (Bool × Unit)) (T := fun (d : aden P_i_within) => T_i_within d.1 d.2.1 d.2.2.1) e_i_within
def P_i_DiceOk : List (Bool × List Sh) := [(true, [.sl 5 [.int .u8], .int .i64])]
def O_i_DiceOk (r : (Bool × Unit)) : List RV × List RV := ([rv (false, [.bool]) r], [])
def C_i_DiceOk : Fns := [(88, .plain, F_i_within)]
def F_i_DiceOk : Fun1 := funV P_i_DiceOk (fun d => (T_i_DiceOk d.1).val) O_i_DiceOk
def Q_i_DiceOk : Loops := fun _ _ => .fail
theorem e_i_DiceOk : ∀ d, pcall ⟨lookT tys, ctrOf C_i_DiceOk, kindOf C_i_DiceOk, 3, 4⟩ 0 Q_i_DiceOk Tryz.f182 .plain (mkA P_i_DiceOk d) = (T_i_DiceOk d.1).run fun r => some (O_i_DiceOk r) := fun d => by kernel_rfl
theorem fn_i_DiceOk : Fn Tryz.prog 182 .plain F_i_DiceOk := fn_of (cfgOk_of mixed tys_ok (show FnsOk Tryz.prog C_i_DiceOk from ⟨fn_i_within, trivial⟩)) Tryz.func182 (by kernel_rfl) (by kernel_rfl) (fun cx b hp hb => all_of (by kernel_rfl : loopsOf (Tryz.f182.body.getD .skip) = []) trivial b hb) (R := (Bool × Unit)) (T := fun (d : aden P_i_DiceOk) => T_i_DiceOk d.1) e_i_DiceOk
def P_i_PutN : List (Bool × List Sh) := [(false, [.sl 5 [.int .u8]]), (false, [.int .i64]), (false, [.int .i64])]
def O_i_PutN (r : (YBs)) : List RV × List RV := ([rv (false, [.sl 5 [.int .u8]]) r], [])
def C_i_PutN : Fns := []
def F_i_PutN : Fun1 := funV P_i_PutN (fun d => (T_i_PutN d.1 d.2.1 d.2.2.1).val) O_i_PutN
def K_i_PutN_5 : Sk := ⟨[(1, .v false [(.int .i64, .nil)]), (7, .v false [(.sl 5 [.int .u8], (.own 6000000))]), (8, .v false [(.int .i64, .nil)])], [], [6000000]⟩
def X_i_PutN_5 : List (Ex × Sk) := [((.exit 0), ⟨[(7, .v false [(.sl 5 [.int .u8], (.own 6000000))])], [], [6000000]⟩)]
def Q_i_PutN : Loops := fun i st => cond (Nat.beq i 5) (lam K_i_PutN_5 6000000 X_i_PutN_5 B_i_PutN_5 st) <| .fail
theorem lp_i_PutN_5 : ∀ d, bod ⟨lookT tys, ctrOf C_i_PutN, kindOf C_i_PutN, 3, 4⟩ 0 Tryz.f214.ntmps Q_i_PutN (nthLoop Tryz.f214 0) K_i_PutN_5 6000000 X_i_PutN_5 d = B_i_PutN_5 d := fun d => by kernel_rfl
theorem lo_i_PutN_5 (cx : Cx) (hp : cx.pin.length ≤ 0) : LoopOk Tryz.prog cx Tryz.f214.ntmps Q_i_PutN (nthLoop Tryz.f214 0) := loop_of (cfgOk_of mixed tys_ok (show FnsOk Tryz.prog C_i_PutN from trivial)) hp (all_of (by kernel_rfl : loopsOf (nthLoop Tryz.f214 0) = []) trivial) (by kernel_rfl) lp_i_PutN_5
theorem e_i_PutN : ∀ d, pcall ⟨lookT tys, ctrOf C_i_PutN, kindOf C_i_PutN, 3, 4⟩ 0 Q_i_PutN Tryz.f214 .plain (mkA P_i_PutN d) = (T_i_PutN d.1 d.2.1 d.2.2.1).run fun r => some (O_i_PutN r) := fun d => by kernel_rfl
theorem fn_i_PutN : Fn Tryz.prog 214 .plain F_i_PutN := fn_of (cfgOk_of mixed tys_ok (show FnsOk Tryz.prog C_i_PutN from trivial)) Tryz.func214 (by kernel_rfl) (by kernel_rfl) (fun cx b hp hb => all_of (by kernel_rfl : loopsOf (Tryz.f214.body.getD .skip) = [nthLoop Tryz.f214 0]) ⟨lo_i_PutN_5 cx hp, trivial⟩ b hb) (R := (YBs)) (T := fun (d : aden P_i_PutN) => T_i_PutN d.1 d.2.1 d.2.2.1) e_i_PutN
def P_i_Start : List (Bool × List Sh) := []
def O_i_Start (r : ((List YI) × Unit)) : List RV × List RV := ([rv (false, [.sl 3 [.int .i64]]) r], [])
def C_i_Start : Fns := []
def F_i_Start : Fun1 := funV P_i_Start (fun d => (T_i_Start ).val) O_i_Start
def Q_i_Start : Loops := fun _ _ => .fail
theorem e_i_Start : ∀ d, pcall ⟨lookT tys, ctrOf C_i_Start, kindOf C_i_Start, 3, 4⟩ 0 Q_i_Start Tryz.f248 .plain (mkA P_i_Start d) = (T_i_Start ).run fun r => some (O_i_Start r) := fun d => by kernel_rfl
theorem fn_i_Start : Fn Tryz.prog 248 .plain F_i_Start := fn_of (cfgOk_of mixed tys_ok (show FnsOk Tryz.prog C_i_Start from trivial)) Tryz.func248 (by kernel_rfl) (by kernel_rfl) (fun cx b hp hb => all_of (by kernel_rfl : loopsOf (Tryz.f248.body.getD .skip) = []) trivial b hb) (R := ((List YI) × Unit)) (T := fun (d : aden P_i_Start) => T_i_Start ) e_i_Start
def P_i_HashNew : List (Bool × List Sh) := []
def O_i_HashNew (r : (YHash)) : List RV × List RV := ([rv (true, h_3) r], [])
def C_i_HashNew : Fns := [(248, .plain, F_i_Start)]
def F_i_HashNew : Fun1 := funV P_i_HashNew (fun d => (T_i_HashNew ).val) O_i_HashNew
def Q_i_HashNew : Loops := fun _ _ => .fail
theorem e_i_HashNew : ∀ d, pcall ⟨lookT tys, ctrOf C_i_HashNew, kindOf C_i_HashNew, 3, 4⟩ 0 Q_i_HashNew Tryz.f239 .plain (mkA P_i_HashNew d) = (T_i_HashNew ).run fun r => some (O_i_HashNew r) := fun d => by kernel_rfl
theorem fn_i_HashNew : Fn Tryz.prog 239 .plain F_i_HashNew := fn_of (cfgOk_of mixed tys_ok (show FnsOk Tryz.prog C_i_HashNew from ⟨fn_i_Start, trivial⟩)) Tryz.func239 (by kernel_rfl) (by kernel_rfl) (fun cx b hp hb => all_of (by kernel_rfl : loopsOf (Tryz.f239.body.getD .skip) = []) trivial b hb) (R := (YHash)) (T := fun (d : aden P_i_HashNew) => T_i_HashNew ) e_i_HashNew
def P_i_areWords : List (Bool × List Sh) := [(false, [.sl 3 [.int .i64]]), (false, [.int .i64])]
def O_i_areWords (r : (Bool × Unit)) : List RV × List RV := ([rv (false, [.bool]) r], [])
def C_i_areWords : Fns := [(88, .plain, F_i_within)]
def F_i_areWords : Fun1 := funV P_i_areWords (fun d => (T_i_areWords d.1 d.2.1).val) O_i_areWords
def K_i_areWords_2 : Sk := ⟨[(0, .v false [(.sl 3 [.int .i64], .ro)]), (1, .v false [(.int .i64, .nil)]), (7, .v false [(.sl 3 [.int .i64], .ro)]), (8, .v false [(.int .i64, .nil)]), (9, .v false [(.int .i64, .nil)])], [], []⟩
def X_i_areWords_2 : List (Ex × Sk) := [(.ret, ⟨[(4, .v false [(.bool, .nil)])], [], []⟩), ((.exit 0), ⟨[(0, .v false [(.sl 3 [.int .i64], .ro)]), (1, .v false [(.int .i64, .nil)])], [], []⟩)]
def Q_i_areWords : Loops := fun i st => cond (Nat.beq i 2) (lam K_i_areWords_2 3000000 X_i_areWords_2 B_i_areWords_2 st) <| .fail
theorem lp_i_areWords_2 : ∀ d, bod ⟨lookT tys, ctrOf C_i_areWords, kindOf C_i_areWords, 3, 4⟩ 0 Tryz.f231.ntmps Q_i_areWords (nthLoop Tryz.f231 0) K_i_areWords_2 3000000 X_i_areWords_2 d = B_i_areWords_2 d := fun d => by kernel_rfl
theorem lo_i_areWords_2 (cx : Cx) (hp : cx.pin.length ≤ 0) : LoopOk Tryz.prog cx Tryz.f231.ntmps Q_i_areWords (nthLoop Tryz.f231 0) := loop_of (cfgOk_of mixed tys_ok (show FnsOk Tryz.prog C_i_areWords from ⟨fn_i_within, trivial⟩)) hp (all_of (by kernel_rfl : loopsOf (nthLoop Tryz.f231 0) = []) trivial) (by kernel_rfl) lp_i_areWords_2
theorem e_i_areWords : ∀ d, pcall ⟨lookT tys, ctrOf C_i_areWords, kindOf C_i_areWords, 3, 4⟩ 0 Q_i_areWords Tryz.f231 .plain (mkA P_i_areWords d) = (T_i_areWords d.1 d.2.1).run fun r => some (O_i_areWords r) := fun d => by kernel_rfl
theorem fn_i_areWords : Fn Tryz.prog 231 .plain F_i_areWords := fn_of (cfgOk_of mixed tys_ok (show FnsOk Tryz.prog C_i_areWords from ⟨fn_i_within, trivial⟩)) Tryz.func231 (by kernel_rfl) (by kernel_rfl) (fun cx b hp hb => all_of (by kernel_rfl : loopsOf (Tryz.f231.body.getD .skip) = [nthLoop Tryz.f231 0]) ⟨lo_i_areWords_2 cx hp, trivial⟩ b hb) (R := (Bool × Unit)) (T := fun (d : aden P_i_areWords) => T_i_areWords d.1 d.2.1) e_i_areWords
def P_i_HashOk : List (Bool × List Sh) := [(true, h_3)]
def O_i_HashOk (r : (Bool × Unit)) : List RV × List RV := ([rv (false, [.bool]) r], [])
def C_i_HashOk : Fns := [(231, .plain, F_i_areWords), (88, .plain, F_i_within)]
def F_i_HashOk : Fun1 := funV P_i_HashOk (fun d => (T_i_HashOk d.1).val) O_i_HashOk
def Q_i_HashOk : Loops := fun _ _ => .fail
theorem e_i_HashOk : ∀ d, pcall ⟨lookT tys, ctrOf C_i_HashOk, kindOf C_i_HashOk, 3, 4⟩ 0 Q_i_HashOk Tryz.f244 .plain (mkA P_i_HashOk d) = (T_i_HashOk d.1).run fun r => some (O_i_HashOk r) := fun d => by kernel_rfl
theorem fn_i_HashOk : Fn Tryz.prog 244 .plain F_i_HashOk := fn_of (cfgOk_of mixed tys_ok (show FnsOk Tryz.prog C_i_HashOk from ⟨fn_i_areWords, fn_i_within, trivial⟩)) Tryz.func244 (by kernel_rfl) (by kernel_rfl) (fun cx b hp hb => all_of (by kernel_rfl : loopsOf (Tryz.f244.body.getD .skip) = []) trivial b hb) (R := (Bool × Unit)) (T := fun (d : aden P_i_HashOk) => T_i_HashOk d.1) e_i_HashOk
def P_i_joined : List (Bool × List Sh) := [(false, [.sl 25 [.sl 5 [.int .u8]]])]
def O_i_joined (r : (YBs)) : List RV × List RV := ([rv (false, [.sl 5 [.int .u8]]) r], [])
def C_i_joined : Fns := []
def F_i_joined : Fun1 := funV P_i_joined (fun d => (T_i_joined d.1).val) O_i_joined
def K_i_joined_3 : Sk := ⟨[(3, .v false [(.sl 5 [.int .u8], (.own 4000000))]), (7, .v false [(.sl 25 [.sl 5 [.int .u8]], .ro)]), (8, .v false [(.int .i64, .nil)]), (9, .v false [(.int .i64, .nil)])], [], [4000000]⟩
def X_i_joined_3 : List (Ex × Sk) := [((.exit 0), ⟨[(3, .v false [(.sl 5 [.int .u8], (.own 4000000))])], [], [4000000]⟩)]
def Q_i_joined : Loops := fun i st => cond (Nat.beq i 3) (lam K_i_joined_3 4000000 X_i_joined_3 B_i_joined_3 st) <| .fail
theorem lp_i_joined_3 : ∀ d, bod ⟨lookT tys, ctrOf C_i_joined, kindOf C_i_joined, 3, 4⟩ 0 Tryz.f208.ntmps Q_i_joined (nthLoop Tryz.f208 0) K_i_joined_3 4000000 X_i_joined_3 d = B_i_joined_3 d := fun d => by kernel_rfl
theorem lo_i_joined_3 (cx : Cx) (hp : cx.pin.length ≤ 0) : LoopOk Tryz.prog cx Tryz.f208.ntmps Q_i_joined (nthLoop Tryz.f208 0) := loop_of (cfgOk_of mixed tys_ok (show FnsOk Tryz.prog C_i_joined from trivial)) hp (all_of (by kernel_rfl : loopsOf (nthLoop Tryz.f208 0) = []) trivial) (by kernel_rfl) lp_i_joined_3
theorem e_i_joined : ∀ d, pcall ⟨lookT tys, ctrOf C_i_joined, kindOf C_i_joined, 3, 4⟩ 0 Q_i_joined Tryz.f208 .plain (mkA P_i_joined d) = (T_i_joined d.1).run fun r => some (O_i_joined r) := fun d => by kernel_rfl
theorem fn_i_joined : Fn Tryz.prog 208 .plain F_i_joined := fn_of (cfgOk_of mixed tys_ok (show FnsOk Tryz.prog C_i_joined from trivial)) Tryz.func208 (by kernel_rfl) (by kernel_rfl) (fun cx b hp hb => all_of (by kernel_rfl : loopsOf (Tryz.f208.body.getD .skip) = [nthLoop Tryz.f208 0]) ⟨lo_i_joined_3 cx hp, trivial⟩ b hb) (R := (YBs)) (T := fun (d : aden P_i_joined) => T_i_joined d.1) e_i_joined
def P_i_Cut : List (Bool × List Sh) := [(false, [.sl 5 [.int .u8]]), (false, [.int .i64]), (false, [.int .i64])]
def O_i_Cut (r : (YBs) × (Bool × Unit)) : List RV × List RV := ([rv (false, [.sl 5 [.int .u8]]) r.1, rv (false, [.bool]) r.2], [])
def C_i_Cut : Fns := []
def F_i_Cut : Fun1 := funV P_i_Cut (fun d => (T_i_Cut d.1 d.2.1 d.2.2.1).val) O_i_Cut
def Q_i_Cut : Loops := fun _ _ => .fail
theorem e_i_Cut : ∀ d, pcall ⟨lookT tys, ctrOf C_i_Cut, kindOf C_i_Cut, 3, 4⟩ 0 Q_i_Cut Tryz.f256 .plain (mkA P_i_Cut d) = (T_i_Cut d.1 d.2.1 d.2.2.1).run fun r => some (O_i_Cut r) := fun d => by kernel_rfl
theorem fn_i_Cut : Fn Tryz.prog 256 .plain F_i_Cut := fn_of (cfgOk_of mixed tys_ok (show FnsOk Tryz.prog C_i_Cut from trivial)) Tryz.func256 (by kernel_rfl) (by kernel_rfl) (fun cx b hp hb => all_of (by kernel_rfl : loopsOf (Tryz.f256.body.getD .skip) = []) trivial b hb) (R := (YBs) × (Bool × Unit)) (T := fun (d : aden P_i_Cut) => T_i_Cut d.1 d.2.1 d.2.2.1) e_i_Cut
def P_i_GetN : List (Bool × List Sh) := [(false, [.sl 5 [.int .u8]]), (false, [.int .i64]), (false, [.int .i64])]
def O_i_GetN (r : (YI) × (YI) × (Bool × Unit)) : List RV × List RV := ([rv (false, [.int .i64]) r.1, rv (false, [.int .i64]) r.2.1, rv (false, [.bool]) r.2.2], [])
def C_i_GetN : Fns := [(256, .plain, F_i_Cut)]
def F_i_GetN : Fun1 := funV P_i_GetN (fun d => (T_i_GetN d.1 d.2.1 d.2.2.1).val) O_i_GetN
def K_i_GetN_8 : Sk := ⟨[(1, .v false [(.int .i64, .nil)]), (2, .v false [(.int .i64, .nil)]), (11, .v false [(.int .i64, .nil)]), (29, .v false [(.sl 5 [.int .u8], (.own 9000000))]), (30, .v false [(.int .i64, .nil)]), (31, .v false [(.int .i64, .nil)])], [], [9000000]⟩
def X_i_GetN_8 : List (Ex × Sk) := [((.exit 0), ⟨[(1, .v false [(.int .i64, .nil)]), (2, .v false [(.int .i64, .nil)]), (11, .v false [(.int .i64, .nil)])], [], []⟩)]
def Q_i_GetN : Loops := fun i st => cond (Nat.beq i 8) (lam K_i_GetN_8 9000000 X_i_GetN_8 B_i_GetN_8 st) <| .fail
theorem lp_i_GetN_8 : ∀ d, bod ⟨lookT tys, ctrOf C_i_GetN, kindOf C_i_GetN, 3, 4⟩ 0 Tryz.f255.ntmps Q_i_GetN (nthLoop Tryz.f255 0) K_i_GetN_8 9000000 X_i_GetN_8 d = B_i_GetN_8 d := fun d => by kernel_rfl
theorem lo_i_GetN_8 (cx : Cx) (hp : cx.pin.length ≤ 0) : LoopOk Tryz.prog cx Tryz.f255.ntmps Q_i_GetN (nthLoop Tryz.f255 0) := loop_of (cfgOk_of mixed tys_ok (show FnsOk Tryz.prog C_i_GetN from ⟨fn_i_Cut, trivial⟩)) hp (all_of (by kernel_rfl : loopsOf (nthLoop Tryz.f255 0) = []) trivial) (by kernel_rfl) lp_i_GetN_8
theorem e_i_GetN : ∀ d, pcall ⟨lookT tys, ctrOf C_i_GetN, kindOf C_i_GetN, 3, 4⟩ 0 Q_i_GetN Tryz.f255 .plain (mkA P_i_GetN d) = (T_i_GetN d.1 d.2.1 d.2.2.1).run fun r => some (O_i_GetN r) := fun d => by kernel_rfl
theorem fn_i_GetN : Fn Tryz.prog 255 .plain F_i_GetN := fn_of (cfgOk_of mixed tys_ok (show FnsOk Tryz.prog C_i_GetN from ⟨fn_i_Cut, trivial⟩)) Tryz.func255 (by kernel_rfl) (by kernel_rfl) (fun cx b hp hb => all_of (by kernel_rfl : loopsOf (Tryz.f255.body.getD .skip) = [nthLoop Tryz.f255 0]) ⟨lo_i_GetN_8 cx hp, trivial⟩ b hb) (R := (YI) × (YI) × (Bool × Unit)) (T := fun (d : aden P_i_GetN) => T_i_GetN d.1 d.2.1 d.2.2.1) e_i_GetN
def P_i_Rot : List (Bool × List Sh) := [(false, [.int .i64]), (false, [.int .i64])]
def O_i_Rot (r : (YI)) : List RV × List RV := ([rv (false, [.int .i64]) r], [])
def C_i_Rot : Fns := []
def F_i_Rot : Fun1 := funV P_i_Rot (fun d => (T_i_Rot d.1 d.2.1).val) O_i_Rot
def Q_i_Rot : Loops := fun _ _ => .fail
theorem e_i_Rot : ∀ d, pcall ⟨lookT tys, ctrOf C_i_Rot, kindOf C_i_Rot, 3, 4⟩ 0 Q_i_Rot Tryz.f252 .plain (mkA P_i_Rot d) = (T_i_Rot d.1 d.2.1).run fun r => some (O_i_Rot r) := fun d => by kernel_rfl
theorem fn_i_Rot : Fn Tryz.prog 252 .plain F_i_Rot := fn_of (cfgOk_of mixed tys_ok (show FnsOk Tryz.prog C_i_Rot from trivial)) Tryz.func252 (by kernel_rfl) (by kernel_rfl) (fun cx b hp hb => all_of (by kernel_rfl : loopsOf (Tryz.f252.body.getD .skip) = []) trivial b hb) (R := (YI)) (T := fun (d : aden P_i_Rot) => T_i_Rot d.1 d.2.1) e_i_Rot
def P_i_Schedule : List (Bool × List Sh) := [(false, [.sl 5 [.int .u8]])]
def O_i_Schedule (r : ((List YI) × Unit)) : List RV × List RV := ([rv (false, [.sl 3 [.int .i64]]) r], [])
def C_i_Schedule : Fns := [(255, .plain, F_i_GetN), (252, .plain, F_i_Rot)]
def F_i_Schedule : Fun1 := funV P_i_Schedule (fun d => (T_i_Schedule d.1).val) O_i_Schedule
def K_i_Schedule_9 : Sk := ⟨[(3, .v false [(.sl 3 [.int .i64], (.own 10000000))]), (5, .v false [(.int .i64, .nil)])], [], [10000000]⟩
def X_i_Schedule_9 : List (Ex × Sk) := [((.exit 2), ⟨[(3, .v false [(.sl 3 [.int .i64], (.own 10000000))])], [], [10000000]⟩)]
def K_i_Schedule_5 : Sk := ⟨[(0, .v false [(.sl 5 [.int .u8], .ro)]), (3, .v false [(.sl 3 [.int .i64], (.own 6000000))]), (4, .v false [(.int .i64, .nil)])], [], [6000000]⟩
def X_i_Schedule_5 : List (Ex × Sk) := [((.exit 0), ⟨[(3, .v false [(.sl 3 [.int .i64], (.own 6000000))])], [], [6000000]⟩)]
def Q_i_Schedule : Loops := fun i st => cond (Nat.beq i 5) (lam K_i_Schedule_5 6000000 X_i_Schedule_5 B_i_Schedule_5 st) <| cond (Nat.beq i 9) (lam K_i_Schedule_9 10000000 X_i_Schedule_9 B_i_Schedule_9 st) <| .fail
theorem lp_i_Schedule_5 : ∀ d, bod ⟨lookT tys, ctrOf C_i_Schedule, kindOf C_i_Schedule, 3, 4⟩ 0 Tryz.f251.ntmps Q_i_Schedule (nthLoop Tryz.f251 0) K_i_Schedule_5 6000000 X_i_Schedule_5 d = B_i_Schedule_5 d := fun d => by kernel_rfl
theorem lo_i_Schedule_5 (cx : Cx) (hp : cx.pin.length ≤ 0) : LoopOk Tryz.prog cx Tryz.f251.ntmps Q_i_Schedule (nthLoop Tryz.f251 0) := loop_of (cfgOk_of mixed tys_ok (show FnsOk Tryz.prog C_i_Schedule from ⟨fn_i_GetN, fn_i_Rot, trivial⟩)) hp (all_of (by kernel_rfl : loopsOf (nthLoop Tryz.f251 0) = []) trivial) (by kernel_rfl) lp_i_Schedule_5
theorem lp_i_Schedule_9 : ∀ d, bod ⟨lookT tys, ctrOf C_i_Schedule, kindOf C_i_Schedule, 3, 4⟩ 0 Tryz.f251.ntmps Q_i_Schedule (nthLoop Tryz.f251 1) K_i_Schedule_9 10000000 X_i_Schedule_9 d = B_i_Schedule_9 d := fun d => by kernel_rfl
theorem lo_i_Schedule_9 (cx : Cx) (hp : cx.pin.length ≤ 0) : LoopOk Tryz.prog cx Tryz.f251.ntmps Q_i_Schedule (nthLoop Tryz.f251 1) := loop_of (cfgOk_of mixed tys_ok (show FnsOk Tryz.prog C_i_Schedule from ⟨fn_i_GetN, fn_i_Rot, trivial⟩)) hp (all_of (by kernel_rfl : loopsOf (nthLoop Tryz.f251 1) = []) trivial) (by kernel_rfl) lp_i_Schedule_9
theorem e_i_Schedule : ∀ d, pcall ⟨lookT tys, ctrOf C_i_Schedule, kindOf C_i_Schedule, 3, 4⟩ 0 Q_i_Schedule Tryz.f251 .plain (mkA P_i_Schedule d) = (T_i_Schedule d.1).run fun r => some (O_i_Schedule r) := fun d => by kernel_rfl
theorem fn_i_Schedule : Fn Tryz.prog 251 .plain F_i_Schedule := fn_of (cfgOk_of mixed tys_ok (show FnsOk Tryz.prog C_i_Schedule from ⟨fn_i_GetN, fn_i_Rot, trivial⟩)) Tryz.func251 (by kernel_rfl) (by kernel_rfl) (fun cx b hp hb => all_of (by kernel_rfl : loopsOf (Tryz.f251.body.getD .skip) = [nthLoop Tryz.f251 0, nthLoop Tryz.f251 1]) ⟨lo_i_Schedule_5 cx hp, lo_i_Schedule_9 cx hp, trivial⟩ b hb) (R := ((List YI) × Unit)) (T := fun (d : aden P_i_Schedule) => T_i_Schedule d.1) e_i_Schedule
theorem round_any (n : Int) (w : World) (h0 : 0 ≤ n) (h1 : n ≤ 63) :
    Calls Tryz.prog 253 #[.int .i64 n] w (Ret w (.int .i64 (roundL[n.toNat]?.getD 0))) := by
  have hx : ∃ x, roundL[n.toNat]? = some x := ⟨_, List.getElem?_eq_getElem (by simp [roundL]; omega)⟩
  obtain ⟨x, hx⟩ := hx
  have hcell : (putRow 239 w roundC).cell? ⟨w.heap.size, n.toNat, none⟩ = some (.int .i64 x) := by
    rw [putRow_cell]; unfold roundC; rw [List.getElem?_toArray, List.getElem?_map, hx]; rfl
  rw [hx]
  go_enter Tryz.func253, Tryz.ntmps253
  go_wp2_with (first | (refine wpList_buildC rfl 239 _ rfl roundC (by kernel_rfl) ?_) | (refine wpList_allocC rfl 239 rfl _ _ zeroC (by kernel_rfl) (by kernel_rfl) (by kernel_rfl) ?_) | (refine wpList_storeC rfl 239 _ _ rfl roundC rfl rfl (by kernel_rfl) (by kernel_rfl) (by kernel_rfl) ?_))
  go_ret
  refine Ret.mk rfl ?_
  rw [putRow_eq]
  exact (Grew.refl _).alloc _
theorem round_out (n : Int) (w : World) (h0 : ¬ (0 ≤ n ∧ n ≤ 63)) :
    Calls Tryz.prog 253 #[.int .i64 n] w (Ret w (.int .i64 0)) := by
  by_cases h : n < 0
  · go_enter Tryz.func253, Tryz.ntmps253
    go_wp2_with fail
    go_ret
    exact Ret.mk rfl (Grew.refl _)
  · have h2 : 63 < n := by omega
    go_enter Tryz.func253, Tryz.ntmps253
    go_wp2_with fail
    go_ret
    exact Ret.mk rfl (Grew.refl _)
def P_i_RoundWord : List (Bool × List Sh) := [(false, [.int .i64])]
def O_i_RoundWord (r : YI) : List RV × List RV := ([rv (false, [.int .i64]) r], [])
def F_i_RoundWord : Fun1 := funV P_i_RoundWord (fun d => (T_i_RoundWord d.1).val) O_i_RoundWord
theorem fn_i_RoundWord : Fn Tryz.prog 253 .plain F_i_RoundWord := by
  refine ⟨?_, Tryz.f253, Tryz.func253, by kernel_rfl, by kernel_rfl⟩
  intro rs res vals w G hv hG hr
  obtain ⟨d, x, rfl, h1, h2⟩ := funV_val hv
  obtain ⟨⟨n, _⟩, _⟩ := d
  cases h1
  subst h2
  match vals, hr with
  | [v], hr =>
    have e : v = .int .i64 n := hr.1.1.1
    subst e
    refine (?_ : Calls Tryz.prog 253 #[.int .i64 n] w (Ret w (.int .i64 (roundW n)))).mono fun e w' h => gives_int (roundW_wf n) h
    unfold roundW
    by_cases h : 0 ≤ n ∧ n ≤ 63
    · rw [if_pos h]; exact round_any n w h.1 h.2
    · rw [if_neg h]; exact round_out n w h

def P_i_Add32 : List (Bool × List Sh) := [(false, [.int .i64]), (false, [.int .i64])]
def O_i_Add32 (r : (YI)) : List RV × List RV := ([rv (false, [.int .i64]) r], [])
def C_i_Add32 : Fns := []
def F_i_Add32 : Fun1 := funV P_i_Add32 (fun d => (T_i_Add32 d.1 d.2.1).val) O_i_Add32
def Q_i_Add32 : Loops := fun _ _ => .fail
theorem e_i_Add32 : ∀ d, pcall ⟨lookT tys, ctrOf C_i_Add32, kindOf C_i_Add32, 3, 4⟩ 0 Q_i_Add32 Tryz.f254 .plain (mkA P_i_Add32 d) = (T_i_Add32 d.1 d.2.1).run fun r => some (O_i_Add32 r) := fun d => by kernel_rfl
theorem fn_i_Add32 : Fn Tryz.prog 254 .plain F_i_Add32 := fn_of (cfgOk_of mixed tys_ok (show FnsOk Tryz.prog C_i_Add32 from trivial)) Tryz.func254 (by kernel_rfl) (by kernel_rfl) (fun cx b hp hb => all_of (by kernel_rfl : loopsOf (Tryz.f254.body.getD .skip) = []) trivial b hb) (R := (YI)) (T := fun (d : aden P_i_Add32) => T_i_Add32 d.1 d.2.1) e_i_Add32
def P_i_Compress : List (Bool × List Sh) := [(false, [.sl 3 [.int .i64]]), (false, [.sl 5 [.int .u8]])]
def O_i_Compress (r : ((List YI) × Unit)) : List RV × List RV := ([rv (false, [.sl 3 [.int .i64]]) r], [])
def C_i_Compress : Fns := [(231, .plain, F_i_areWords), (251, .plain, F_i_Schedule), (252, .plain, F_i_Rot), (253, .plain, F_i_RoundWord), (254, .plain, F_i_Add32)]
def F_i_Compress : Fun1 := funV P_i_Compress (fun d => (T_i_Compress d.1 d.2.1).val) O_i_Compress
def K_i_Compress_16 : Sk := ⟨[(0, .v false [(.sl 3 [.int .i64], .ro)]), (5, .v false [(.sl 3 [.int .i64], (.own 17000000))]), (133, .v false [(.sl 3 [.int .i64], (.own 17000001))]), (134, .v false [(.int .i64, .nil)]), (135, .v false [(.int .i64, .nil)])], [], [17000000, 17000001]⟩
def X_i_Compress_16 : List (Ex × Sk) := [((.exit 2), ⟨[(5, .v false [(.sl 3 [.int .i64], (.own 17000000))])], [], [17000000]⟩)]
def K_i_Compress_7 : Sk := ⟨[(0, .v false [(.sl 3 [.int .i64], .ro)]), (5, .v false [(.sl 3 [.int .i64], (.own 8000000))]), (6, .v false [(.sl 3 [.int .i64], (.own 8000001))]), (7, .v false [(.int .i64, .nil)]), (8, .v false [(.int .i64, .nil)]), (9, .v false [(.int .i64, .nil)]), (10, .v false [(.int .i64, .nil)]), (11, .v false [(.int .i64, .nil)]), (12, .v false [(.int .i64, .nil)]), (13, .v false [(.int .i64, .nil)]), (14, .v false [(.int .i64, .nil)]), (15, .v false [(.int .i64, .nil)])], [], [8000000, 8000001]⟩
def X_i_Compress_7 : List (Ex × Sk) := [((.exit 0), ⟨[(0, .v false [(.sl 3 [.int .i64], .ro)]), (5, .v false [(.sl 3 [.int .i64], (.own 8000000))]), (7, .v false [(.int .i64, .nil)]), (8, .v false [(.int .i64, .nil)]), (9, .v false [(.int .i64, .nil)]), (10, .v false [(.int .i64, .nil)]), (11, .v false [(.int .i64, .nil)]), (12, .v false [(.int .i64, .nil)]), (13, .v false [(.int .i64, .nil)]), (14, .v false [(.int .i64, .nil)])], [], [8000000]⟩)]
def Q_i_Compress : Loops := fun i st => cond (Nat.beq i 7) (lam K_i_Compress_7 8000000 X_i_Compress_7 B_i_Compress_7 st) <| cond (Nat.beq i 16) (lam K_i_Compress_16 17000000 X_i_Compress_16 B_i_Compress_16 st) <| .fail
theorem lp_i_Compress_7 : ∀ d, bod ⟨lookT tys, ctrOf C_i_Compress, kindOf C_i_Compress, 3, 4⟩ 0 Tryz.f250.ntmps Q_i_Compress (nthLoop Tryz.f250 0) K_i_Compress_7 8000000 X_i_Compress_7 d = B_i_Compress_7 d := fun d => by kernel_rfl
theorem lo_i_Compress_7 (cx : Cx) (hp : cx.pin.length ≤ 0) : LoopOk Tryz.prog cx Tryz.f250.ntmps Q_i_Compress (nthLoop Tryz.f250 0) := loop_of (cfgOk_of mixed tys_ok (show FnsOk Tryz.prog C_i_Compress from ⟨fn_i_areWords, fn_i_Schedule, fn_i_Rot, fn_i_RoundWord, fn_i_Add32, trivial⟩)) hp (all_of (by kernel_rfl : loopsOf (nthLoop Tryz.f250 0) = []) trivial) (by kernel_rfl) lp_i_Compress_7
theorem lp_i_Compress_16 : ∀ d, bod ⟨lookT tys, ctrOf C_i_Compress, kindOf C_i_Compress, 3, 4⟩ 0 Tryz.f250.ntmps Q_i_Compress (nthLoop Tryz.f250 1) K_i_Compress_16 17000000 X_i_Compress_16 d = B_i_Compress_16 d := fun d => by kernel_rfl
theorem lo_i_Compress_16 (cx : Cx) (hp : cx.pin.length ≤ 0) : LoopOk Tryz.prog cx Tryz.f250.ntmps Q_i_Compress (nthLoop Tryz.f250 1) := loop_of (cfgOk_of mixed tys_ok (show FnsOk Tryz.prog C_i_Compress from ⟨fn_i_areWords, fn_i_Schedule, fn_i_Rot, fn_i_RoundWord, fn_i_Add32, trivial⟩)) hp (all_of (by kernel_rfl : loopsOf (nthLoop Tryz.f250 1) = []) trivial) (by kernel_rfl) lp_i_Compress_16
theorem e_i_Compress : ∀ d, pcall ⟨lookT tys, ctrOf C_i_Compress, kindOf C_i_Compress, 3, 4⟩ 0 Q_i_Compress Tryz.f250 .plain (mkA P_i_Compress d) = (T_i_Compress d.1 d.2.1).run fun r => some (O_i_Compress r) := fun d => by kernel_rfl
theorem fn_i_Compress : Fn Tryz.prog 250 .plain F_i_Compress := fn_of (cfgOk_of mixed tys_ok (show FnsOk Tryz.prog C_i_Compress from ⟨fn_i_areWords, fn_i_Schedule, fn_i_Rot, fn_i_RoundWord, fn_i_Add32, trivial⟩)) Tryz.func250 (by kernel_rfl) (by kernel_rfl) (fun cx b hp hb => all_of (by kernel_rfl : loopsOf (Tryz.f250.body.getD .skip) = [nthLoop Tryz.f250 0, nthLoop Tryz.f250 1]) ⟨lo_i_Compress_7 cx hp, lo_i_Compress_16 cx hp, trivial⟩ b hb) (R := ((List YI) × Unit)) (T := fun (d : aden P_i_Compress) => T_i_Compress d.1 d.2.1) e_i_Compress
def P_i_compressAll : List (Bool × List Sh) := [(false, [.sl 3 [.int .i64]]), (false, [.sl 5 [.int .u8]])]
def O_i_compressAll (r : ((List YI) × Unit) × (YBs)) : List RV × List RV := ([rv (false, [.sl 3 [.int .i64]]) r.1, rv (false, [.sl 5 [.int .u8]]) r.2], [])
def C_i_compressAll : Fns := [(250, .plain, F_i_Compress)]
def F_i_compressAll : Fun1 := funV P_i_compressAll (fun d => (T_i_compressAll d.1 d.2.1).val) O_i_compressAll
def K_i_compressAll_1 : Sk := ⟨[(0, .v false [(.sl 3 [.int .i64], .rd)]), (1, .v false [(.sl 5 [.int .u8], .ro)])], [], []⟩
def X_i_compressAll_1 : List (Ex × Sk) := [((.exit 0), ⟨[(0, .v false [(.sl 3 [.int .i64], .rd)]), (1, .v false [(.sl 5 [.int .u8], .ro)])], [], []⟩)]
def Q_i_compressAll : Loops := fun i st => cond (Nat.beq i 1) (lam K_i_compressAll_1 2000000 X_i_compressAll_1 B_i_compressAll_1 st) <| .fail
theorem lp_i_compressAll_1 : ∀ d, bod ⟨lookT tys, ctrOf C_i_compressAll, kindOf C_i_compressAll, 3, 4⟩ 0 Tryz.f245.ntmps Q_i_compressAll (nthLoop Tryz.f245 0) K_i_compressAll_1 2000000 X_i_compressAll_1 d = B_i_compressAll_1 d := fun d => by kernel_rfl
theorem lo_i_compressAll_1 (cx : Cx) (hp : cx.pin.length ≤ 0) : LoopOk Tryz.prog cx Tryz.f245.ntmps Q_i_compressAll (nthLoop Tryz.f245 0) := loop_of (cfgOk_of mixed tys_ok (show FnsOk Tryz.prog C_i_compressAll from ⟨fn_i_Compress, trivial⟩)) hp (all_of (by kernel_rfl : loopsOf (nthLoop Tryz.f245 0) = []) trivial) (by kernel_rfl) lp_i_compressAll_1
theorem e_i_compressAll : ∀ d, pcall ⟨lookT tys, ctrOf C_i_compressAll, kindOf C_i_compressAll, 3, 4⟩ 0 Q_i_compressAll Tryz.f245 .view (mkA P_i_compressAll d) = (T_i_compressAll d.1 d.2.1).run fun r => some (O_i_compressAll r) := fun d => by kernel_rfl
theorem fn_i_compressAll : Fn Tryz.prog 245 .view F_i_compressAll := fn_of (cfgOk_of mixed tys_ok (show FnsOk Tryz.prog C_i_compressAll from ⟨fn_i_Compress, trivial⟩)) Tryz.func245 (by kernel_rfl) (by kernel_rfl) (fun cx b hp hb => all_of (by kernel_rfl : loopsOf (Tryz.f245.body.getD .skip) = [nthLoop Tryz.f245 0]) ⟨lo_i_compressAll_1 cx hp, trivial⟩ b hb) (R := ((List YI) × Unit) × (YBs)) (T := fun (d : aden P_i_compressAll) => T_i_compressAll d.1 d.2.1) e_i_compressAll
def P_i_HashAdd : List (Bool × List Sh) := [(true, h_3), (false, [.sl 5 [.int .u8]])]
def O_i_HashAdd (r : (YHash)) : List RV × List RV := ([rv (true, h_3) r], [])
def C_i_HashAdd : Fns := [(244, .plain, F_i_HashOk), (91, .plain, F_i_clone), (208, .plain, F_i_joined), (245, .view, F_i_compressAll)]
def F_i_HashAdd : Fun1 := funV P_i_HashAdd (fun d => (T_i_HashAdd d.1 d.2.1).val) O_i_HashAdd
def Q_i_HashAdd : Loops := fun _ _ => .fail
theorem e_i_HashAdd : ∀ d, pcall ⟨lookT tys, ctrOf C_i_HashAdd, kindOf C_i_HashAdd, 3, 4⟩ 0 Q_i_HashAdd Tryz.f238 .plain (mkA P_i_HashAdd d) = (T_i_HashAdd d.1 d.2.1).run fun r => some (O_i_HashAdd r) := fun d => by kernel_rfl
theorem fn_i_HashAdd : Fn Tryz.prog 238 .plain F_i_HashAdd := fn_of (cfgOk_of mixed tys_ok (show FnsOk Tryz.prog C_i_HashAdd from ⟨fn_i_HashOk, fn_i_clone, fn_i_joined, fn_i_compressAll, trivial⟩)) Tryz.func238 (by kernel_rfl) (by kernel_rfl) (fun cx b hp hb => all_of (by kernel_rfl : loopsOf (Tryz.f238.body.getD .skip) = []) trivial b hb) (R := (YHash)) (T := fun (d : aden P_i_HashAdd) => T_i_HashAdd d.1 d.2.1) e_i_HashAdd
def P_i_Pad : List (Bool × List Sh) := [(false, [.int .i64])]
def O_i_Pad (r : (YBs)) : List RV × List RV := ([rv (false, [.sl 5 [.int .u8]]) r], [])
def C_i_Pad : Fns := [(88, .plain, F_i_within), (214, .plain, F_i_PutN)]
def F_i_Pad : Fun1 := funV P_i_Pad (fun d => (T_i_Pad d.1).val) O_i_Pad
def K_i_Pad_4 : Sk := ⟨[(0, .v false [(.int .i64, .nil)]), (3, .v false [(.sl 5 [.int .u8], (.own 5000000))])], [], [5000000]⟩
def X_i_Pad_4 : List (Ex × Sk) := [((.exit 0), ⟨[(0, .v false [(.int .i64, .nil)]), (3, .v false [(.sl 5 [.int .u8], (.own 5000000))])], [], [5000000]⟩)]
def Q_i_Pad : Loops := fun i st => cond (Nat.beq i 4) (lam K_i_Pad_4 5000000 X_i_Pad_4 B_i_Pad_4 st) <| .fail
theorem lp_i_Pad_4 : ∀ d, bod ⟨lookT tys, ctrOf C_i_Pad, kindOf C_i_Pad, 3, 4⟩ 0 Tryz.f246.ntmps Q_i_Pad (nthLoop Tryz.f246 0) K_i_Pad_4 5000000 X_i_Pad_4 d = B_i_Pad_4 d := fun d => by kernel_rfl
theorem lo_i_Pad_4 (cx : Cx) (hp : cx.pin.length ≤ 0) : LoopOk Tryz.prog cx Tryz.f246.ntmps Q_i_Pad (nthLoop Tryz.f246 0) := loop_of (cfgOk_of mixed tys_ok (show FnsOk Tryz.prog C_i_Pad from ⟨fn_i_within, fn_i_PutN, trivial⟩)) hp (all_of (by kernel_rfl : loopsOf (nthLoop Tryz.f246 0) = []) trivial) (by kernel_rfl) lp_i_Pad_4
theorem e_i_Pad : ∀ d, pcall ⟨lookT tys, ctrOf C_i_Pad, kindOf C_i_Pad, 3, 4⟩ 0 Q_i_Pad Tryz.f246 .plain (mkA P_i_Pad d) = (T_i_Pad d.1).run fun r => some (O_i_Pad r) := fun d => by kernel_rfl
theorem fn_i_Pad : Fn Tryz.prog 246 .plain F_i_Pad := fn_of (cfgOk_of mixed tys_ok (show FnsOk Tryz.prog C_i_Pad from ⟨fn_i_within, fn_i_PutN, trivial⟩)) Tryz.func246 (by kernel_rfl) (by kernel_rfl) (fun cx b hp hb => all_of (by kernel_rfl : loopsOf (Tryz.f246.body.getD .skip) = [nthLoop Tryz.f246 0]) ⟨lo_i_Pad_4 cx hp, trivial⟩ b hb) (R := (YBs)) (T := fun (d : aden P_i_Pad) => T_i_Pad d.1) e_i_Pad
def P_i_wordBytes : List (Bool × List Sh) := [(false, [.sl 3 [.int .i64]])]
def O_i_wordBytes (r : (YBs)) : List RV × List RV := ([rv (false, [.sl 5 [.int .u8]]) r], [])
def C_i_wordBytes : Fns := [(214, .plain, F_i_PutN)]
def F_i_wordBytes : Fun1 := funV P_i_wordBytes (fun d => (T_i_wordBytes d.1).val) O_i_wordBytes
def K_i_wordBytes_3 : Sk := ⟨[(3, .v false [(.sl 5 [.int .u8], (.own 4000000))]), (7, .v false [(.sl 3 [.int .i64], .ro)]), (8, .v false [(.int .i64, .nil)]), (9, .v false [(.int .i64, .nil)])], [], [4000000]⟩
def X_i_wordBytes_3 : List (Ex × Sk) := [((.exit 0), ⟨[(3, .v false [(.sl 5 [.int .u8], (.own 4000000))])], [], [4000000]⟩)]
def Q_i_wordBytes : Loops := fun i st => cond (Nat.beq i 3) (lam K_i_wordBytes_3 4000000 X_i_wordBytes_3 B_i_wordBytes_3 st) <| .fail
theorem lp_i_wordBytes_3 : ∀ d, bod ⟨lookT tys, ctrOf C_i_wordBytes, kindOf C_i_wordBytes, 3, 4⟩ 0 Tryz.f247.ntmps Q_i_wordBytes (nthLoop Tryz.f247 0) K_i_wordBytes_3 4000000 X_i_wordBytes_3 d = B_i_wordBytes_3 d := fun d => by kernel_rfl
theorem lo_i_wordBytes_3 (cx : Cx) (hp : cx.pin.length ≤ 0) : LoopOk Tryz.prog cx Tryz.f247.ntmps Q_i_wordBytes (nthLoop Tryz.f247 0) := loop_of (cfgOk_of mixed tys_ok (show FnsOk Tryz.prog C_i_wordBytes from ⟨fn_i_PutN, trivial⟩)) hp (all_of (by kernel_rfl : loopsOf (nthLoop Tryz.f247 0) = []) trivial) (by kernel_rfl) lp_i_wordBytes_3
theorem e_i_wordBytes : ∀ d, pcall ⟨lookT tys, ctrOf C_i_wordBytes, kindOf C_i_wordBytes, 3, 4⟩ 0 Q_i_wordBytes Tryz.f247 .plain (mkA P_i_wordBytes d) = (T_i_wordBytes d.1).run fun r => some (O_i_wordBytes r) := fun d => by kernel_rfl
theorem fn_i_wordBytes : Fn Tryz.prog 247 .plain F_i_wordBytes := fn_of (cfgOk_of mixed tys_ok (show FnsOk Tryz.prog C_i_wordBytes from ⟨fn_i_PutN, trivial⟩)) Tryz.func247 (by kernel_rfl) (by kernel_rfl) (fun cx b hp hb => all_of (by kernel_rfl : loopsOf (Tryz.f247.body.getD .skip) = [nthLoop Tryz.f247 0]) ⟨lo_i_wordBytes_3 cx hp, trivial⟩ b hb) (R := (YBs)) (T := fun (d : aden P_i_wordBytes) => T_i_wordBytes d.1) e_i_wordBytes
def P_i_HashEnd : List (Bool × List Sh) := [(true, h_3)]
def O_i_HashEnd (r : (YBs)) : List RV × List RV := ([rv (false, [.sl 5 [.int .u8]]) r], [])
def C_i_HashEnd : Fns := [(244, .plain, F_i_HashOk), (246, .plain, F_i_Pad), (208, .plain, F_i_joined), (245, .view, F_i_compressAll), (247, .plain, F_i_wordBytes)]
def F_i_HashEnd : Fun1 := funV P_i_HashEnd (fun d => (T_i_HashEnd d.1).val) O_i_HashEnd
def Q_i_HashEnd : Loops := fun _ _ => .fail
theorem e_i_HashEnd : ∀ d, pcall ⟨lookT tys, ctrOf C_i_HashEnd, kindOf C_i_HashEnd, 3, 4⟩ 0 Q_i_HashEnd Tryz.f237 .plain (mkA P_i_HashEnd d) = (T_i_HashEnd d.1).run fun r => some (O_i_HashEnd r) := fun d => by kernel_rfl
theorem fn_i_HashEnd : Fn Tryz.prog 237 .plain F_i_HashEnd := fn_of (cfgOk_of mixed tys_ok (show FnsOk Tryz.prog C_i_HashEnd from ⟨fn_i_HashOk, fn_i_Pad, fn_i_joined, fn_i_compressAll, fn_i_wordBytes, trivial⟩)) Tryz.func237 (by kernel_rfl) (by kernel_rfl) (fun cx b hp hb => all_of (by kernel_rfl : loopsOf (Tryz.f237.body.getD .skip) = []) trivial b hb) (R := (YBs)) (T := fun (d : aden P_i_HashEnd) => T_i_HashEnd d.1) e_i_HashEnd
def P_i_Sha : List (Bool × List Sh) := [(false, [.sl 5 [.int .u8]])]
def O_i_Sha (r : (YBs)) : List RV × List RV := ([rv (false, [.sl 5 [.int .u8]]) r], [])
def C_i_Sha : Fns := [(239, .plain, F_i_HashNew), (238, .plain, F_i_HashAdd), (237, .plain, F_i_HashEnd)]
def F_i_Sha : Fun1 := funV P_i_Sha (fun d => (T_i_Sha d.1).val) O_i_Sha
def Q_i_Sha : Loops := fun _ _ => .fail
theorem e_i_Sha : ∀ d, pcall ⟨lookT tys, ctrOf C_i_Sha, kindOf C_i_Sha, 3, 4⟩ 0 Q_i_Sha Tryz.f228 .plain (mkA P_i_Sha d) = (T_i_Sha d.1).run fun r => some (O_i_Sha r) := fun d => by kernel_rfl
theorem fn_i_Sha : Fn Tryz.prog 228 .plain F_i_Sha := fn_of (cfgOk_of mixed tys_ok (show FnsOk Tryz.prog C_i_Sha from ⟨fn_i_HashNew, fn_i_HashAdd, fn_i_HashEnd, trivial⟩)) Tryz.func228 (by kernel_rfl) (by kernel_rfl) (fun cx b hp hb => all_of (by kernel_rfl : loopsOf (Tryz.f228.body.getD .skip) = []) trivial b hb) (R := (YBs)) (T := fun (d : aden P_i_Sha) => T_i_Sha d.1) e_i_Sha
def P_i_BlockKey : List (Bool × List Sh) := [(false, [.sl 5 [.int .u8]])]
def O_i_BlockKey (r : (YBs)) : List RV × List RV := ([rv (false, [.sl 5 [.int .u8]]) r], [])
def C_i_BlockKey : Fns := [(91, .plain, F_i_clone), (228, .plain, F_i_Sha)]
def F_i_BlockKey : Fun1 := funV P_i_BlockKey (fun d => (T_i_BlockKey d.1).val) O_i_BlockKey
def K_i_BlockKey_6 : Sk := ⟨[(3, .v false [(.sl 5 [.int .u8], (.own 7000000))])], [], [7000000]⟩
def X_i_BlockKey_6 : List (Ex × Sk) := [((.exit 0), ⟨[(3, .v false [(.sl 5 [.int .u8], (.own 7000000))])], [], [7000000]⟩)]
def Q_i_BlockKey : Loops := fun i st => cond (Nat.beq i 6) (lam K_i_BlockKey_6 7000000 X_i_BlockKey_6 B_i_BlockKey_6 st) <| .fail
theorem lp_i_BlockKey_6 : ∀ d, bod ⟨lookT tys, ctrOf C_i_BlockKey, kindOf C_i_BlockKey, 3, 4⟩ 0 Tryz.f227.ntmps Q_i_BlockKey (nthLoop Tryz.f227 0) K_i_BlockKey_6 7000000 X_i_BlockKey_6 d = B_i_BlockKey_6 d := fun d => by kernel_rfl
theorem lo_i_BlockKey_6 (cx : Cx) (hp : cx.pin.length ≤ 0) : LoopOk Tryz.prog cx Tryz.f227.ntmps Q_i_BlockKey (nthLoop Tryz.f227 0) := loop_of (cfgOk_of mixed tys_ok (show FnsOk Tryz.prog C_i_BlockKey from ⟨fn_i_clone, fn_i_Sha, trivial⟩)) hp (all_of (by kernel_rfl : loopsOf (nthLoop Tryz.f227 0) = []) trivial) (by kernel_rfl) lp_i_BlockKey_6
theorem e_i_BlockKey : ∀ d, pcall ⟨lookT tys, ctrOf C_i_BlockKey, kindOf C_i_BlockKey, 3, 4⟩ 0 Q_i_BlockKey Tryz.f227 .plain (mkA P_i_BlockKey d) = (T_i_BlockKey d.1).run fun r => some (O_i_BlockKey r) := fun d => by kernel_rfl
theorem fn_i_BlockKey : Fn Tryz.prog 227 .plain F_i_BlockKey := fn_of (cfgOk_of mixed tys_ok (show FnsOk Tryz.prog C_i_BlockKey from ⟨fn_i_clone, fn_i_Sha, trivial⟩)) Tryz.func227 (by kernel_rfl) (by kernel_rfl) (fun cx b hp hb => all_of (by kernel_rfl : loopsOf (Tryz.f227.body.getD .skip) = [nthLoop Tryz.f227 0]) ⟨lo_i_BlockKey_6 cx hp, trivial⟩ b hb) (R := (YBs)) (T := fun (d : aden P_i_BlockKey) => T_i_BlockKey d.1) e_i_BlockKey
def P_i_masked : List (Bool × List Sh) := [(false, [.sl 5 [.int .u8]]), (false, [.int .u8])]
def O_i_masked (r : (YBs)) : List RV × List RV := ([rv (false, [.sl 5 [.int .u8]]) r], [])
def C_i_masked : Fns := []
def F_i_masked : Fun1 := funV P_i_masked (fun d => (T_i_masked d.1 d.2.1).val) O_i_masked
def K_i_masked_3 : Sk := ⟨[(1, .v false [(.int .u8, .nil)]), (5, .v false [(.sl 5 [.int .u8], (.own 4000000))]), (9, .v false [(.sl 5 [.int .u8], .ro)]), (10, .v false [(.int .i64, .nil)]), (11, .v false [(.int .i64, .nil)])], [], [4000000]⟩
def X_i_masked_3 : List (Ex × Sk) := [((.exit 0), ⟨[(5, .v false [(.sl 5 [.int .u8], (.own 4000000))])], [], [4000000]⟩)]
def Q_i_masked : Loops := fun i st => cond (Nat.beq i 3) (lam K_i_masked_3 4000000 X_i_masked_3 B_i_masked_3 st) <| .fail
theorem lp_i_masked_3 : ∀ d, bod ⟨lookT tys, ctrOf C_i_masked, kindOf C_i_masked, 3, 4⟩ 0 Tryz.f229.ntmps Q_i_masked (nthLoop Tryz.f229 0) K_i_masked_3 4000000 X_i_masked_3 d = B_i_masked_3 d := fun d => by kernel_rfl
theorem lo_i_masked_3 (cx : Cx) (hp : cx.pin.length ≤ 0) : LoopOk Tryz.prog cx Tryz.f229.ntmps Q_i_masked (nthLoop Tryz.f229 0) := loop_of (cfgOk_of mixed tys_ok (show FnsOk Tryz.prog C_i_masked from trivial)) hp (all_of (by kernel_rfl : loopsOf (nthLoop Tryz.f229 0) = []) trivial) (by kernel_rfl) lp_i_masked_3
theorem e_i_masked : ∀ d, pcall ⟨lookT tys, ctrOf C_i_masked, kindOf C_i_masked, 3, 4⟩ 0 Q_i_masked Tryz.f229 .plain (mkA P_i_masked d) = (T_i_masked d.1 d.2.1).run fun r => some (O_i_masked r) := fun d => by kernel_rfl
theorem fn_i_masked : Fn Tryz.prog 229 .plain F_i_masked := fn_of (cfgOk_of mixed tys_ok (show FnsOk Tryz.prog C_i_masked from trivial)) Tryz.func229 (by kernel_rfl) (by kernel_rfl) (fun cx b hp hb => all_of (by kernel_rfl : loopsOf (Tryz.f229.body.getD .skip) = [nthLoop Tryz.f229 0]) ⟨lo_i_masked_3 cx hp, trivial⟩ b hb) (R := (YBs)) (T := fun (d : aden P_i_masked) => T_i_masked d.1 d.2.1) e_i_masked
def P_i_Hmac : List (Bool × List Sh) := [(false, [.sl 5 [.int .u8]]), (false, [.sl 5 [.int .u8]])]
def O_i_Hmac (r : (YBs)) : List RV × List RV := ([rv (false, [.sl 5 [.int .u8]]) r], [])
def C_i_Hmac : Fns := [(227, .plain, F_i_BlockKey), (229, .plain, F_i_masked), (208, .plain, F_i_joined), (228, .plain, F_i_Sha)]
def F_i_Hmac : Fun1 := funV P_i_Hmac (fun d => (T_i_Hmac d.1 d.2.1).val) O_i_Hmac
def Q_i_Hmac : Loops := fun _ _ => .fail
theorem e_i_Hmac : ∀ d, pcall ⟨lookT tys, ctrOf C_i_Hmac, kindOf C_i_Hmac, 3, 4⟩ 0 Q_i_Hmac Tryz.f213 .plain (mkA P_i_Hmac d) = (T_i_Hmac d.1 d.2.1).run fun r => some (O_i_Hmac r) := fun d => by kernel_rfl
theorem fn_i_Hmac : Fn Tryz.prog 213 .plain F_i_Hmac := fn_of (cfgOk_of mixed tys_ok (show FnsOk Tryz.prog C_i_Hmac from ⟨fn_i_BlockKey, fn_i_masked, fn_i_joined, fn_i_Sha, trivial⟩)) Tryz.func213 (by kernel_rfl) (by kernel_rfl) (fun cx b hp hb => all_of (by kernel_rfl : loopsOf (Tryz.f213.body.getD .skip) = []) trivial b hb) (R := (YBs)) (T := fun (d : aden P_i_Hmac) => T_i_Hmac d.1 d.2.1) e_i_Hmac
def P_i_DiceAt : List (Bool × List Sh) := [(false, [.sl 5 [.int .u8]]), (false, [.int .i64])]
def O_i_DiceAt (r : (YBs)) : List RV × List RV := ([rv (false, [.sl 5 [.int .u8]]) r], [])
def C_i_DiceAt : Fns := [(88, .plain, F_i_within), (214, .plain, F_i_PutN), (213, .plain, F_i_Hmac), (91, .plain, F_i_clone)]
def F_i_DiceAt : Fun1 := funV P_i_DiceAt (fun d => (T_i_DiceAt d.1 d.2.1).val) O_i_DiceAt
def Q_i_DiceAt : Loops := fun _ _ => .fail
theorem e_i_DiceAt : ∀ d, pcall ⟨lookT tys, ctrOf C_i_DiceAt, kindOf C_i_DiceAt, 3, 4⟩ 0 Q_i_DiceAt Tryz.f183 .plain (mkA P_i_DiceAt d) = (T_i_DiceAt d.1 d.2.1).run fun r => some (O_i_DiceAt r) := fun d => by kernel_rfl
theorem fn_i_DiceAt : Fn Tryz.prog 183 .plain F_i_DiceAt := fn_of (cfgOk_of mixed tys_ok (show FnsOk Tryz.prog C_i_DiceAt from ⟨fn_i_within, fn_i_PutN, fn_i_Hmac, fn_i_clone, trivial⟩)) Tryz.func183 (by kernel_rfl) (by kernel_rfl) (fun cx b hp hb => all_of (by kernel_rfl : loopsOf (Tryz.f183.body.getD .skip) = []) trivial b hb) (R := (YBs)) (T := fun (d : aden P_i_DiceAt) => T_i_DiceAt d.1 d.2.1) e_i_DiceAt
def P_i_Roll : List (Bool × List Sh) := [(true, [.sl 5 [.int .u8], .int .i64])]
def O_i_Roll (r : (YDice) × (YBs)) : List RV × List RV := ([rv (true, [.sl 5 [.int .u8], .int .i64]) r.1, rv (false, [.sl 5 [.int .u8]]) r.2], [])
def C_i_Roll : Fns := [(91, .plain, F_i_clone), (182, .plain, F_i_DiceOk), (183, .plain, F_i_DiceAt)]
def F_i_Roll : Fun1 := funV P_i_Roll (fun d => (T_i_Roll d.1).val) O_i_Roll
def Q_i_Roll : Loops := fun _ _ => .fail
theorem e_i_Roll : ∀ d, pcall ⟨lookT tys, ctrOf C_i_Roll, kindOf C_i_Roll, 3, 4⟩ 0 Q_i_Roll Tryz.f116 .plain (mkA P_i_Roll d) = (T_i_Roll d.1).run fun r => some (O_i_Roll r) := fun d => by kernel_rfl
theorem fn_i_Roll : Fn Tryz.prog 116 .plain F_i_Roll := fn_of (cfgOk_of mixed tys_ok (show FnsOk Tryz.prog C_i_Roll from ⟨fn_i_clone, fn_i_DiceOk, fn_i_DiceAt, trivial⟩)) Tryz.func116 (by kernel_rfl) (by kernel_rfl) (fun cx b hp hb => all_of (by kernel_rfl : loopsOf (Tryz.f116.body.getD .skip) = []) trivial b hb) (R := (YDice) × (YBs)) (T := fun (d : aden P_i_Roll) => T_i_Roll d.1) e_i_Roll
def P_i_cloneAll : List (Bool × List Sh) := [(false, [.sl 25 [.sl 5 [.int .u8]]])]
def O_i_cloneAll (r : ((List YBs) × Unit)) : List RV × List RV := ([rv (false, [.sl 25 [.sl 5 [.int .u8]]]) r], [])
def C_i_cloneAll : Fns := [(91, .plain, F_i_clone)]
def F_i_cloneAll : Fun1 := funV P_i_cloneAll (fun d => (T_i_cloneAll d.1).val) O_i_cloneAll
def K_i_cloneAll_3 : Sk := ⟨[(3, .v false [(.sl 25 [.sl 5 [.int .u8]], (.own 4000000))]), (7, .v false [(.sl 25 [.sl 5 [.int .u8]], .ro)]), (8, .v false [(.int .i64, .nil)]), (9, .v false [(.int .i64, .nil)])], [], [4000000]⟩
def X_i_cloneAll_3 : List (Ex × Sk) := [((.exit 0), ⟨[(3, .v false [(.sl 25 [.sl 5 [.int .u8]], (.own 4000000))])], [], [4000000]⟩)]
def Q_i_cloneAll : Loops := fun i st => cond (Nat.beq i 3) (lam K_i_cloneAll_3 4000000 X_i_cloneAll_3 B_i_cloneAll_3 st) <| .fail
theorem lp_i_cloneAll_3 : ∀ d, bod ⟨lookT tys, ctrOf C_i_cloneAll, kindOf C_i_cloneAll, 3, 4⟩ 0 Tryz.f117.ntmps Q_i_cloneAll (nthLoop Tryz.f117 0) K_i_cloneAll_3 4000000 X_i_cloneAll_3 d = B_i_cloneAll_3 d := fun d => by kernel_rfl
theorem lo_i_cloneAll_3 (cx : Cx) (hp : cx.pin.length ≤ 0) : LoopOk Tryz.prog cx Tryz.f117.ntmps Q_i_cloneAll (nthLoop Tryz.f117 0) := loop_of (cfgOk_of mixed tys_ok (show FnsOk Tryz.prog C_i_cloneAll from ⟨fn_i_clone, trivial⟩)) hp (all_of (by kernel_rfl : loopsOf (nthLoop Tryz.f117 0) = []) trivial) (by kernel_rfl) lp_i_cloneAll_3
theorem e_i_cloneAll : ∀ d, pcall ⟨lookT tys, ctrOf C_i_cloneAll, kindOf C_i_cloneAll, 3, 4⟩ 0 Q_i_cloneAll Tryz.f117 .plain (mkA P_i_cloneAll d) = (T_i_cloneAll d.1).run fun r => some (O_i_cloneAll r) := fun d => by kernel_rfl
theorem fn_i_cloneAll : Fn Tryz.prog 117 .plain F_i_cloneAll := fn_of (cfgOk_of mixed tys_ok (show FnsOk Tryz.prog C_i_cloneAll from ⟨fn_i_clone, trivial⟩)) Tryz.func117 (by kernel_rfl) (by kernel_rfl) (fun cx b hp hb => all_of (by kernel_rfl : loopsOf (Tryz.f117.body.getD .skip) = [nthLoop Tryz.f117 0]) ⟨lo_i_cloneAll_3 cx hp, trivial⟩ b hb) (R := ((List YBs) × Unit)) (T := fun (d : aden P_i_cloneAll) => T_i_cloneAll d.1) e_i_cloneAll
def P_i_isNonce : List (Bool × List Sh) := [(false, [.sl 5 [.int .u8]])]
def O_i_isNonce (r : (Bool × Unit)) : List RV × List RV := ([rv (false, [.bool]) r], [])
def C_i_isNonce : Fns := []
def F_i_isNonce : Fun1 := funV P_i_isNonce (fun d => (T_i_isNonce d.1).val) O_i_isNonce
def Q_i_isNonce : Loops := fun _ _ => .fail
theorem e_i_isNonce : ∀ d, pcall ⟨lookT tys, ctrOf C_i_isNonce, kindOf C_i_isNonce, 3, 4⟩ 0 Q_i_isNonce Tryz.f105 .plain (mkA P_i_isNonce d) = (T_i_isNonce d.1).run fun r => some (O_i_isNonce r) := fun d => by kernel_rfl
theorem fn_i_isNonce : Fn Tryz.prog 105 .plain F_i_isNonce := fn_of (cfgOk_of mixed tys_ok (show FnsOk Tryz.prog C_i_isNonce from trivial)) Tryz.func105 (by kernel_rfl) (by kernel_rfl) (fun cx b hp hb => all_of (by kernel_rfl : loopsOf (Tryz.f105.body.getD .skip) = []) trivial b hb) (R := (Bool × Unit)) (T := fun (d : aden P_i_isNonce) => T_i_isNonce d.1) e_i_isNonce
def P_i_Expand : List (Bool × List Sh) := [(false, [.sl 5 [.int .u8]]), (false, [.sl 5 [.int .u8]]), (false, [.int .i64])]
def O_i_Expand (r : (YBs) × (Bool × Unit)) : List RV × List RV := ([rv (false, [.sl 5 [.int .u8]]) r.1, rv (false, [.bool]) r.2], [])
def C_i_Expand : Fns := [(88, .plain, F_i_within), (208, .plain, F_i_joined), (213, .plain, F_i_Hmac), (91, .plain, F_i_clone)]
def F_i_Expand : Fun1 := funV P_i_Expand (fun d => (T_i_Expand d.1 d.2.1 d.2.2.1).val) O_i_Expand
def K_i_Expand_6 : Sk := ⟨[(0, .v false [(.sl 5 [.int .u8], .ro)]), (1, .v false [(.sl 5 [.int .u8], .ro)]), (2, .v false [(.int .i64, .nil)]), (8, .v false [(.sl 5 [.int .u8], (.own 7000000))]), (9, .v false [(.sl 5 [.int .u8], (.own 7000001))]), (10, .v false [(.int .i64, .nil)])], [], [7000000, 7000001]⟩
def X_i_Expand_6 : List (Ex × Sk) := [((.exit 0), ⟨[(2, .v false [(.int .i64, .nil)]), (8, .v false [(.sl 5 [.int .u8], (.own 7000000))])], [], [7000000]⟩)]
def Q_i_Expand : Loops := fun i st => cond (Nat.beq i 6) (lam K_i_Expand_6 7000000 X_i_Expand_6 B_i_Expand_6 st) <| .fail
theorem lp_i_Expand_6 : ∀ d, bod ⟨lookT tys, ctrOf C_i_Expand, kindOf C_i_Expand, 3, 4⟩ 0 Tryz.f215.ntmps Q_i_Expand (nthLoop Tryz.f215 0) K_i_Expand_6 7000000 X_i_Expand_6 d = B_i_Expand_6 d := fun d => by kernel_rfl
theorem lo_i_Expand_6 (cx : Cx) (hp : cx.pin.length ≤ 0) : LoopOk Tryz.prog cx Tryz.f215.ntmps Q_i_Expand (nthLoop Tryz.f215 0) := loop_of (cfgOk_of mixed tys_ok (show FnsOk Tryz.prog C_i_Expand from ⟨fn_i_within, fn_i_joined, fn_i_Hmac, fn_i_clone, trivial⟩)) hp (all_of (by kernel_rfl : loopsOf (nthLoop Tryz.f215 0) = []) trivial) (by kernel_rfl) lp_i_Expand_6
theorem e_i_Expand : ∀ d, pcall ⟨lookT tys, ctrOf C_i_Expand, kindOf C_i_Expand, 3, 4⟩ 0 Q_i_Expand Tryz.f215 .plain (mkA P_i_Expand d) = (T_i_Expand d.1 d.2.1 d.2.2.1).run fun r => some (O_i_Expand r) := fun d => by kernel_rfl
theorem fn_i_Expand : Fn Tryz.prog 215 .plain F_i_Expand := fn_of (cfgOk_of mixed tys_ok (show FnsOk Tryz.prog C_i_Expand from ⟨fn_i_within, fn_i_joined, fn_i_Hmac, fn_i_clone, trivial⟩)) Tryz.func215 (by kernel_rfl) (by kernel_rfl) (fun cx b hp hb => all_of (by kernel_rfl : loopsOf (Tryz.f215.body.getD .skip) = [nthLoop Tryz.f215 0]) ⟨lo_i_Expand_6 cx hp, trivial⟩ b hb) (R := (YBs) × (Bool × Unit)) (T := fun (d : aden P_i_Expand) => T_i_Expand d.1 d.2.1 d.2.2.1) e_i_Expand
def P_i_Derive : List (Bool × List Sh) := [(false, [.sl 5 [.int .u8]]), (false, [.str])]
def O_i_Derive (r : (YBs)) : List RV × List RV := ([rv (false, [.sl 5 [.int .u8]]) r], [])
def C_i_Derive : Fns := [(215, .plain, F_i_Expand)]
def F_i_Derive : Fun1 := funV P_i_Derive (fun d => (T_i_Derive d.1 d.2.1).val) O_i_Derive
def Q_i_Derive : Loops := fun _ _ => .fail
theorem e_i_Derive : ∀ d, pcall ⟨lookT tys, ctrOf C_i_Derive, kindOf C_i_Derive, 3, 4⟩ 0 Q_i_Derive Tryz.f184 .plain (mkA P_i_Derive d) = (T_i_Derive d.1 d.2.1).run fun r => some (O_i_Derive r) := fun d => by kernel_rfl
theorem fn_i_Derive : Fn Tryz.prog 184 .plain F_i_Derive := fn_of (cfgOk_of mixed tys_ok (show FnsOk Tryz.prog C_i_Derive from ⟨fn_i_Expand, trivial⟩)) Tryz.func184 (by kernel_rfl) (by kernel_rfl) (fun cx b hp hb => all_of (by kernel_rfl : loopsOf (Tryz.f184.body.getD .skip) = []) trivial b hb) (R := (YBs)) (T := fun (d : aden P_i_Derive) => T_i_Derive d.1 d.2.1) e_i_Derive
def P_i_JarNew : List (Bool × List Sh) := [(false, [.sl 5 [.int .u8]])]
def O_i_JarNew (r : (YBs)) : List RV × List RV := ([rv (true, [.sl 5 [.int .u8]]) r], [])
def C_i_JarNew : Fns := [(105, .plain, F_i_isNonce), (184, .plain, F_i_Derive)]
def F_i_JarNew : Fun1 := funV P_i_JarNew (fun d => (T_i_JarNew d.1).val) O_i_JarNew
def Q_i_JarNew : Loops := fun _ _ => .fail
theorem e_i_JarNew : ∀ d, pcall ⟨lookT tys, ctrOf C_i_JarNew, kindOf C_i_JarNew, 3, 4⟩ 0 Q_i_JarNew Tryz.f118 .plain (mkA P_i_JarNew d) = (T_i_JarNew d.1).run fun r => some (O_i_JarNew r) := fun d => by kernel_rfl
theorem fn_i_JarNew : Fn Tryz.prog 118 .plain F_i_JarNew := fn_of (cfgOk_of mixed tys_ok (show FnsOk Tryz.prog C_i_JarNew from ⟨fn_i_isNonce, fn_i_Derive, trivial⟩)) Tryz.func118 (by kernel_rfl) (by kernel_rfl) (fun cx b hp hb => all_of (by kernel_rfl : loopsOf (Tryz.f118.body.getD .skip) = []) trivial b hb) (R := (YBs)) (T := fun (d : aden P_i_JarNew) => T_i_JarNew d.1) e_i_JarNew
def P_i_TabNew : List (Bool × List Sh) := [(false, [.int .i64])]
def O_i_TabNew (r : (YTab)) : List RV × List RV := ([rv (true, [.int .i64, .sl 58 h_12]) r], [])
def C_i_TabNew : Fns := [(88, .plain, F_i_within)]
def F_i_TabNew : Fun1 := funV P_i_TabNew (fun d => (T_i_TabNew d.1).val) O_i_TabNew
def Q_i_TabNew : Loops := fun _ _ => .fail
theorem e_i_TabNew : ∀ d, pcall ⟨lookT tys, ctrOf C_i_TabNew, kindOf C_i_TabNew, 3, 4⟩ 0 Q_i_TabNew Tryz.f119 .plain (mkA P_i_TabNew d) = (T_i_TabNew d.1).run fun r => some (O_i_TabNew r) := fun d => by kernel_rfl
theorem fn_i_TabNew : Fn Tryz.prog 119 .plain F_i_TabNew := fn_of (cfgOk_of mixed tys_ok (show FnsOk Tryz.prog C_i_TabNew from ⟨fn_i_within, trivial⟩)) Tryz.func119 (by kernel_rfl) (by kernel_rfl) (fun cx b hp hb => all_of (by kernel_rfl : loopsOf (Tryz.f119.body.getD .skip) = []) trivial b hb) (R := (YTab)) (T := fun (d : aden P_i_TabNew) => T_i_TabNew d.1) e_i_TabNew
def P_i_JarOk : List (Bool × List Sh) := [(true, [.sl 5 [.int .u8]])]
def O_i_JarOk (r : (Bool × Unit)) : List RV × List RV := ([rv (false, [.bool]) r], [])
def C_i_JarOk : Fns := []
def F_i_JarOk : Fun1 := funV P_i_JarOk (fun d => (T_i_JarOk d.1).val) O_i_JarOk
def Q_i_JarOk : Loops := fun _ _ => .fail
theorem e_i_JarOk : ∀ d, pcall ⟨lookT tys, ctrOf C_i_JarOk, kindOf C_i_JarOk, 3, 4⟩ 0 Q_i_JarOk Tryz.f185 .plain (mkA P_i_JarOk d) = (T_i_JarOk d.1).run fun r => some (O_i_JarOk r) := fun d => by kernel_rfl
theorem fn_i_JarOk : Fn Tryz.prog 185 .plain F_i_JarOk := fn_of (cfgOk_of mixed tys_ok (show FnsOk Tryz.prog C_i_JarOk from trivial)) Tryz.func185 (by kernel_rfl) (by kernel_rfl) (fun cx b hp hb => all_of (by kernel_rfl : loopsOf (Tryz.f185.body.getD .skip) = []) trivial b hb) (R := (Bool × Unit)) (T := fun (d : aden P_i_JarOk) => T_i_JarOk d.1) e_i_JarOk
def P_i_Live : List (Bool × List Sh) := [(true, [.int .i64, .sl 58 h_12])]
def O_i_Live (r : (YI)) : List RV × List RV := ([rv (false, [.int .i64]) r], [])
def C_i_Live : Fns := []
def F_i_Live : Fun1 := funV P_i_Live (fun d => (T_i_Live d.1).val) O_i_Live
def K_i_Live_3 : Sk := ⟨[(3, .v false [(.int .i64, .nil)]), (7, .v false [(.sl 58 h_12, .ro)]), (8, .v false [(.int .i64, .nil)]), (9, .v false [(.int .i64, .nil)])], [], []⟩
def X_i_Live_3 : List (Ex × Sk) := [((.exit 0), ⟨[(3, .v false [(.int .i64, .nil)])], [], []⟩)]
def Q_i_Live : Loops := fun i st => cond (Nat.beq i 3) (lam K_i_Live_3 4000000 X_i_Live_3 B_i_Live_3 st) <| .fail
theorem lp_i_Live_3 : ∀ d, bod ⟨lookT tys, ctrOf C_i_Live, kindOf C_i_Live, 3, 4⟩ 0 Tryz.f80.ntmps Q_i_Live (nthLoop Tryz.f80 0) K_i_Live_3 4000000 X_i_Live_3 d = B_i_Live_3 d := fun d => by kernel_rfl
theorem lo_i_Live_3 (cx : Cx) (hp : cx.pin.length ≤ 0) : LoopOk Tryz.prog cx Tryz.f80.ntmps Q_i_Live (nthLoop Tryz.f80 0) := loop_of (cfgOk_of mixed tys_ok (show FnsOk Tryz.prog C_i_Live from trivial)) hp (all_of (by kernel_rfl : loopsOf (nthLoop Tryz.f80 0) = []) trivial) (by kernel_rfl) lp_i_Live_3
theorem e_i_Live : ∀ d, pcall ⟨lookT tys, ctrOf C_i_Live, kindOf C_i_Live, 3, 4⟩ 0 Q_i_Live Tryz.f80 .plain (mkA P_i_Live d) = (T_i_Live d.1).run fun r => some (O_i_Live r) := fun d => by kernel_rfl
theorem fn_i_Live : Fn Tryz.prog 80 .plain F_i_Live := fn_of (cfgOk_of mixed tys_ok (show FnsOk Tryz.prog C_i_Live from trivial)) Tryz.func80 (by kernel_rfl) (by kernel_rfl) (fun cx b hp hb => all_of (by kernel_rfl : loopsOf (Tryz.f80.body.getD .skip) = [nthLoop Tryz.f80 0]) ⟨lo_i_Live_3 cx hp, trivial⟩ b hb) (R := (YI)) (T := fun (d : aden P_i_Live) => T_i_Live d.1) e_i_Live
def P_bytes_Equal : List (Bool × List Sh) := [(false, [.sl 5 [.int .u8]]), (false, [.sl 5 [.int .u8]])]
def O_bytes_Equal (r : (Bool × Unit)) : List RV × List RV := ([rv (false, [.bool]) r], [])
def C_bytes_Equal : Fns := []
def F_bytes_Equal : Fun1 := funV P_bytes_Equal (fun d => (T_bytes_Equal d.1 d.2.1).val) O_bytes_Equal
def Q_bytes_Equal : Loops := fun _ _ => .fail
theorem e_bytes_Equal : ∀ d, pcall ⟨lookT tys, ctrOf C_bytes_Equal, kindOf C_bytes_Equal, 3, 4⟩ 0 Q_bytes_Equal Tryz.f153 .plain (mkA P_bytes_Equal d) = (T_bytes_Equal d.1 d.2.1).run fun r => some (O_bytes_Equal r) := fun d => by kernel_rfl
theorem fn_bytes_Equal : Fn Tryz.prog 153 .plain F_bytes_Equal := fn_of (cfgOk_of mixed tys_ok (show FnsOk Tryz.prog C_bytes_Equal from trivial)) Tryz.func153 (by kernel_rfl) (by kernel_rfl) (fun cx b hp hb => all_of (by kernel_rfl : loopsOf (Tryz.f153.body.getD .skip) = []) trivial b hb) (R := (Bool × Unit)) (T := fun (d : aden P_bytes_Equal) => T_bytes_Equal d.1 d.2.1) e_bytes_Equal
def P_i_sameInts : List (Bool × List Sh) := [(false, [.sl 3 [.int .i64]]), (false, [.sl 3 [.int .i64]])]
def O_i_sameInts (r : (Bool × Unit)) : List RV × List RV := ([rv (false, [.bool]) r], [])
def C_i_sameInts : Fns := []
def F_i_sameInts : Fun1 := funV P_i_sameInts (fun d => (T_i_sameInts d.1 d.2.1).val) O_i_sameInts
def K_i_sameInts_4 : Sk := ⟨[(1, .v false [(.sl 3 [.int .i64], .ro)]), (12, .v false [(.sl 3 [.int .i64], .ro)]), (13, .v false [(.int .i64, .nil)]), (14, .v false [(.int .i64, .nil)])], [], []⟩
def X_i_sameInts_4 : List (Ex × Sk) := [(.ret, ⟨[(4, .v false [(.bool, .nil)])], [], []⟩), ((.exit 0), ⟨[], [], []⟩)]
def Q_i_sameInts : Loops := fun i st => cond (Nat.beq i 4) (lam K_i_sameInts_4 5000000 X_i_sameInts_4 B_i_sameInts_4 st) <| .fail
theorem lp_i_sameInts_4 : ∀ d, bod ⟨lookT tys, ctrOf C_i_sameInts, kindOf C_i_sameInts, 3, 4⟩ 0 Tryz.f223.ntmps Q_i_sameInts (nthLoop Tryz.f223 0) K_i_sameInts_4 5000000 X_i_sameInts_4 d = B_i_sameInts_4 d := fun d => by kernel_rfl
theorem lo_i_sameInts_4 (cx : Cx) (hp : cx.pin.length ≤ 0) : LoopOk Tryz.prog cx Tryz.f223.ntmps Q_i_sameInts (nthLoop Tryz.f223 0) := loop_of (cfgOk_of mixed tys_ok (show FnsOk Tryz.prog C_i_sameInts from trivial)) hp (all_of (by kernel_rfl : loopsOf (nthLoop Tryz.f223 0) = []) trivial) (by kernel_rfl) lp_i_sameInts_4
theorem e_i_sameInts : ∀ d, pcall ⟨lookT tys, ctrOf C_i_sameInts, kindOf C_i_sameInts, 3, 4⟩ 0 Q_i_sameInts Tryz.f223 .plain (mkA P_i_sameInts d) = (T_i_sameInts d.1 d.2.1).run fun r => some (O_i_sameInts r) := fun d => by kernel_rfl
theorem fn_i_sameInts : Fn Tryz.prog 223 .plain F_i_sameInts := fn_of (cfgOk_of mixed tys_ok (show FnsOk Tryz.prog C_i_sameInts from trivial)) Tryz.func223 (by kernel_rfl) (by kernel_rfl) (fun cx b hp hb => all_of (by kernel_rfl : loopsOf (Tryz.f223.body.getD .skip) = [nthLoop Tryz.f223 0]) ⟨lo_i_sameInts_4 cx hp, trivial⟩ b hb) (R := (Bool × Unit)) (T := fun (d : aden P_i_sameInts) => T_i_sameInts d.1 d.2.1) e_i_sameInts
def P_i_sameEp : List (Bool × List Sh) := [(true, h_5), (true, h_5)]
def O_i_sameEp (r : (Bool × Unit)) : List RV × List RV := ([rv (false, [.bool]) r], [])
def C_i_sameEp : Fns := [(153, .plain, F_bytes_Equal), (223, .plain, F_i_sameInts)]
def F_i_sameEp : Fun1 := funV P_i_sameEp (fun d => (T_i_sameEp d.1 d.2.1).val) O_i_sameEp
def Q_i_sameEp : Loops := fun _ _ => .fail
theorem e_i_sameEp : ∀ d, pcall ⟨lookT tys, ctrOf C_i_sameEp, kindOf C_i_sameEp, 3, 4⟩ 0 Q_i_sameEp Tryz.f201 .plain (mkA P_i_sameEp d) = (T_i_sameEp d.1 d.2.1).run fun r => some (O_i_sameEp r) := fun d => by kernel_rfl
theorem fn_i_sameEp : Fn Tryz.prog 201 .plain F_i_sameEp := fn_of (cfgOk_of mixed tys_ok (show FnsOk Tryz.prog C_i_sameEp from ⟨fn_bytes_Equal, fn_i_sameInts, trivial⟩)) Tryz.func201 (by kernel_rfl) (by kernel_rfl) (fun cx b hp hb => all_of (by kernel_rfl : loopsOf (Tryz.f201.body.getD .skip) = []) trivial b hb) (R := (Bool × Unit)) (T := fun (d : aden P_i_sameEp) => T_i_sameEp d.1 d.2.1) e_i_sameEp
def P_i_isZeroChan : List (Bool × List Sh) := [(true, h_10)]
def O_i_isZeroChan (r : (Bool × Unit)) : List RV × List RV := ([rv (false, [.bool]) r], [])
def C_i_isZeroChan : Fns := [(201, .plain, F_i_sameEp)]
def F_i_isZeroChan : Fun1 := funV P_i_isZeroChan (fun d => (T_i_isZeroChan d.1).val) O_i_isZeroChan
def Q_i_isZeroChan : Loops := fun _ _ => .fail
theorem e_i_isZeroChan : ∀ d, pcall ⟨lookT tys, ctrOf C_i_isZeroChan, kindOf C_i_isZeroChan, 3, 4⟩ 0 Q_i_isZeroChan Tryz.f151 .plain (mkA P_i_isZeroChan d) = (T_i_isZeroChan d.1).run fun r => some (O_i_isZeroChan r) := fun d => by kernel_rfl
theorem fn_i_isZeroChan : Fn Tryz.prog 151 .plain F_i_isZeroChan := fn_of (cfgOk_of mixed tys_ok (show FnsOk Tryz.prog C_i_isZeroChan from ⟨fn_i_sameEp, trivial⟩)) Tryz.func151 (by kernel_rfl) (by kernel_rfl) (fun cx b hp hb => all_of (by kernel_rfl : loopsOf (Tryz.f151.body.getD .skip) = []) trivial b hb) (R := (Bool × Unit)) (T := fun (d : aden P_i_isZeroChan) => T_i_isZeroChan d.1) e_i_isZeroChan
def P_i_isRole : List (Bool × List Sh) := [(false, [.int .i64])]
def O_i_isRole (r : (Bool × Unit)) : List RV × List RV := ([rv (false, [.bool]) r], [])
def C_i_isRole : Fns := []
def F_i_isRole : Fun1 := funV P_i_isRole (fun d => (T_i_isRole d.1).val) O_i_isRole
def Q_i_isRole : Loops := fun _ _ => .fail
theorem e_i_isRole : ∀ d, pcall ⟨lookT tys, ctrOf C_i_isRole, kindOf C_i_isRole, 3, 4⟩ 0 Q_i_isRole Tryz.f164 .plain (mkA P_i_isRole d) = (T_i_isRole d.1).run fun r => some (O_i_isRole r) := fun d => by kernel_rfl
theorem fn_i_isRole : Fn Tryz.prog 164 .plain F_i_isRole := fn_of (cfgOk_of mixed tys_ok (show FnsOk Tryz.prog C_i_isRole from trivial)) Tryz.func164 (by kernel_rfl) (by kernel_rfl) (fun cx b hp hb => all_of (by kernel_rfl : loopsOf (Tryz.f164.body.getD .skip) = []) trivial b hb) (R := (Bool × Unit)) (T := fun (d : aden P_i_isRole) => T_i_isRole d.1) e_i_isRole
def P_i_hasBit : List (Bool × List Sh) := [(true, [.int .i64, .sl 3 [.int .i64]]), (false, [.int .i64])]
def O_i_hasBit (r : (Bool × Unit)) : List RV × List RV := ([rv (false, [.bool]) r], [])
def C_i_hasBit : Fns := []
def F_i_hasBit : Fun1 := funV P_i_hasBit (fun d => (T_i_hasBit d.1 d.2.1).val) O_i_hasBit
def Q_i_hasBit : Loops := fun _ _ => .fail
theorem e_i_hasBit : ∀ d, pcall ⟨lookT tys, ctrOf C_i_hasBit, kindOf C_i_hasBit, 3, 4⟩ 0 Q_i_hasBit Tryz.f232 .plain (mkA P_i_hasBit d) = (T_i_hasBit d.1 d.2.1).run fun r => some (O_i_hasBit r) := fun d => by kernel_rfl
theorem fn_i_hasBit : Fn Tryz.prog 232 .plain F_i_hasBit := fn_of (cfgOk_of mixed tys_ok (show FnsOk Tryz.prog C_i_hasBit from trivial)) Tryz.func232 (by kernel_rfl) (by kernel_rfl) (fun cx b hp hb => all_of (by kernel_rfl : loopsOf (Tryz.f232.body.getD .skip) = []) trivial b hb) (R := (Bool × Unit)) (T := fun (d : aden P_i_hasBit) => T_i_hasBit d.1 d.2.1) e_i_hasBit
def P_i_WinOk : List (Bool × List Sh) := [(true, [.int .i64, .sl 3 [.int .i64]])]
def O_i_WinOk (r : (Bool × Unit)) : List RV × List RV := ([rv (false, [.bool]) r], [])
def C_i_WinOk : Fns := [(88, .plain, F_i_within), (231, .plain, F_i_areWords), (232, .plain, F_i_hasBit)]
def F_i_WinOk : Fun1 := funV P_i_WinOk (fun d => (T_i_WinOk d.1).val) O_i_WinOk
def K_i_WinOk_4 : Sk := ⟨[(1, .box 1 0), (3, .v false [(.int .i64, .nil)])], [(1, [(.int .i64, .nil), (.sl 3 [.int .i64], .ro)])], []⟩
def X_i_WinOk_4 : List (Ex × Sk) := [(.ret, ⟨[(2, .v false [(.bool, .nil)])], [], []⟩), ((.exit 0), ⟨[(1, .box 1 0)], [(1, [(.int .i64, .nil), (.sl 3 [.int .i64], .ro)])], []⟩)]
def Q_i_WinOk : Loops := fun i st => cond (Nat.beq i 4) (lam K_i_WinOk_4 5000000 X_i_WinOk_4 B_i_WinOk_4 st) <| .fail
theorem lp_i_WinOk_4 : ∀ d, bod ⟨lookT tys, ctrOf C_i_WinOk, kindOf C_i_WinOk, 3, 4⟩ 0 Tryz.f224.ntmps Q_i_WinOk (nthLoop Tryz.f224 0) K_i_WinOk_4 5000000 X_i_WinOk_4 d = B_i_WinOk_4 d := fun d => by kernel_rfl
theorem lo_i_WinOk_4 (cx : Cx) (hp : cx.pin.length ≤ 0) : LoopOk Tryz.prog cx Tryz.f224.ntmps Q_i_WinOk (nthLoop Tryz.f224 0) := loop_of (cfgOk_of mixed tys_ok (show FnsOk Tryz.prog C_i_WinOk from ⟨fn_i_within, fn_i_areWords, fn_i_hasBit, trivial⟩)) hp (all_of (by kernel_rfl : loopsOf (nthLoop Tryz.f224 0) = []) trivial) (by kernel_rfl) lp_i_WinOk_4
theorem e_i_WinOk : ∀ d, pcall ⟨lookT tys, ctrOf C_i_WinOk, kindOf C_i_WinOk, 3, 4⟩ 0 Q_i_WinOk Tryz.f224 .plain (mkA P_i_WinOk d) = (T_i_WinOk d.1).run fun r => some (O_i_WinOk r) := fun d => by kernel_rfl
theorem fn_i_WinOk : Fn Tryz.prog 224 .plain F_i_WinOk := fn_of (cfgOk_of mixed tys_ok (show FnsOk Tryz.prog C_i_WinOk from ⟨fn_i_within, fn_i_areWords, fn_i_hasBit, trivial⟩)) Tryz.func224 (by kernel_rfl) (by kernel_rfl) (fun cx b hp hb => all_of (by kernel_rfl : loopsOf (Tryz.f224.body.getD .skip) = [nthLoop Tryz.f224 0]) ⟨lo_i_WinOk_4 cx hp, trivial⟩ b hb) (R := (Bool × Unit)) (T := fun (d : aden P_i_WinOk) => T_i_WinOk d.1) e_i_WinOk
def P_i_EpOk : List (Bool × List Sh) := [(true, h_5)]
def O_i_EpOk (r : (Bool × Unit)) : List RV × List RV := ([rv (false, [.bool]) r], [])
def C_i_EpOk : Fns := [(88, .plain, F_i_within), (224, .plain, F_i_WinOk)]
def F_i_EpOk : Fun1 := funV P_i_EpOk (fun d => (T_i_EpOk d.1).val) O_i_EpOk
def Q_i_EpOk : Loops := fun _ _ => .fail
theorem e_i_EpOk : ∀ d, pcall ⟨lookT tys, ctrOf C_i_EpOk, kindOf C_i_EpOk, 3, 4⟩ 0 Q_i_EpOk Tryz.f202 .plain (mkA P_i_EpOk d) = (T_i_EpOk d.1).run fun r => some (O_i_EpOk r) := fun d => by kernel_rfl
theorem fn_i_EpOk : Fn Tryz.prog 202 .plain F_i_EpOk := fn_of (cfgOk_of mixed tys_ok (show FnsOk Tryz.prog C_i_EpOk from ⟨fn_i_within, fn_i_WinOk, trivial⟩)) Tryz.func202 (by kernel_rfl) (by kernel_rfl) (fun cx b hp hb => all_of (by kernel_rfl : loopsOf (Tryz.f202.body.getD .skip) = []) trivial b hb) (R := (Bool × Unit)) (T := fun (d : aden P_i_EpOk) => T_i_EpOk d.1) e_i_EpOk
def P_i_oldOk : List (Bool × List Sh) := [(true, h_10)]
def O_i_oldOk (r : (Bool × Unit)) : List RV × List RV := ([rv (false, [.bool]) r], [])
def C_i_oldOk : Fns := [(201, .plain, F_i_sameEp), (202, .plain, F_i_EpOk), (88, .plain, F_i_within)]
def F_i_oldOk : Fun1 := funV P_i_oldOk (fun d => (T_i_oldOk d.1).val) O_i_oldOk
def Q_i_oldOk : Loops := fun _ _ => .fail
theorem e_i_oldOk : ∀ d, pcall ⟨lookT tys, ctrOf C_i_oldOk, kindOf C_i_oldOk, 3, 4⟩ 0 Q_i_oldOk Tryz.f203 .plain (mkA P_i_oldOk d) = (T_i_oldOk d.1).run fun r => some (O_i_oldOk r) := fun d => by kernel_rfl
theorem fn_i_oldOk : Fn Tryz.prog 203 .plain F_i_oldOk := fn_of (cfgOk_of mixed tys_ok (show FnsOk Tryz.prog C_i_oldOk from ⟨fn_i_sameEp, fn_i_EpOk, fn_i_within, trivial⟩)) Tryz.func203 (by kernel_rfl) (by kernel_rfl) (fun cx b hp hb => all_of (by kernel_rfl : loopsOf (Tryz.f203.body.getD .skip) = []) trivial b hb) (R := (Bool × Unit)) (T := fun (d : aden P_i_oldOk) => T_i_oldOk d.1) e_i_oldOk
def P_i_ChanOk : List (Bool × List Sh) := [(true, h_10)]
def O_i_ChanOk (r : (Bool × Unit)) : List RV × List RV := ([rv (false, [.bool]) r], [])
def C_i_ChanOk : Fns := [(164, .plain, F_i_isRole), (105, .plain, F_i_isNonce), (202, .plain, F_i_EpOk), (203, .plain, F_i_oldOk)]
def F_i_ChanOk : Fun1 := funV P_i_ChanOk (fun d => (T_i_ChanOk d.1).val) O_i_ChanOk
def Q_i_ChanOk : Loops := fun _ _ => .fail
theorem e_i_ChanOk : ∀ d, pcall ⟨lookT tys, ctrOf C_i_ChanOk, kindOf C_i_ChanOk, 3, 4⟩ 0 Q_i_ChanOk Tryz.f152 .plain (mkA P_i_ChanOk d) = (T_i_ChanOk d.1).run fun r => some (O_i_ChanOk r) := fun d => by kernel_rfl
theorem fn_i_ChanOk : Fn Tryz.prog 152 .plain F_i_ChanOk := fn_of (cfgOk_of mixed tys_ok (show FnsOk Tryz.prog C_i_ChanOk from ⟨fn_i_isRole, fn_i_isNonce, fn_i_EpOk, fn_i_oldOk, trivial⟩)) Tryz.func152 (by kernel_rfl) (by kernel_rfl) (fun cx b hp hb => all_of (by kernel_rfl : loopsOf (Tryz.f152.body.getD .skip) = []) trivial b hb) (R := (Bool × Unit)) (T := fun (d : aden P_i_ChanOk) => T_i_ChanOk d.1) e_i_ChanOk
def P_i_AddrOk : List (Bool × List Sh) := [(true, [.int .i64, .int .i64])]
def O_i_AddrOk (r : (Bool × Unit)) : List RV × List RV := ([rv (false, [.bool]) r], [])
def C_i_AddrOk : Fns := [(88, .plain, F_i_within)]
def F_i_AddrOk : Fun1 := funV P_i_AddrOk (fun d => (T_i_AddrOk d.1).val) O_i_AddrOk
def Q_i_AddrOk : Loops := fun _ _ => .fail
theorem e_i_AddrOk : ∀ d, pcall ⟨lookT tys, ctrOf C_i_AddrOk, kindOf C_i_AddrOk, 3, 4⟩ 0 Q_i_AddrOk Tryz.f89 .plain (mkA P_i_AddrOk d) = (T_i_AddrOk d.1).run fun r => some (O_i_AddrOk r) := fun d => by kernel_rfl
theorem fn_i_AddrOk : Fn Tryz.prog 89 .plain F_i_AddrOk := fn_of (cfgOk_of mixed tys_ok (show FnsOk Tryz.prog C_i_AddrOk from ⟨fn_i_within, trivial⟩)) Tryz.func89 (by kernel_rfl) (by kernel_rfl) (fun cx b hp hb => all_of (by kernel_rfl : loopsOf (Tryz.f89.body.getD .skip) = []) trivial b hb) (R := (Bool × Unit)) (T := fun (d : aden P_i_AddrOk) => T_i_AddrOk d.1) e_i_AddrOk
def P_i_PathsOk : List (Bool × List Sh) := [(true, h_7)]
def O_i_PathsOk (r : (Bool × Unit)) : List RV × List RV := ([rv (false, [.bool]) r], [])
def C_i_PathsOk : Fns := [(89, .plain, F_i_AddrOk), (105, .plain, F_i_isNonce), (88, .plain, F_i_within)]
def F_i_PathsOk : Fun1 := funV P_i_PathsOk (fun d => (T_i_PathsOk d.1).val) O_i_PathsOk
def K_i_PathsOk_4 : Sk := ⟨[(1, .box 1 0), (18, .v false [(.sl 198 h_4, .ro)]), (19, .v false [(.int .i64, .nil)]), (20, .v false [(.int .i64, .nil)])], [(1, [(.int .i64, .nil), (.int .i64, .nil), (.sl 198 h_4, .ro)])], []⟩
def X_i_PathsOk_4 : List (Ex × Sk) := [(.ret, ⟨[(2, .v false [(.bool, .nil)])], [], []⟩), ((.exit 0), ⟨[], [], []⟩)]
def K_i_PathsOk_9 : Sk := ⟨[(1, .box 1 0), (4, .box 4 0), (18, .v false [(.sl 198 h_4, .ro)]), (19, .v false [(.int .i64, .nil)]), (20, .v false [(.int .i64, .nil)]), (51, .v false [(.sl 198 h_4, .ro)]), (52, .v false [(.int .i64, .nil)]), (53, .v false [(.int .i64, .nil)])], [(1, [(.int .i64, .nil), (.int .i64, .nil), (.sl 198 h_4, .ro)]), (4, [(.int .i64, .nil), (.int .i64, .nil), (.sl 5 [.int .u8], .ro), (.int .i64, .nil)])], []⟩
def X_i_PathsOk_9 : List (Ex × Sk) := [(.ret, ⟨[(2, .v false [(.bool, .nil)])], [], []⟩), ((.exit 2), ⟨[(1, .box 1 0), (18, .v false [(.sl 198 h_4, .ro)]), (19, .v false [(.int .i64, .nil)]), (20, .v false [(.int .i64, .nil)])], [(1, [(.int .i64, .nil), (.int .i64, .nil), (.sl 198 h_4, .ro)])], []⟩)]
def Q_i_PathsOk : Loops := fun i st => cond (Nat.beq i 9) (lam K_i_PathsOk_9 10000000 X_i_PathsOk_9 B_i_PathsOk_9 st) <| cond (Nat.beq i 4) (lam K_i_PathsOk_4 5000000 X_i_PathsOk_4 B_i_PathsOk_4 st) <| .fail
theorem lp_i_PathsOk_9 : ∀ d, bod ⟨lookT tys, ctrOf C_i_PathsOk, kindOf C_i_PathsOk, 3, 4⟩ 0 Tryz.f154.ntmps Q_i_PathsOk (nthLoop Tryz.f154 1) K_i_PathsOk_9 10000000 X_i_PathsOk_9 d = B_i_PathsOk_9 d := fun d => by kernel_rfl
theorem lo_i_PathsOk_9 (cx : Cx) (hp : cx.pin.length ≤ 0) : LoopOk Tryz.prog cx Tryz.f154.ntmps Q_i_PathsOk (nthLoop Tryz.f154 1) := loop_of (cfgOk_of mixed tys_ok (show FnsOk Tryz.prog C_i_PathsOk from ⟨fn_i_AddrOk, fn_i_isNonce, fn_i_within, trivial⟩)) hp (all_of (by kernel_rfl : loopsOf (nthLoop Tryz.f154 1) = []) trivial) (by kernel_rfl) lp_i_PathsOk_9
theorem lp_i_PathsOk_4 : ∀ d, bod ⟨lookT tys, ctrOf C_i_PathsOk, kindOf C_i_PathsOk, 3, 4⟩ 0 Tryz.f154.ntmps Q_i_PathsOk (nthLoop Tryz.f154 0) K_i_PathsOk_4 5000000 X_i_PathsOk_4 d = B_i_PathsOk_4 d := fun d => by kernel_rfl
theorem lo_i_PathsOk_4 (cx : Cx) (hp : cx.pin.length ≤ 0) : LoopOk Tryz.prog cx Tryz.f154.ntmps Q_i_PathsOk (nthLoop Tryz.f154 0) := loop_of (cfgOk_of mixed tys_ok (show FnsOk Tryz.prog C_i_PathsOk from ⟨fn_i_AddrOk, fn_i_isNonce, fn_i_within, trivial⟩)) hp (all_of (by kernel_rfl : loopsOf (nthLoop Tryz.f154 0) = [nthLoop Tryz.f154 1]) ⟨lo_i_PathsOk_9 cx hp, trivial⟩) (by kernel_rfl) lp_i_PathsOk_4
theorem e_i_PathsOk : ∀ d, pcall ⟨lookT tys, ctrOf C_i_PathsOk, kindOf C_i_PathsOk, 3, 4⟩ 0 Q_i_PathsOk Tryz.f154 .plain (mkA P_i_PathsOk d) = (T_i_PathsOk d.1).run fun r => some (O_i_PathsOk r) := fun d => by kernel_rfl
theorem fn_i_PathsOk : Fn Tryz.prog 154 .plain F_i_PathsOk := fn_of (cfgOk_of mixed tys_ok (show FnsOk Tryz.prog C_i_PathsOk from ⟨fn_i_AddrOk, fn_i_isNonce, fn_i_within, trivial⟩)) Tryz.func154 (by kernel_rfl) (by kernel_rfl) (fun cx b hp hb => all_of (by kernel_rfl : loopsOf (Tryz.f154.body.getD .skip) = [nthLoop Tryz.f154 0]) ⟨lo_i_PathsOk_4 cx hp, trivial⟩ b hb) (R := (Bool × Unit)) (T := fun (d : aden P_i_PathsOk) => T_i_PathsOk d.1) e_i_PathsOk
def P_i_SessOk : List (Bool × List Sh) := [(true, h_12)]
def O_i_SessOk (r : (Bool × Unit)) : List RV × List RV := ([rv (false, [.bool]) r], [])
def C_i_SessOk : Fns := [(88, .plain, F_i_within), (105, .plain, F_i_isNonce), (151, .plain, F_i_isZeroChan), (152, .plain, F_i_ChanOk), (153, .plain, F_bytes_Equal), (154, .plain, F_i_PathsOk)]
def F_i_SessOk : Fun1 := funV P_i_SessOk (fun d => (T_i_SessOk d.1).val) O_i_SessOk
def Q_i_SessOk : Loops := fun _ _ => .fail
theorem e_i_SessOk : ∀ d, pcall ⟨lookT tys, ctrOf C_i_SessOk, kindOf C_i_SessOk, 3, 4⟩ 0 Q_i_SessOk Tryz.f78 .plain (mkA P_i_SessOk d) = (T_i_SessOk d.1).run fun r => some (O_i_SessOk r) := fun d => by kernel_rfl
theorem fn_i_SessOk : Fn Tryz.prog 78 .plain F_i_SessOk := fn_of (cfgOk_of mixed tys_ok (show FnsOk Tryz.prog C_i_SessOk from ⟨fn_i_within, fn_i_isNonce, fn_i_isZeroChan, fn_i_ChanOk, fn_bytes_Equal, fn_i_PathsOk, trivial⟩)) Tryz.func78 (by kernel_rfl) (by kernel_rfl) (fun cx b hp hb => all_of (by kernel_rfl : loopsOf (Tryz.f78.body.getD .skip) = []) trivial b hb) (R := (Bool × Unit)) (T := fun (d : aden P_i_SessOk) => T_i_SessOk d.1) e_i_SessOk
def P_i_FindSn : List (Bool × List Sh) := [(true, [.int .i64, .sl 58 h_12]), (false, [.sl 5 [.int .u8]])]
def O_i_FindSn (r : (YI)) : List RV × List RV := ([rv (false, [.int .i64]) r], [])
def C_i_FindSn : Fns := [(153, .plain, F_bytes_Equal)]
def F_i_FindSn : Fun1 := funV P_i_FindSn (fun d => (T_i_FindSn d.1 d.2.1).val) O_i_FindSn
def K_i_FindSn_2 : Sk := ⟨[(1, .v false [(.sl 5 [.int .u8], .ro)]), (8, .v false [(.sl 58 h_12, .ro)]), (9, .v false [(.int .i64, .nil)]), (10, .v false [(.int .i64, .nil)])], [], []⟩
def X_i_FindSn_2 : List (Ex × Sk) := [(.ret, ⟨[(4, .v false [(.int .i64, .nil)])], [], []⟩), ((.exit 0), ⟨[], [], []⟩)]
def Q_i_FindSn : Loops := fun i st => cond (Nat.beq i 2) (lam K_i_FindSn_2 3000000 X_i_FindSn_2 B_i_FindSn_2 st) <| .fail
theorem lp_i_FindSn_2 : ∀ d, bod ⟨lookT tys, ctrOf C_i_FindSn, kindOf C_i_FindSn, 3, 4⟩ 0 Tryz.f79.ntmps Q_i_FindSn (nthLoop Tryz.f79 0) K_i_FindSn_2 3000000 X_i_FindSn_2 d = B_i_FindSn_2 d := fun d => by kernel_rfl
theorem lo_i_FindSn_2 (cx : Cx) (hp : cx.pin.length ≤ 0) : LoopOk Tryz.prog cx Tryz.f79.ntmps Q_i_FindSn (nthLoop Tryz.f79 0) := loop_of (cfgOk_of mixed tys_ok (show FnsOk Tryz.prog C_i_FindSn from ⟨fn_bytes_Equal, trivial⟩)) hp (all_of (by kernel_rfl : loopsOf (nthLoop Tryz.f79 0) = []) trivial) (by kernel_rfl) lp_i_FindSn_2
theorem e_i_FindSn : ∀ d, pcall ⟨lookT tys, ctrOf C_i_FindSn, kindOf C_i_FindSn, 3, 4⟩ 0 Q_i_FindSn Tryz.f79 .plain (mkA P_i_FindSn d) = (T_i_FindSn d.1 d.2.1).run fun r => some (O_i_FindSn r) := fun d => by kernel_rfl
theorem fn_i_FindSn : Fn Tryz.prog 79 .plain F_i_FindSn := fn_of (cfgOk_of mixed tys_ok (show FnsOk Tryz.prog C_i_FindSn from ⟨fn_bytes_Equal, trivial⟩)) Tryz.func79 (by kernel_rfl) (by kernel_rfl) (fun cx b hp hb => all_of (by kernel_rfl : loopsOf (Tryz.f79.body.getD .skip) = [nthLoop Tryz.f79 0]) ⟨lo_i_FindSn_2 cx hp, trivial⟩ b hb) (R := (YI)) (T := fun (d : aden P_i_FindSn) => T_i_FindSn d.1 d.2.1) e_i_FindSn
def P_i_TabOk : List (Bool × List Sh) := [(true, [.int .i64, .sl 58 h_12])]
def O_i_TabOk (r : (Bool × Unit)) : List RV × List RV := ([rv (false, [.bool]) r], [])
def C_i_TabOk : Fns := [(88, .plain, F_i_within), (80, .plain, F_i_Live), (78, .plain, F_i_SessOk), (79, .plain, F_i_FindSn)]
def F_i_TabOk : Fun1 := funV P_i_TabOk (fun d => (T_i_TabOk d.1).val) O_i_TabOk
def K_i_TabOk_4 : Sk := ⟨[(1, .box 1 0), (23, .v false [(.sl 58 h_12, .ro)]), (24, .v false [(.int .i64, .nil)]), (25, .v false [(.int .i64, .nil)])], [(1, [(.int .i64, .nil), (.sl 58 h_12, .ro)])], []⟩
def X_i_TabOk_4 : List (Ex × Sk) := [(.ret, ⟨[(2, .v false [(.bool, .nil)])], [], []⟩), ((.exit 0), ⟨[], [], []⟩)]
def Q_i_TabOk : Loops := fun i st => cond (Nat.beq i 4) (lam K_i_TabOk_4 5000000 X_i_TabOk_4 B_i_TabOk_4 st) <| .fail
theorem lp_i_TabOk_4 : ∀ d, bod ⟨lookT tys, ctrOf C_i_TabOk, kindOf C_i_TabOk, 3, 4⟩ 0 Tryz.f66.ntmps Q_i_TabOk (nthLoop Tryz.f66 0) K_i_TabOk_4 5000000 X_i_TabOk_4 d = B_i_TabOk_4 d := fun d => by kernel_rfl
theorem lo_i_TabOk_4 (cx : Cx) (hp : cx.pin.length ≤ 0) : LoopOk Tryz.prog cx Tryz.f66.ntmps Q_i_TabOk (nthLoop Tryz.f66 0) := loop_of (cfgOk_of mixed tys_ok (show FnsOk Tryz.prog C_i_TabOk from ⟨fn_i_within, fn_i_Live, fn_i_SessOk, fn_i_FindSn, trivial⟩)) hp (all_of (by kernel_rfl : loopsOf (nthLoop Tryz.f66 0) = []) trivial) (by kernel_rfl) lp_i_TabOk_4
theorem e_i_TabOk : ∀ d, pcall ⟨lookT tys, ctrOf C_i_TabOk, kindOf C_i_TabOk, 3, 4⟩ 0 Q_i_TabOk Tryz.f66 .plain (mkA P_i_TabOk d) = (T_i_TabOk d.1).run fun r => some (O_i_TabOk r) := fun d => by kernel_rfl
theorem fn_i_TabOk : Fn Tryz.prog 66 .plain F_i_TabOk := fn_of (cfgOk_of mixed tys_ok (show FnsOk Tryz.prog C_i_TabOk from ⟨fn_i_within, fn_i_Live, fn_i_SessOk, fn_i_FindSn, trivial⟩)) Tryz.func66 (by kernel_rfl) (by kernel_rfl) (fun cx b hp hb => all_of (by kernel_rfl : loopsOf (Tryz.f66.body.getD .skip) = [nthLoop Tryz.f66 0]) ⟨lo_i_TabOk_4 cx hp, trivial⟩ b hb) (R := (Bool × Unit)) (T := fun (d : aden P_i_TabOk) => T_i_TabOk d.1) e_i_TabOk
def P_i_creditAt : List (Bool × List Sh) := [(false, [.sl 190 h_2]), (true, [.int .i64, .int .i64])]
def O_i_creditAt (r : (YI)) : List RV × List RV := ([rv (false, [.int .i64]) r], [])
def C_i_creditAt : Fns := []
def F_i_creditAt : Fun1 := funV P_i_creditAt (fun d => (T_i_creditAt d.1 d.2.1).val) O_i_creditAt
def K_i_creditAt_2 : Sk := ⟨[(3, .box 3 0), (7, .v false [(.sl 190 h_2, .ro)]), (8, .v false [(.int .i64, .nil)]), (9, .v false [(.int .i64, .nil)])], [(3, [(.int .i64, .nil), (.int .i64, .nil)])], []⟩
def X_i_creditAt_2 : List (Ex × Sk) := [(.ret, ⟨[(4, .v false [(.int .i64, .nil)])], [], []⟩), ((.exit 0), ⟨[], [], []⟩)]
def Q_i_creditAt : Loops := fun i st => cond (Nat.beq i 2) (lam K_i_creditAt_2 3000000 X_i_creditAt_2 B_i_creditAt_2 st) <| .fail
theorem lp_i_creditAt_2 : ∀ d, bod ⟨lookT tys, ctrOf C_i_creditAt, kindOf C_i_creditAt, 3, 4⟩ 0 Tryz.f216.ntmps Q_i_creditAt (nthLoop Tryz.f216 0) K_i_creditAt_2 3000000 X_i_creditAt_2 d = B_i_creditAt_2 d := fun d => by kernel_rfl
theorem lo_i_creditAt_2 (cx : Cx) (hp : cx.pin.length ≤ 0) : LoopOk Tryz.prog cx Tryz.f216.ntmps Q_i_creditAt (nthLoop Tryz.f216 0) := loop_of (cfgOk_of mixed tys_ok (show FnsOk Tryz.prog C_i_creditAt from trivial)) hp (all_of (by kernel_rfl : loopsOf (nthLoop Tryz.f216 0) = []) trivial) (by kernel_rfl) lp_i_creditAt_2
theorem e_i_creditAt : ∀ d, pcall ⟨lookT tys, ctrOf C_i_creditAt, kindOf C_i_creditAt, 3, 4⟩ 0 Q_i_creditAt Tryz.f216 .plain (mkA P_i_creditAt d) = (T_i_creditAt d.1 d.2.1).run fun r => some (O_i_creditAt r) := fun d => by kernel_rfl
theorem fn_i_creditAt : Fn Tryz.prog 216 .plain F_i_creditAt := fn_of (cfgOk_of mixed tys_ok (show FnsOk Tryz.prog C_i_creditAt from trivial)) Tryz.func216 (by kernel_rfl) (by kernel_rfl) (fun cx b hp hb => all_of (by kernel_rfl : loopsOf (Tryz.f216.body.getD .skip) = [nthLoop Tryz.f216 0]) ⟨lo_i_creditAt_2 cx hp, trivial⟩ b hb) (R := (YI)) (T := fun (d : aden P_i_creditAt) => T_i_creditAt d.1 d.2.1) e_i_creditAt
def P_i_CreditsOk : List (Bool × List Sh) := [(false, [.sl 190 h_2])]
def O_i_CreditsOk (r : (Bool × Unit)) : List RV × List RV := ([rv (false, [.bool]) r], [])
def C_i_CreditsOk : Fns := [(89, .plain, F_i_AddrOk), (88, .plain, F_i_within), (216, .plain, F_i_creditAt)]
def F_i_CreditsOk : Fun1 := funV P_i_CreditsOk (fun d => (T_i_CreditsOk d.1).val) O_i_CreditsOk
def K_i_CreditsOk_4 : Sk := ⟨[(0, .v false [(.sl 190 h_2, .ro)]), (8, .v false [(.sl 190 h_2, .ro)]), (9, .v false [(.int .i64, .nil)]), (10, .v false [(.int .i64, .nil)])], [], []⟩
def X_i_CreditsOk_4 : List (Ex × Sk) := [(.ret, ⟨[(2, .v false [(.bool, .nil)])], [], []⟩), ((.exit 0), ⟨[], [], []⟩)]
def Q_i_CreditsOk : Loops := fun i st => cond (Nat.beq i 4) (lam K_i_CreditsOk_4 5000000 X_i_CreditsOk_4 B_i_CreditsOk_4 st) <| .fail
theorem lp_i_CreditsOk_4 : ∀ d, bod ⟨lookT tys, ctrOf C_i_CreditsOk, kindOf C_i_CreditsOk, 3, 4⟩ 0 Tryz.f186.ntmps Q_i_CreditsOk (nthLoop Tryz.f186 0) K_i_CreditsOk_4 5000000 X_i_CreditsOk_4 d = B_i_CreditsOk_4 d := fun d => by kernel_rfl
theorem lo_i_CreditsOk_4 (cx : Cx) (hp : cx.pin.length ≤ 0) : LoopOk Tryz.prog cx Tryz.f186.ntmps Q_i_CreditsOk (nthLoop Tryz.f186 0) := loop_of (cfgOk_of mixed tys_ok (show FnsOk Tryz.prog C_i_CreditsOk from ⟨fn_i_AddrOk, fn_i_within, fn_i_creditAt, trivial⟩)) hp (all_of (by kernel_rfl : loopsOf (nthLoop Tryz.f186 0) = []) trivial) (by kernel_rfl) lp_i_CreditsOk_4
theorem e_i_CreditsOk : ∀ d, pcall ⟨lookT tys, ctrOf C_i_CreditsOk, kindOf C_i_CreditsOk, 3, 4⟩ 0 Q_i_CreditsOk Tryz.f186 .plain (mkA P_i_CreditsOk d) = (T_i_CreditsOk d.1).run fun r => some (O_i_CreditsOk r) := fun d => by kernel_rfl
theorem fn_i_CreditsOk : Fn Tryz.prog 186 .plain F_i_CreditsOk := fn_of (cfgOk_of mixed tys_ok (show FnsOk Tryz.prog C_i_CreditsOk from ⟨fn_i_AddrOk, fn_i_within, fn_i_creditAt, trivial⟩)) Tryz.func186 (by kernel_rfl) (by kernel_rfl) (fun cx b hp hb => all_of (by kernel_rfl : loopsOf (Tryz.f186.body.getD .skip) = [nthLoop Tryz.f186 0]) ⟨lo_i_CreditsOk_4 cx hp, trivial⟩ b hb) (R := (Bool × Unit)) (T := fun (d : aden P_i_CreditsOk) => T_i_CreditsOk d.1) e_i_CreditsOk
def P_i_PskOk : List (Bool × List Sh) := [(false, [.sl 5 [.int .u8]])]
def O_i_PskOk (r : (Bool × Unit)) : List RV × List RV := ([rv (false, [.bool]) r], [])
def C_i_PskOk : Fns := [(88, .plain, F_i_within)]
def F_i_PskOk : Fun1 := funV P_i_PskOk (fun d => (T_i_PskOk d.1).val) O_i_PskOk
def Q_i_PskOk : Loops := fun _ _ => .fail
theorem e_i_PskOk : ∀ d, pcall ⟨lookT tys, ctrOf C_i_PskOk, kindOf C_i_PskOk, 3, 4⟩ 0 Q_i_PskOk Tryz.f87 .plain (mkA P_i_PskOk d) = (T_i_PskOk d.1).run fun r => some (O_i_PskOk r) := fun d => by kernel_rfl
theorem fn_i_PskOk : Fn Tryz.prog 87 .plain F_i_PskOk := fn_of (cfgOk_of mixed tys_ok (show FnsOk Tryz.prog C_i_PskOk from ⟨fn_i_within, trivial⟩)) Tryz.func87 (by kernel_rfl) (by kernel_rfl) (fun cx b hp hb => all_of (by kernel_rfl : loopsOf (Tryz.f87.body.getD .skip) = []) trivial b hb) (R := (Bool × Unit)) (T := fun (d : aden P_i_PskOk) => T_i_PskOk d.1) e_i_PskOk
def P_i_ServerOk : List (Bool × List Sh) := [(true, h_13)]
def O_i_ServerOk (r : (Bool × Unit)) : List RV × List RV := ([rv (false, [.bool]) r], [])
def C_i_ServerOk : Fns := [(88, .plain, F_i_within), (185, .plain, F_i_JarOk), (182, .plain, F_i_DiceOk), (66, .plain, F_i_TabOk), (186, .plain, F_i_CreditsOk), (87, .plain, F_i_PskOk)]
def F_i_ServerOk : Fun1 := funV P_i_ServerOk (fun d => (T_i_ServerOk d.1).val) O_i_ServerOk
def K_i_ServerOk_10 : Sk := ⟨[(1, .box 1 0), (49, .v false [(.sl 58 h_12, .ro)]), (50, .v false [(.int .i64, .nil)]), (51, .v false [(.int .i64, .nil)])], [(1, [(.sl 25 [.sl 5 [.int .u8]], .ro), (.sl 5 [.int .u8], .ro), (.sl 5 [.int .u8], .ro), (.int .i64, .nil), (.int .i64, .nil), (.sl 58 h_12, .ro), (.sl 190 h_2, .ro)])], []⟩
def X_i_ServerOk_10 : List (Ex × Sk) := [(.ret, ⟨[(2, .v false [(.bool, .nil)])], [], []⟩), ((.exit 2), ⟨[], [], []⟩)]
def K_i_ServerOk_4 : Sk := ⟨[(1, .box 1 0), (37, .v false [(.sl 25 [.sl 5 [.int .u8]], .ro)]), (38, .v false [(.int .i64, .nil)]), (39, .v false [(.int .i64, .nil)])], [(1, [(.sl 25 [.sl 5 [.int .u8]], .ro), (.sl 5 [.int .u8], .ro), (.sl 5 [.int .u8], .ro), (.int .i64, .nil), (.int .i64, .nil), (.sl 58 h_12, .ro), (.sl 190 h_2, .ro)])], []⟩
def X_i_ServerOk_4 : List (Ex × Sk) := [(.ret, ⟨[(2, .v false [(.bool, .nil)])], [], []⟩), ((.exit 0), ⟨[(1, .box 1 0)], [(1, [(.sl 25 [.sl 5 [.int .u8]], .ro), (.sl 5 [.int .u8], .ro), (.sl 5 [.int .u8], .ro), (.int .i64, .nil), (.int .i64, .nil), (.sl 58 h_12, .ro), (.sl 190 h_2, .ro)])], []⟩)]
def Q_i_ServerOk : Loops := fun i st => cond (Nat.beq i 4) (lam K_i_ServerOk_4 5000000 X_i_ServerOk_4 B_i_ServerOk_4 st) <| cond (Nat.beq i 10) (lam K_i_ServerOk_10 11000000 X_i_ServerOk_10 B_i_ServerOk_10 st) <| .fail
theorem lp_i_ServerOk_4 : ∀ d, bod ⟨lookT tys, ctrOf C_i_ServerOk, kindOf C_i_ServerOk, 3, 4⟩ 0 Tryz.f120.ntmps Q_i_ServerOk (nthLoop Tryz.f120 0) K_i_ServerOk_4 5000000 X_i_ServerOk_4 d = B_i_ServerOk_4 d := fun d => by kernel_rfl
theorem lo_i_ServerOk_4 (cx : Cx) (hp : cx.pin.length ≤ 0) : LoopOk Tryz.prog cx Tryz.f120.ntmps Q_i_ServerOk (nthLoop Tryz.f120 0) := loop_of (cfgOk_of mixed tys_ok (show FnsOk Tryz.prog C_i_ServerOk from ⟨fn_i_within, fn_i_JarOk, fn_i_DiceOk, fn_i_TabOk, fn_i_CreditsOk, fn_i_PskOk, trivial⟩)) hp (all_of (by kernel_rfl : loopsOf (nthLoop Tryz.f120 0) = []) trivial) (by kernel_rfl) lp_i_ServerOk_4
theorem lp_i_ServerOk_10 : ∀ d, bod ⟨lookT tys, ctrOf C_i_ServerOk, kindOf C_i_ServerOk, 3, 4⟩ 0 Tryz.f120.ntmps Q_i_ServerOk (nthLoop Tryz.f120 1) K_i_ServerOk_10 11000000 X_i_ServerOk_10 d = B_i_ServerOk_10 d := fun d => by kernel_rfl
theorem lo_i_ServerOk_10 (cx : Cx) (hp : cx.pin.length ≤ 0) : LoopOk Tryz.prog cx Tryz.f120.ntmps Q_i_ServerOk (nthLoop Tryz.f120 1) := loop_of (cfgOk_of mixed tys_ok (show FnsOk Tryz.prog C_i_ServerOk from ⟨fn_i_within, fn_i_JarOk, fn_i_DiceOk, fn_i_TabOk, fn_i_CreditsOk, fn_i_PskOk, trivial⟩)) hp (all_of (by kernel_rfl : loopsOf (nthLoop Tryz.f120 1) = []) trivial) (by kernel_rfl) lp_i_ServerOk_10
theorem e_i_ServerOk : ∀ d, pcall ⟨lookT tys, ctrOf C_i_ServerOk, kindOf C_i_ServerOk, 3, 4⟩ 0 Q_i_ServerOk Tryz.f120 .plain (mkA P_i_ServerOk d) = (T_i_ServerOk d.1).run fun r => some (O_i_ServerOk r) := fun d => by kernel_rfl
theorem fn_i_ServerOk : Fn Tryz.prog 120 .plain F_i_ServerOk := fn_of (cfgOk_of mixed tys_ok (show FnsOk Tryz.prog C_i_ServerOk from ⟨fn_i_within, fn_i_JarOk, fn_i_DiceOk, fn_i_TabOk, fn_i_CreditsOk, fn_i_PskOk, trivial⟩)) Tryz.func120 (by kernel_rfl) (by kernel_rfl) (fun cx b hp hb => all_of (by kernel_rfl : loopsOf (Tryz.f120.body.getD .skip) = [nthLoop Tryz.f120 0, nthLoop Tryz.f120 1]) ⟨lo_i_ServerOk_4 cx hp, lo_i_ServerOk_10 cx hp, trivial⟩ b hb) (R := (Bool × Unit)) (T := fun (d : aden P_i_ServerOk) => T_i_ServerOk d.1) e_i_ServerOk
def P_i_ServerNew : List (Bool × List Sh) := [(false, [.sl 25 [.sl 5 [.int .u8]]]), (false, [.sl 5 [.int .u8]]), (false, [.int .i64])]
def O_i_ServerNew (r : (YServer)) : List RV × List RV := ([rv (true, h_13) r], [])
def C_i_ServerNew : Fns := [(116, .plain, F_i_Roll), (117, .plain, F_i_cloneAll), (118, .plain, F_i_JarNew), (119, .plain, F_i_TabNew), (120, .plain, F_i_ServerOk)]
def F_i_ServerNew : Fun1 := funV P_i_ServerNew (fun d => (T_i_ServerNew d.1 d.2.1 d.2.2.1).val) O_i_ServerNew
def Q_i_ServerNew : Loops := fun _ _ => .fail
theorem e_i_ServerNew : ∀ d, pcall ⟨lookT tys, ctrOf C_i_ServerNew, kindOf C_i_ServerNew, 3, 4⟩ 0 Q_i_ServerNew Tryz.f48 .plain (mkA P_i_ServerNew d) = (T_i_ServerNew d.1 d.2.1 d.2.2.1).run fun r => some (O_i_ServerNew r) := fun d => by kernel_rfl
theorem fn_i_ServerNew : Fn Tryz.prog 48 .plain F_i_ServerNew := fn_of (cfgOk_of mixed tys_ok (show FnsOk Tryz.prog C_i_ServerNew from ⟨fn_i_Roll, fn_i_cloneAll, fn_i_JarNew, fn_i_TabNew, fn_i_ServerOk, trivial⟩)) Tryz.func48 (by kernel_rfl) (by kernel_rfl) (fun cx b hp hb => all_of (by kernel_rfl : loopsOf (Tryz.f48.body.getD .skip) = []) trivial b hb) (R := (YServer)) (T := fun (d : aden P_i_ServerNew) => T_i_ServerNew d.1 d.2.1 d.2.2.1) e_i_ServerNew
def P_l_eqByteS : List (Bool × List Sh) := [(false, [.sl 5 [.int .u8]]), (false, [.sl 5 [.int .u8]])]
def O_l_eqByteS (r : (Bool × Unit)) : List RV × List RV := ([rv (false, [.bool]) r], [])
def C_l_eqByteS : Fns := []
def F_l_eqByteS : Fun1 := funV P_l_eqByteS (fun d => (T_l_eqByteS d.1 d.2.1).val) O_l_eqByteS
def K_l_eqByteS_4 : Sk := ⟨[(0, .v false [(.sl 5 [.int .u8], .ro)]), (1, .v false [(.sl 5 [.int .u8], .ro)]), (5, .v false [(.int .i64, .nil)])], [], []⟩
def X_l_eqByteS_4 : List (Ex × Sk) := [(.ret, ⟨[(4, .v false [(.bool, .nil)])], [], []⟩), ((.exit 0), ⟨[], [], []⟩)]
def Q_l_eqByteS : Loops := fun i st => cond (Nat.beq i 4) (lam K_l_eqByteS_4 5000000 X_l_eqByteS_4 B_l_eqByteS_4 st) <| .fail
theorem lp_l_eqByteS_4 : ∀ d, bod ⟨lookT tys, ctrOf C_l_eqByteS, kindOf C_l_eqByteS, 3, 4⟩ 0 Tryz.f27.ntmps Q_l_eqByteS (nthLoop Tryz.f27 0) K_l_eqByteS_4 5000000 X_l_eqByteS_4 d = B_l_eqByteS_4 d := fun d => by kernel_rfl
theorem lo_l_eqByteS_4 (cx : Cx) (hp : cx.pin.length ≤ 0) : LoopOk Tryz.prog cx Tryz.f27.ntmps Q_l_eqByteS (nthLoop Tryz.f27 0) := loop_of (cfgOk_of mixed tys_ok (show FnsOk Tryz.prog C_l_eqByteS from trivial)) hp (all_of (by kernel_rfl : loopsOf (nthLoop Tryz.f27 0) = []) trivial) (by kernel_rfl) lp_l_eqByteS_4
theorem e_l_eqByteS : ∀ d, pcall ⟨lookT tys, ctrOf C_l_eqByteS, kindOf C_l_eqByteS, 3, 4⟩ 0 Q_l_eqByteS Tryz.f27 .plain (mkA P_l_eqByteS d) = (T_l_eqByteS d.1 d.2.1).run fun r => some (O_l_eqByteS r) := fun d => by kernel_rfl
theorem fn_l_eqByteS : Fn Tryz.prog 27 .plain F_l_eqByteS := fn_of (cfgOk_of mixed tys_ok (show FnsOk Tryz.prog C_l_eqByteS from trivial)) Tryz.func27 (by kernel_rfl) (by kernel_rfl) (fun cx b hp hb => all_of (by kernel_rfl : loopsOf (Tryz.f27.body.getD .skip) = [nthLoop Tryz.f27 0]) ⟨lo_l_eqByteS_4 cx hp, trivial⟩ b hb) (R := (Bool × Unit)) (T := fun (d : aden P_l_eqByteS) => T_l_eqByteS d.1 d.2.1) e_l_eqByteS
def P_l_eqByteSS : List (Bool × List Sh) := [(false, [.sl 25 [.sl 5 [.int .u8]]]), (false, [.sl 25 [.sl 5 [.int .u8]]])]
def O_l_eqByteSS (r : (Bool × Unit)) : List RV × List RV := ([rv (false, [.bool]) r], [])
def C_l_eqByteSS : Fns := [(27, .plain, F_l_eqByteS)]
def F_l_eqByteSS : Fun1 := funV P_l_eqByteSS (fun d => (T_l_eqByteSS d.1 d.2.1).val) O_l_eqByteSS
def K_l_eqByteSS_4 : Sk := ⟨[(0, .v false [(.sl 25 [.sl 5 [.int .u8]], .ro)]), (1, .v false [(.sl 25 [.sl 5 [.int .u8]], .ro)]), (5, .v false [(.int .i64, .nil)])], [], []⟩
def X_l_eqByteSS_4 : List (Ex × Sk) := [(.ret, ⟨[(4, .v false [(.bool, .nil)])], [], []⟩), ((.exit 0), ⟨[], [], []⟩)]
def Q_l_eqByteSS : Loops := fun i st => cond (Nat.beq i 4) (lam K_l_eqByteSS_4 5000000 X_l_eqByteSS_4 B_l_eqByteSS_4 st) <| .fail
theorem lp_l_eqByteSS_4 : ∀ d, bod ⟨lookT tys, ctrOf C_l_eqByteSS, kindOf C_l_eqByteSS, 3, 4⟩ 0 Tryz.f50.ntmps Q_l_eqByteSS (nthLoop Tryz.f50 0) K_l_eqByteSS_4 5000000 X_l_eqByteSS_4 d = B_l_eqByteSS_4 d := fun d => by kernel_rfl
theorem lo_l_eqByteSS_4 (cx : Cx) (hp : cx.pin.length ≤ 0) : LoopOk Tryz.prog cx Tryz.f50.ntmps Q_l_eqByteSS (nthLoop Tryz.f50 0) := loop_of (cfgOk_of mixed tys_ok (show FnsOk Tryz.prog C_l_eqByteSS from ⟨fn_l_eqByteS, trivial⟩)) hp (all_of (by kernel_rfl : loopsOf (nthLoop Tryz.f50 0) = []) trivial) (by kernel_rfl) lp_l_eqByteSS_4
theorem e_l_eqByteSS : ∀ d, pcall ⟨lookT tys, ctrOf C_l_eqByteSS, kindOf C_l_eqByteSS, 3, 4⟩ 0 Q_l_eqByteSS Tryz.f50 .plain (mkA P_l_eqByteSS d) = (T_l_eqByteSS d.1 d.2.1).run fun r => some (O_l_eqByteSS r) := fun d => by kernel_rfl
theorem fn_l_eqByteSS : Fn Tryz.prog 50 .plain F_l_eqByteSS := fn_of (cfgOk_of mixed tys_ok (show FnsOk Tryz.prog C_l_eqByteSS from ⟨fn_l_eqByteS, trivial⟩)) Tryz.func50 (by kernel_rfl) (by kernel_rfl) (fun cx b hp hb => all_of (by kernel_rfl : loopsOf (Tryz.f50.body.getD .skip) = [nthLoop Tryz.f50 0]) ⟨lo_l_eqByteSS_4 cx hp, trivial⟩ b hb) (R := (Bool × Unit)) (T := fun (d : aden P_l_eqByteSS) => T_l_eqByteSS d.1 d.2.1) e_l_eqByteSS
def P_l_eqJar : List (Bool × List Sh) := [(true, [.sl 5 [.int .u8]]), (true, [.sl 5 [.int .u8]])]
def O_l_eqJar (r : (Bool × Unit)) : List RV × List RV := ([rv (false, [.bool]) r], [])
def C_l_eqJar : Fns := [(27, .plain, F_l_eqByteS)]
def F_l_eqJar : Fun1 := funV P_l_eqJar (fun d => (T_l_eqJar d.1 d.2.1).val) O_l_eqJar
def Q_l_eqJar : Loops := fun _ _ => .fail
theorem e_l_eqJar : ∀ d, pcall ⟨lookT tys, ctrOf C_l_eqJar, kindOf C_l_eqJar, 3, 4⟩ 0 Q_l_eqJar Tryz.f121 .plain (mkA P_l_eqJar d) = (T_l_eqJar d.1 d.2.1).run fun r => some (O_l_eqJar r) := fun d => by kernel_rfl
theorem fn_l_eqJar : Fn Tryz.prog 121 .plain F_l_eqJar := fn_of (cfgOk_of mixed tys_ok (show FnsOk Tryz.prog C_l_eqJar from ⟨fn_l_eqByteS, trivial⟩)) Tryz.func121 (by kernel_rfl) (by kernel_rfl) (fun cx b hp hb => all_of (by kernel_rfl : loopsOf (Tryz.f121.body.getD .skip) = []) trivial b hb) (R := (Bool × Unit)) (T := fun (d : aden P_l_eqJar) => T_l_eqJar d.1 d.2.1) e_l_eqJar
def P_l_eqDice : List (Bool × List Sh) := [(true, [.sl 5 [.int .u8], .int .i64]), (true, [.sl 5 [.int .u8], .int .i64])]
def O_l_eqDice (r : (Bool × Unit)) : List RV × List RV := ([rv (false, [.bool]) r], [])
def C_l_eqDice : Fns := [(27, .plain, F_l_eqByteS)]
def F_l_eqDice : Fun1 := funV P_l_eqDice (fun d => (T_l_eqDice d.1 d.2.1).val) O_l_eqDice
def Q_l_eqDice : Loops := fun _ _ => .fail
theorem e_l_eqDice : ∀ d, pcall ⟨lookT tys, ctrOf C_l_eqDice, kindOf C_l_eqDice, 3, 4⟩ 0 Q_l_eqDice Tryz.f122 .plain (mkA P_l_eqDice d) = (T_l_eqDice d.1 d.2.1).run fun r => some (O_l_eqDice r) := fun d => by kernel_rfl
theorem fn_l_eqDice : Fn Tryz.prog 122 .plain F_l_eqDice := fn_of (cfgOk_of mixed tys_ok (show FnsOk Tryz.prog C_l_eqDice from ⟨fn_l_eqByteS, trivial⟩)) Tryz.func122 (by kernel_rfl) (by kernel_rfl) (fun cx b hp hb => all_of (by kernel_rfl : loopsOf (Tryz.f122.body.getD .skip) = []) trivial b hb) (R := (Bool × Unit)) (T := fun (d : aden P_l_eqDice) => T_l_eqDice d.1 d.2.1) e_l_eqDice
def P_l_eqIntS : List (Bool × List Sh) := [(false, [.sl 3 [.int .i64]]), (false, [.sl 3 [.int .i64]])]
def O_l_eqIntS (r : (Bool × Unit)) : List RV × List RV := ([rv (false, [.bool]) r], [])
def C_l_eqIntS : Fns := []
def F_l_eqIntS : Fun1 := funV P_l_eqIntS (fun d => (T_l_eqIntS d.1 d.2.1).val) O_l_eqIntS
def K_l_eqIntS_4 : Sk := ⟨[(0, .v false [(.sl 3 [.int .i64], .ro)]), (1, .v false [(.sl 3 [.int .i64], .ro)]), (5, .v false [(.int .i64, .nil)])], [], []⟩
def X_l_eqIntS_4 : List (Ex × Sk) := [(.ret, ⟨[(4, .v false [(.bool, .nil)])], [], []⟩), ((.exit 0), ⟨[], [], []⟩)]
def Q_l_eqIntS : Loops := fun i st => cond (Nat.beq i 4) (lam K_l_eqIntS_4 5000000 X_l_eqIntS_4 B_l_eqIntS_4 st) <| .fail
theorem lp_l_eqIntS_4 : ∀ d, bod ⟨lookT tys, ctrOf C_l_eqIntS, kindOf C_l_eqIntS, 3, 4⟩ 0 Tryz.f221.ntmps Q_l_eqIntS (nthLoop Tryz.f221 0) K_l_eqIntS_4 5000000 X_l_eqIntS_4 d = B_l_eqIntS_4 d := fun d => by kernel_rfl
theorem lo_l_eqIntS_4 (cx : Cx) (hp : cx.pin.length ≤ 0) : LoopOk Tryz.prog cx Tryz.f221.ntmps Q_l_eqIntS (nthLoop Tryz.f221 0) := loop_of (cfgOk_of mixed tys_ok (show FnsOk Tryz.prog C_l_eqIntS from trivial)) hp (all_of (by kernel_rfl : loopsOf (nthLoop Tryz.f221 0) = []) trivial) (by kernel_rfl) lp_l_eqIntS_4
theorem e_l_eqIntS : ∀ d, pcall ⟨lookT tys, ctrOf C_l_eqIntS, kindOf C_l_eqIntS, 3, 4⟩ 0 Q_l_eqIntS Tryz.f221 .plain (mkA P_l_eqIntS d) = (T_l_eqIntS d.1 d.2.1).run fun r => some (O_l_eqIntS r) := fun d => by kernel_rfl
theorem fn_l_eqIntS : Fn Tryz.prog 221 .plain F_l_eqIntS := fn_of (cfgOk_of mixed tys_ok (show FnsOk Tryz.prog C_l_eqIntS from trivial)) Tryz.func221 (by kernel_rfl) (by kernel_rfl) (fun cx b hp hb => all_of (by kernel_rfl : loopsOf (Tryz.f221.body.getD .skip) = [nthLoop Tryz.f221 0]) ⟨lo_l_eqIntS_4 cx hp, trivial⟩ b hb) (R := (Bool × Unit)) (T := fun (d : aden P_l_eqIntS) => T_l_eqIntS d.1 d.2.1) e_l_eqIntS
def P_l_eqWin : List (Bool × List Sh) := [(true, [.int .i64, .sl 3 [.int .i64]]), (true, [.int .i64, .sl 3 [.int .i64]])]
def O_l_eqWin (r : (Bool × Unit)) : List RV × List RV := ([rv (false, [.bool]) r], [])
def C_l_eqWin : Fns := [(221, .plain, F_l_eqIntS)]
def F_l_eqWin : Fun1 := funV P_l_eqWin (fun d => (T_l_eqWin d.1 d.2.1).val) O_l_eqWin
def Q_l_eqWin : Loops := fun _ _ => .fail
theorem e_l_eqWin : ∀ d, pcall ⟨lookT tys, ctrOf C_l_eqWin, kindOf C_l_eqWin, 3, 4⟩ 0 Q_l_eqWin Tryz.f196 .plain (mkA P_l_eqWin d) = (T_l_eqWin d.1 d.2.1).run fun r => some (O_l_eqWin r) := fun d => by kernel_rfl
theorem fn_l_eqWin : Fn Tryz.prog 196 .plain F_l_eqWin := fn_of (cfgOk_of mixed tys_ok (show FnsOk Tryz.prog C_l_eqWin from ⟨fn_l_eqIntS, trivial⟩)) Tryz.func196 (by kernel_rfl) (by kernel_rfl) (fun cx b hp hb => all_of (by kernel_rfl : loopsOf (Tryz.f196.body.getD .skip) = []) trivial b hb) (R := (Bool × Unit)) (T := fun (d : aden P_l_eqWin) => T_l_eqWin d.1 d.2.1) e_l_eqWin
def P_l_eqEp : List (Bool × List Sh) := [(true, h_5), (true, h_5)]
def O_l_eqEp (r : (Bool × Unit)) : List RV × List RV := ([rv (false, [.bool]) r], [])
def C_l_eqEp : Fns := [(27, .plain, F_l_eqByteS), (196, .plain, F_l_eqWin)]
def F_l_eqEp : Fun1 := funV P_l_eqEp (fun d => (T_l_eqEp d.1 d.2.1).val) O_l_eqEp
def Q_l_eqEp : Loops := fun _ _ => .fail
theorem e_l_eqEp : ∀ d, pcall ⟨lookT tys, ctrOf C_l_eqEp, kindOf C_l_eqEp, 3, 4⟩ 0 Q_l_eqEp Tryz.f139 .plain (mkA P_l_eqEp d) = (T_l_eqEp d.1 d.2.1).run fun r => some (O_l_eqEp r) := fun d => by kernel_rfl
theorem fn_l_eqEp : Fn Tryz.prog 139 .plain F_l_eqEp := fn_of (cfgOk_of mixed tys_ok (show FnsOk Tryz.prog C_l_eqEp from ⟨fn_l_eqByteS, fn_l_eqWin, trivial⟩)) Tryz.func139 (by kernel_rfl) (by kernel_rfl) (fun cx b hp hb => all_of (by kernel_rfl : loopsOf (Tryz.f139.body.getD .skip) = []) trivial b hb) (R := (Bool × Unit)) (T := fun (d : aden P_l_eqEp) => T_l_eqEp d.1 d.2.1) e_l_eqEp
def P_l_eqChan : List (Bool × List Sh) := [(true, h_10), (true, h_10)]
def O_l_eqChan (r : (Bool × Unit)) : List RV × List RV := ([rv (false, [.bool]) r], [])
def C_l_eqChan : Fns := [(27, .plain, F_l_eqByteS), (139, .plain, F_l_eqEp)]
def F_l_eqChan : Fun1 := funV P_l_eqChan (fun d => (T_l_eqChan d.1 d.2.1).val) O_l_eqChan
def Q_l_eqChan : Loops := fun _ _ => .fail
theorem e_l_eqChan : ∀ d, pcall ⟨lookT tys, ctrOf C_l_eqChan, kindOf C_l_eqChan, 3, 4⟩ 0 Q_l_eqChan Tryz.f69 .plain (mkA P_l_eqChan d) = (T_l_eqChan d.1 d.2.1).run fun r => some (O_l_eqChan r) := fun d => by kernel_rfl
theorem fn_l_eqChan : Fn Tryz.prog 69 .plain F_l_eqChan := fn_of (cfgOk_of mixed tys_ok (show FnsOk Tryz.prog C_l_eqChan from ⟨fn_l_eqByteS, fn_l_eqEp, trivial⟩)) Tryz.func69 (by kernel_rfl) (by kernel_rfl) (fun cx b hp hb => all_of (by kernel_rfl : loopsOf (Tryz.f69.body.getD .skip) = []) trivial b hb) (R := (Bool × Unit)) (T := fun (d : aden P_l_eqChan) => T_l_eqChan d.1 d.2.1) e_l_eqChan
def P_l_eqAddr : List (Bool × List Sh) := [(true, [.int .i64, .int .i64]), (true, [.int .i64, .int .i64])]
def O_l_eqAddr (r : (Bool × Unit)) : List RV × List RV := ([rv (false, [.bool]) r], [])
def C_l_eqAddr : Fns := []
def F_l_eqAddr : Fun1 := funV P_l_eqAddr (fun d => (T_l_eqAddr d.1 d.2.1).val) O_l_eqAddr
def Q_l_eqAddr : Loops := fun _ _ => .fail
theorem e_l_eqAddr : ∀ d, pcall ⟨lookT tys, ctrOf C_l_eqAddr, kindOf C_l_eqAddr, 3, 4⟩ 0 Q_l_eqAddr Tryz.f108 .plain (mkA P_l_eqAddr d) = (T_l_eqAddr d.1 d.2.1).run fun r => some (O_l_eqAddr r) := fun d => by kernel_rfl
theorem fn_l_eqAddr : Fn Tryz.prog 108 .plain F_l_eqAddr := fn_of (cfgOk_of mixed tys_ok (show FnsOk Tryz.prog C_l_eqAddr from trivial)) Tryz.func108 (by kernel_rfl) (by kernel_rfl) (fun cx b hp hb => all_of (by kernel_rfl : loopsOf (Tryz.f108.body.getD .skip) = []) trivial b hb) (R := (Bool × Unit)) (T := fun (d : aden P_l_eqAddr) => T_l_eqAddr d.1 d.2.1) e_l_eqAddr
def P_l_eqCand : List (Bool × List Sh) := [(true, h_4), (true, h_4)]
def O_l_eqCand (r : (Bool × Unit)) : List RV × List RV := ([rv (false, [.bool]) r], [])
def C_l_eqCand : Fns := [(108, .plain, F_l_eqAddr), (27, .plain, F_l_eqByteS)]
def F_l_eqCand : Fun1 := funV P_l_eqCand (fun d => (T_l_eqCand d.1 d.2.1).val) O_l_eqCand
def Q_l_eqCand : Loops := fun _ _ => .fail
theorem e_l_eqCand : ∀ d, pcall ⟨lookT tys, ctrOf C_l_eqCand, kindOf C_l_eqCand, 3, 4⟩ 0 Q_l_eqCand Tryz.f197 .plain (mkA P_l_eqCand d) = (T_l_eqCand d.1 d.2.1).run fun r => some (O_l_eqCand r) := fun d => by kernel_rfl
theorem fn_l_eqCand : Fn Tryz.prog 197 .plain F_l_eqCand := fn_of (cfgOk_of mixed tys_ok (show FnsOk Tryz.prog C_l_eqCand from ⟨fn_l_eqAddr, fn_l_eqByteS, trivial⟩)) Tryz.func197 (by kernel_rfl) (by kernel_rfl) (fun cx b hp hb => all_of (by kernel_rfl : loopsOf (Tryz.f197.body.getD .skip) = []) trivial b hb) (R := (Bool × Unit)) (T := fun (d : aden P_l_eqCand) => T_l_eqCand d.1 d.2.1) e_l_eqCand
def P_l_eqCandS : List (Bool × List Sh) := [(false, [.sl 198 h_4]), (false, [.sl 198 h_4])]
def O_l_eqCandS (r : (Bool × Unit)) : List RV × List RV := ([rv (false, [.bool]) r], [])
def C_l_eqCandS : Fns := [(197, .plain, F_l_eqCand)]
def F_l_eqCandS : Fun1 := funV P_l_eqCandS (fun d => (T_l_eqCandS d.1 d.2.1).val) O_l_eqCandS
def K_l_eqCandS_4 : Sk := ⟨[(0, .v false [(.sl 198 h_4, .ro)]), (1, .v false [(.sl 198 h_4, .ro)]), (5, .v false [(.int .i64, .nil)])], [], []⟩
def X_l_eqCandS_4 : List (Ex × Sk) := [(.ret, ⟨[(4, .v false [(.bool, .nil)])], [], []⟩), ((.exit 0), ⟨[], [], []⟩)]
def Q_l_eqCandS : Loops := fun i st => cond (Nat.beq i 4) (lam K_l_eqCandS_4 5000000 X_l_eqCandS_4 B_l_eqCandS_4 st) <| .fail
theorem lp_l_eqCandS_4 : ∀ d, bod ⟨lookT tys, ctrOf C_l_eqCandS, kindOf C_l_eqCandS, 3, 4⟩ 0 Tryz.f140.ntmps Q_l_eqCandS (nthLoop Tryz.f140 0) K_l_eqCandS_4 5000000 X_l_eqCandS_4 d = B_l_eqCandS_4 d := fun d => by kernel_rfl
theorem lo_l_eqCandS_4 (cx : Cx) (hp : cx.pin.length ≤ 0) : LoopOk Tryz.prog cx Tryz.f140.ntmps Q_l_eqCandS (nthLoop Tryz.f140 0) := loop_of (cfgOk_of mixed tys_ok (show FnsOk Tryz.prog C_l_eqCandS from ⟨fn_l_eqCand, trivial⟩)) hp (all_of (by kernel_rfl : loopsOf (nthLoop Tryz.f140 0) = []) trivial) (by kernel_rfl) lp_l_eqCandS_4
theorem e_l_eqCandS : ∀ d, pcall ⟨lookT tys, ctrOf C_l_eqCandS, kindOf C_l_eqCandS, 3, 4⟩ 0 Q_l_eqCandS Tryz.f140 .plain (mkA P_l_eqCandS d) = (T_l_eqCandS d.1 d.2.1).run fun r => some (O_l_eqCandS r) := fun d => by kernel_rfl
theorem fn_l_eqCandS : Fn Tryz.prog 140 .plain F_l_eqCandS := fn_of (cfgOk_of mixed tys_ok (show FnsOk Tryz.prog C_l_eqCandS from ⟨fn_l_eqCand, trivial⟩)) Tryz.func140 (by kernel_rfl) (by kernel_rfl) (fun cx b hp hb => all_of (by kernel_rfl : loopsOf (Tryz.f140.body.getD .skip) = [nthLoop Tryz.f140 0]) ⟨lo_l_eqCandS_4 cx hp, trivial⟩ b hb) (R := (Bool × Unit)) (T := fun (d : aden P_l_eqCandS) => T_l_eqCandS d.1 d.2.1) e_l_eqCandS
def P_l_eqPaths : List (Bool × List Sh) := [(true, h_7), (true, h_7)]
def O_l_eqPaths (r : (Bool × Unit)) : List RV × List RV := ([rv (false, [.bool]) r], [])
def C_l_eqPaths : Fns := [(108, .plain, F_l_eqAddr), (140, .plain, F_l_eqCandS)]
def F_l_eqPaths : Fun1 := funV P_l_eqPaths (fun d => (T_l_eqPaths d.1 d.2.1).val) O_l_eqPaths
def Q_l_eqPaths : Loops := fun _ _ => .fail
theorem e_l_eqPaths : ∀ d, pcall ⟨lookT tys, ctrOf C_l_eqPaths, kindOf C_l_eqPaths, 3, 4⟩ 0 Q_l_eqPaths Tryz.f70 .plain (mkA P_l_eqPaths d) = (T_l_eqPaths d.1 d.2.1).run fun r => some (O_l_eqPaths r) := fun d => by kernel_rfl
theorem fn_l_eqPaths : Fn Tryz.prog 70 .plain F_l_eqPaths := fn_of (cfgOk_of mixed tys_ok (show FnsOk Tryz.prog C_l_eqPaths from ⟨fn_l_eqAddr, fn_l_eqCandS, trivial⟩)) Tryz.func70 (by kernel_rfl) (by kernel_rfl) (fun cx b hp hb => all_of (by kernel_rfl : loopsOf (Tryz.f70.body.getD .skip) = []) trivial b hb) (R := (Bool × Unit)) (T := fun (d : aden P_l_eqPaths) => T_l_eqPaths d.1 d.2.1) e_l_eqPaths
def P_l_eqSess : List (Bool × List Sh) := [(true, h_12), (true, h_12)]
def O_l_eqSess (r : (Bool × Unit)) : List RV × List RV := ([rv (false, [.bool]) r], [])
def C_l_eqSess : Fns := [(27, .plain, F_l_eqByteS), (69, .plain, F_l_eqChan), (70, .plain, F_l_eqPaths)]
def F_l_eqSess : Fun1 := funV P_l_eqSess (fun d => (T_l_eqSess d.1 d.2.1).val) O_l_eqSess
def Q_l_eqSess : Loops := fun _ _ => .fail
theorem e_l_eqSess : ∀ d, pcall ⟨lookT tys, ctrOf C_l_eqSess, kindOf C_l_eqSess, 3, 4⟩ 0 Q_l_eqSess Tryz.f15 .plain (mkA P_l_eqSess d) = (T_l_eqSess d.1 d.2.1).run fun r => some (O_l_eqSess r) := fun d => by kernel_rfl
theorem fn_l_eqSess : Fn Tryz.prog 15 .plain F_l_eqSess := fn_of (cfgOk_of mixed tys_ok (show FnsOk Tryz.prog C_l_eqSess from ⟨fn_l_eqByteS, fn_l_eqChan, fn_l_eqPaths, trivial⟩)) Tryz.func15 (by kernel_rfl) (by kernel_rfl) (fun cx b hp hb => all_of (by kernel_rfl : loopsOf (Tryz.f15.body.getD .skip) = []) trivial b hb) (R := (Bool × Unit)) (T := fun (d : aden P_l_eqSess) => T_l_eqSess d.1 d.2.1) e_l_eqSess
def P_l_eqSessS : List (Bool × List Sh) := [(false, [.sl 58 h_12]), (false, [.sl 58 h_12])]
def O_l_eqSessS (r : (Bool × Unit)) : List RV × List RV := ([rv (false, [.bool]) r], [])
def C_l_eqSessS : Fns := [(15, .plain, F_l_eqSess)]
def F_l_eqSessS : Fun1 := funV P_l_eqSessS (fun d => (T_l_eqSessS d.1 d.2.1).val) O_l_eqSessS
def K_l_eqSessS_4 : Sk := ⟨[(0, .v false [(.sl 58 h_12, .ro)]), (1, .v false [(.sl 58 h_12, .ro)]), (5, .v false [(.int .i64, .nil)])], [], []⟩
def X_l_eqSessS_4 : List (Ex × Sk) := [(.ret, ⟨[(4, .v false [(.bool, .nil)])], [], []⟩), ((.exit 0), ⟨[], [], []⟩)]
def Q_l_eqSessS : Loops := fun i st => cond (Nat.beq i 4) (lam K_l_eqSessS_4 5000000 X_l_eqSessS_4 B_l_eqSessS_4 st) <| .fail
theorem lp_l_eqSessS_4 : ∀ d, bod ⟨lookT tys, ctrOf C_l_eqSessS, kindOf C_l_eqSessS, 3, 4⟩ 0 Tryz.f68.ntmps Q_l_eqSessS (nthLoop Tryz.f68 0) K_l_eqSessS_4 5000000 X_l_eqSessS_4 d = B_l_eqSessS_4 d := fun d => by kernel_rfl
theorem lo_l_eqSessS_4 (cx : Cx) (hp : cx.pin.length ≤ 0) : LoopOk Tryz.prog cx Tryz.f68.ntmps Q_l_eqSessS (nthLoop Tryz.f68 0) := loop_of (cfgOk_of mixed tys_ok (show FnsOk Tryz.prog C_l_eqSessS from ⟨fn_l_eqSess, trivial⟩)) hp (all_of (by kernel_rfl : loopsOf (nthLoop Tryz.f68 0) = []) trivial) (by kernel_rfl) lp_l_eqSessS_4
theorem e_l_eqSessS : ∀ d, pcall ⟨lookT tys, ctrOf C_l_eqSessS, kindOf C_l_eqSessS, 3, 4⟩ 0 Q_l_eqSessS Tryz.f68 .plain (mkA P_l_eqSessS d) = (T_l_eqSessS d.1 d.2.1).run fun r => some (O_l_eqSessS r) := fun d => by kernel_rfl
theorem fn_l_eqSessS : Fn Tryz.prog 68 .plain F_l_eqSessS := fn_of (cfgOk_of mixed tys_ok (show FnsOk Tryz.prog C_l_eqSessS from ⟨fn_l_eqSess, trivial⟩)) Tryz.func68 (by kernel_rfl) (by kernel_rfl) (fun cx b hp hb => all_of (by kernel_rfl : loopsOf (Tryz.f68.body.getD .skip) = [nthLoop Tryz.f68 0]) ⟨lo_l_eqSessS_4 cx hp, trivial⟩ b hb) (R := (Bool × Unit)) (T := fun (d : aden P_l_eqSessS) => T_l_eqSessS d.1 d.2.1) e_l_eqSessS
def P_l_eqTab : List (Bool × List Sh) := [(true, [.int .i64, .sl 58 h_12]), (true, [.int .i64, .sl 58 h_12])]
def O_l_eqTab (r : (Bool × Unit)) : List RV × List RV := ([rv (false, [.bool]) r], [])
def C_l_eqTab : Fns := [(68, .plain, F_l_eqSessS)]
def F_l_eqTab : Fun1 := funV P_l_eqTab (fun d => (T_l_eqTab d.1 d.2.1).val) O_l_eqTab
def Q_l_eqTab : Loops := fun _ _ => .fail
theorem e_l_eqTab : ∀ d, pcall ⟨lookT tys, ctrOf C_l_eqTab, kindOf C_l_eqTab, 3, 4⟩ 0 Q_l_eqTab Tryz.f14 .plain (mkA P_l_eqTab d) = (T_l_eqTab d.1 d.2.1).run fun r => some (O_l_eqTab r) := fun d => by kernel_rfl
theorem fn_l_eqTab : Fn Tryz.prog 14 .plain F_l_eqTab := fn_of (cfgOk_of mixed tys_ok (show FnsOk Tryz.prog C_l_eqTab from ⟨fn_l_eqSessS, trivial⟩)) Tryz.func14 (by kernel_rfl) (by kernel_rfl) (fun cx b hp hb => all_of (by kernel_rfl : loopsOf (Tryz.f14.body.getD .skip) = []) trivial b hb) (R := (Bool × Unit)) (T := fun (d : aden P_l_eqTab) => T_l_eqTab d.1 d.2.1) e_l_eqTab
def P_l_eqCredit : List (Bool × List Sh) := [(true, h_2), (true, h_2)]
def O_l_eqCredit (r : (Bool × Unit)) : List RV × List RV := ([rv (false, [.bool]) r], [])
def C_l_eqCredit : Fns := [(108, .plain, F_l_eqAddr)]
def F_l_eqCredit : Fun1 := funV P_l_eqCredit (fun d => (T_l_eqCredit d.1 d.2.1).val) O_l_eqCredit
def Q_l_eqCredit : Loops := fun _ _ => .fail
theorem e_l_eqCredit : ∀ d, pcall ⟨lookT tys, ctrOf C_l_eqCredit, kindOf C_l_eqCredit, 3, 4⟩ 0 Q_l_eqCredit Tryz.f187 .plain (mkA P_l_eqCredit d) = (T_l_eqCredit d.1 d.2.1).run fun r => some (O_l_eqCredit r) := fun d => by kernel_rfl
theorem fn_l_eqCredit : Fn Tryz.prog 187 .plain F_l_eqCredit := fn_of (cfgOk_of mixed tys_ok (show FnsOk Tryz.prog C_l_eqCredit from ⟨fn_l_eqAddr, trivial⟩)) Tryz.func187 (by kernel_rfl) (by kernel_rfl) (fun cx b hp hb => all_of (by kernel_rfl : loopsOf (Tryz.f187.body.getD .skip) = []) trivial b hb) (R := (Bool × Unit)) (T := fun (d : aden P_l_eqCredit) => T_l_eqCredit d.1 d.2.1) e_l_eqCredit
def P_l_eqCreditS : List (Bool × List Sh) := [(false, [.sl 190 h_2]), (false, [.sl 190 h_2])]
def O_l_eqCreditS (r : (Bool × Unit)) : List RV × List RV := ([rv (false, [.bool]) r], [])
def C_l_eqCreditS : Fns := [(187, .plain, F_l_eqCredit)]
def F_l_eqCreditS : Fun1 := funV P_l_eqCreditS (fun d => (T_l_eqCreditS d.1 d.2.1).val) O_l_eqCreditS
def K_l_eqCreditS_4 : Sk := ⟨[(0, .v false [(.sl 190 h_2, .ro)]), (1, .v false [(.sl 190 h_2, .ro)]), (5, .v false [(.int .i64, .nil)])], [], []⟩
def X_l_eqCreditS_4 : List (Ex × Sk) := [(.ret, ⟨[(4, .v false [(.bool, .nil)])], [], []⟩), ((.exit 0), ⟨[], [], []⟩)]
def Q_l_eqCreditS : Loops := fun i st => cond (Nat.beq i 4) (lam K_l_eqCreditS_4 5000000 X_l_eqCreditS_4 B_l_eqCreditS_4 st) <| .fail
theorem lp_l_eqCreditS_4 : ∀ d, bod ⟨lookT tys, ctrOf C_l_eqCreditS, kindOf C_l_eqCreditS, 3, 4⟩ 0 Tryz.f123.ntmps Q_l_eqCreditS (nthLoop Tryz.f123 0) K_l_eqCreditS_4 5000000 X_l_eqCreditS_4 d = B_l_eqCreditS_4 d := fun d => by kernel_rfl
theorem lo_l_eqCreditS_4 (cx : Cx) (hp : cx.pin.length ≤ 0) : LoopOk Tryz.prog cx Tryz.f123.ntmps Q_l_eqCreditS (nthLoop Tryz.f123 0) := loop_of (cfgOk_of mixed tys_ok (show FnsOk Tryz.prog C_l_eqCreditS from ⟨fn_l_eqCredit, trivial⟩)) hp (all_of (by kernel_rfl : loopsOf (nthLoop Tryz.f123 0) = []) trivial) (by kernel_rfl) lp_l_eqCreditS_4
theorem e_l_eqCreditS : ∀ d, pcall ⟨lookT tys, ctrOf C_l_eqCreditS, kindOf C_l_eqCreditS, 3, 4⟩ 0 Q_l_eqCreditS Tryz.f123 .plain (mkA P_l_eqCreditS d) = (T_l_eqCreditS d.1 d.2.1).run fun r => some (O_l_eqCreditS r) := fun d => by kernel_rfl
theorem fn_l_eqCreditS : Fn Tryz.prog 123 .plain F_l_eqCreditS := fn_of (cfgOk_of mixed tys_ok (show FnsOk Tryz.prog C_l_eqCreditS from ⟨fn_l_eqCredit, trivial⟩)) Tryz.func123 (by kernel_rfl) (by kernel_rfl) (fun cx b hp hb => all_of (by kernel_rfl : loopsOf (Tryz.f123.body.getD .skip) = [nthLoop Tryz.f123 0]) ⟨lo_l_eqCreditS_4 cx hp, trivial⟩ b hb) (R := (Bool × Unit)) (T := fun (d : aden P_l_eqCreditS) => T_l_eqCreditS d.1 d.2.1) e_l_eqCreditS
def P_l_eqServer : List (Bool × List Sh) := [(true, h_13), (true, h_13)]
def O_l_eqServer (r : (Bool × Unit)) : List RV × List RV := ([rv (false, [.bool]) r], [])
def C_l_eqServer : Fns := [(50, .plain, F_l_eqByteSS), (121, .plain, F_l_eqJar), (122, .plain, F_l_eqDice), (14, .plain, F_l_eqTab), (123, .plain, F_l_eqCreditS)]
def F_l_eqServer : Fun1 := funV P_l_eqServer (fun d => (T_l_eqServer d.1 d.2.1).val) O_l_eqServer
def Q_l_eqServer : Loops := fun _ _ => .fail
theorem e_l_eqServer : ∀ d, pcall ⟨lookT tys, ctrOf C_l_eqServer, kindOf C_l_eqServer, 3, 4⟩ 0 Q_l_eqServer Tryz.f49 .plain (mkA P_l_eqServer d) = (T_l_eqServer d.1 d.2.1).run fun r => some (O_l_eqServer r) := fun d => by kernel_rfl
theorem fn_l_eqServer : Fn Tryz.prog 49 .plain F_l_eqServer := fn_of (cfgOk_of mixed tys_ok (show FnsOk Tryz.prog C_l_eqServer from ⟨fn_l_eqByteSS, fn_l_eqJar, fn_l_eqDice, fn_l_eqTab, fn_l_eqCreditS, trivial⟩)) Tryz.func49 (by kernel_rfl) (by kernel_rfl) (fun cx b hp hb => all_of (by kernel_rfl : loopsOf (Tryz.f49.body.getD .skip) = []) trivial b hb) (R := (Bool × Unit)) (T := fun (d : aden P_l_eqServer) => T_l_eqServer d.1 d.2.1) e_l_eqServer
def P_l_markByteS : List (Bool × List Sh) := [(false, [.sl 5 [.int .u8]]), (false, [.int .i64])]
def O_l_markByteS (r : (YI) × (YBs)) : List RV × List RV := ([rv (false, [.int .i64]) r.1], [rv (false, [.sl 5 [.int .u8]]) r.2])
def C_l_markByteS : Fns := []
def F_l_markByteS : Fun1 := funV P_l_markByteS (fun d => (T_l_markByteS d.1 d.2.1).val) O_l_markByteS
def K_l_markByteS_2 : Sk := ⟨[(0, .v false [(.sl 5 [.int .u8], (.own 3000000))]), (1, .v false [(.int .i64, .nil)]), (5, .v false [(.int .i64, .nil)])], [], [3000000]⟩
def X_l_markByteS_2 : List (Ex × Sk) := [((.exit 0), ⟨[(0, .v false [(.sl 5 [.int .u8], (.own 3000000))]), (1, .v false [(.int .i64, .nil)])], [], [3000000]⟩)]
def Q_l_markByteS : Loops := fun i st => cond (Nat.beq i 2) (lam K_l_markByteS_2 3000000 X_l_markByteS_2 B_l_markByteS_2 st) <| .fail
theorem lp_l_markByteS_2 : ∀ d, bod ⟨lookT tys, ctrOf C_l_markByteS, kindOf C_l_markByteS, 3, 4⟩ 1 Tryz.f29.ntmps Q_l_markByteS (nthLoop Tryz.f29 0) K_l_markByteS_2 3000000 X_l_markByteS_2 d = B_l_markByteS_2 d := fun d => by kernel_rfl
theorem lo_l_markByteS_2 (cx : Cx) (hp : cx.pin.length ≤ 1) : LoopOk Tryz.prog cx Tryz.f29.ntmps Q_l_markByteS (nthLoop Tryz.f29 0) := loop_of (cfgOk_of mixed tys_ok (show FnsOk Tryz.prog C_l_markByteS from trivial)) hp (all_of (by kernel_rfl : loopsOf (nthLoop Tryz.f29 0) = []) trivial) (by kernel_rfl) lp_l_markByteS_2
theorem e_l_markByteS : ∀ d, pcall ⟨lookT tys, ctrOf C_l_markByteS, kindOf C_l_markByteS, 3, 4⟩ 1 Q_l_markByteS Tryz.f29 (.lend [1]) (mkA P_l_markByteS d) = (T_l_markByteS d.1 d.2.1).run fun r => some (O_l_markByteS r) := fun d => by kernel_rfl
theorem fn_l_markByteS : Fn Tryz.prog 29 (.lend [1]) F_l_markByteS := fn_of (cfgOk_of mixed tys_ok (show FnsOk Tryz.prog C_l_markByteS from trivial)) Tryz.func29 (by kernel_rfl) (by kernel_rfl) (fun cx b hp hb => all_of (by kernel_rfl : loopsOf (Tryz.f29.body.getD .skip) = [nthLoop Tryz.f29 0]) ⟨lo_l_markByteS_2 cx hp, trivial⟩ b hb) (R := (YI) × (YBs)) (T := fun (d : aden P_l_markByteS) => T_l_markByteS d.1 d.2.1) e_l_markByteS
def P_l_markByteSS : List (Bool × List Sh) := [(false, [.sl 25 [.sl 5 [.int .u8]]]), (false, [.int .i64])]
def O_l_markByteSS (r : (YI) × ((List YBs) × Unit)) : List RV × List RV := ([rv (false, [.int .i64]) r.1], [rv (false, [.sl 25 [.sl 5 [.int .u8]]]) r.2])
def C_l_markByteSS : Fns := [(29, (.lend [1]), F_l_markByteS)]
def F_l_markByteSS : Fun1 := funV P_l_markByteSS (fun d => (T_l_markByteSS d.1 d.2.1).val) O_l_markByteSS
def K_l_markByteSS_2 : Sk := ⟨[(0, .v false [(.sl 25 [.sl 5 [.int .u8]], (.own 3000000))]), (1, .v false [(.int .i64, .nil)]), (5, .v false [(.int .i64, .nil)])], [], [3000000]⟩
def X_l_markByteSS_2 : List (Ex × Sk) := [((.exit 0), ⟨[(0, .v false [(.sl 25 [.sl 5 [.int .u8]], (.own 3000000))]), (1, .v false [(.int .i64, .nil)])], [], [3000000]⟩)]
def Q_l_markByteSS : Loops := fun i st => cond (Nat.beq i 2) (lam K_l_markByteSS_2 3000000 X_l_markByteSS_2 B_l_markByteSS_2 st) <| .fail
theorem lp_l_markByteSS_2 : ∀ d, bod ⟨lookT tys, ctrOf C_l_markByteSS, kindOf C_l_markByteSS, 3, 4⟩ 1 Tryz.f51.ntmps Q_l_markByteSS (nthLoop Tryz.f51 0) K_l_markByteSS_2 3000000 X_l_markByteSS_2 d = B_l_markByteSS_2 d := fun d => by kernel_rfl
theorem lo_l_markByteSS_2 (cx : Cx) (hp : cx.pin.length ≤ 1) : LoopOk Tryz.prog cx Tryz.f51.ntmps Q_l_markByteSS (nthLoop Tryz.f51 0) := loop_of (cfgOk_of mixed tys_ok (show FnsOk Tryz.prog C_l_markByteSS from ⟨fn_l_markByteS, trivial⟩)) hp (all_of (by kernel_rfl : loopsOf (nthLoop Tryz.f51 0) = []) trivial) (by kernel_rfl) lp_l_markByteSS_2
theorem e_l_markByteSS : ∀ d, pcall ⟨lookT tys, ctrOf C_l_markByteSS, kindOf C_l_markByteSS, 3, 4⟩ 1 Q_l_markByteSS Tryz.f51 (.lend [1]) (mkA P_l_markByteSS d) = (T_l_markByteSS d.1 d.2.1).run fun r => some (O_l_markByteSS r) := fun d => by kernel_rfl
theorem fn_l_markByteSS : Fn Tryz.prog 51 (.lend [1]) F_l_markByteSS := fn_of (cfgOk_of mixed tys_ok (show FnsOk Tryz.prog C_l_markByteSS from ⟨fn_l_markByteS, trivial⟩)) Tryz.func51 (by kernel_rfl) (by kernel_rfl) (fun cx b hp hb => all_of (by kernel_rfl : loopsOf (Tryz.f51.body.getD .skip) = [nthLoop Tryz.f51 0]) ⟨lo_l_markByteSS_2 cx hp, trivial⟩ b hb) (R := (YI) × ((List YBs) × Unit)) (T := fun (d : aden P_l_markByteSS) => T_l_markByteSS d.1 d.2.1) e_l_markByteSS
def P_l_markJar : List (Bool × List Sh) := [(true, [.sl 5 [.int .u8]]), (false, [.int .i64])]
def O_l_markJar (r : (YI) × (YBs)) : List RV × List RV := ([rv (false, [.int .i64]) r.1], [rv (true, [.sl 5 [.int .u8]]) r.2])
def C_l_markJar : Fns := [(29, (.lend [1]), F_l_markByteS)]
def F_l_markJar : Fun1 := funV P_l_markJar (fun d => (T_l_markJar d.1 d.2.1).val) O_l_markJar
def Q_l_markJar : Loops := fun _ _ => .fail
theorem e_l_markJar : ∀ d, pcall ⟨lookT tys, ctrOf C_l_markJar, kindOf C_l_markJar, 3, 4⟩ 1 Q_l_markJar Tryz.f124 (.lend [1]) (mkA P_l_markJar d) = (T_l_markJar d.1 d.2.1).run fun r => some (O_l_markJar r) := fun d => by kernel_rfl
theorem fn_l_markJar : Fn Tryz.prog 124 (.lend [1]) F_l_markJar := fn_of (cfgOk_of mixed tys_ok (show FnsOk Tryz.prog C_l_markJar from ⟨fn_l_markByteS, trivial⟩)) Tryz.func124 (by kernel_rfl) (by kernel_rfl) (fun cx b hp hb => all_of (by kernel_rfl : loopsOf (Tryz.f124.body.getD .skip) = []) trivial b hb) (R := (YI) × (YBs)) (T := fun (d : aden P_l_markJar) => T_l_markJar d.1 d.2.1) e_l_markJar
def P_l_markDice : List (Bool × List Sh) := [(true, [.sl 5 [.int .u8], .int .i64]), (false, [.int .i64])]
def O_l_markDice (r : (YI) × (YDice)) : List RV × List RV := ([rv (false, [.int .i64]) r.1], [rv (true, [.sl 5 [.int .u8], .int .i64]) r.2])
def C_l_markDice : Fns := [(29, (.lend [1]), F_l_markByteS)]
def F_l_markDice : Fun1 := funV P_l_markDice (fun d => (T_l_markDice d.1 d.2.1).val) O_l_markDice
def Q_l_markDice : Loops := fun _ _ => .fail
theorem e_l_markDice : ∀ d, pcall ⟨lookT tys, ctrOf C_l_markDice, kindOf C_l_markDice, 3, 4⟩ 1 Q_l_markDice Tryz.f125 (.lend [1]) (mkA P_l_markDice d) = (T_l_markDice d.1 d.2.1).run fun r => some (O_l_markDice r) := fun d => by kernel_rfl
theorem fn_l_markDice : Fn Tryz.prog 125 (.lend [1]) F_l_markDice := fn_of (cfgOk_of mixed tys_ok (show FnsOk Tryz.prog C_l_markDice from ⟨fn_l_markByteS, trivial⟩)) Tryz.func125 (by kernel_rfl) (by kernel_rfl) (fun cx b hp hb => all_of (by kernel_rfl : loopsOf (Tryz.f125.body.getD .skip) = []) trivial b hb) (R := (YI) × (YDice)) (T := fun (d : aden P_l_markDice) => T_l_markDice d.1 d.2.1) e_l_markDice
def P_l_markIntS : List (Bool × List Sh) := [(false, [.sl 3 [.int .i64]]), (false, [.int .i64])]
def O_l_markIntS (r : (YI) × ((List YI) × Unit)) : List RV × List RV := ([rv (false, [.int .i64]) r.1], [rv (false, [.sl 3 [.int .i64]]) r.2])
def C_l_markIntS : Fns := []
def F_l_markIntS : Fun1 := funV P_l_markIntS (fun d => (T_l_markIntS d.1 d.2.1).val) O_l_markIntS
def K_l_markIntS_2 : Sk := ⟨[(0, .v false [(.sl 3 [.int .i64], (.own 3000000))]), (1, .v false [(.int .i64, .nil)]), (5, .v false [(.int .i64, .nil)])], [], [3000000]⟩
def X_l_markIntS_2 : List (Ex × Sk) := [((.exit 0), ⟨[(0, .v false [(.sl 3 [.int .i64], (.own 3000000))]), (1, .v false [(.int .i64, .nil)])], [], [3000000]⟩)]
def Q_l_markIntS : Loops := fun i st => cond (Nat.beq i 2) (lam K_l_markIntS_2 3000000 X_l_markIntS_2 B_l_markIntS_2 st) <| .fail
theorem lp_l_markIntS_2 : ∀ d, bod ⟨lookT tys, ctrOf C_l_markIntS, kindOf C_l_markIntS, 3, 4⟩ 1 Tryz.f141.ntmps Q_l_markIntS (nthLoop Tryz.f141 0) K_l_markIntS_2 3000000 X_l_markIntS_2 d = B_l_markIntS_2 d := fun d => by kernel_rfl
theorem lo_l_markIntS_2 (cx : Cx) (hp : cx.pin.length ≤ 1) : LoopOk Tryz.prog cx Tryz.f141.ntmps Q_l_markIntS (nthLoop Tryz.f141 0) := loop_of (cfgOk_of mixed tys_ok (show FnsOk Tryz.prog C_l_markIntS from trivial)) hp (all_of (by kernel_rfl : loopsOf (nthLoop Tryz.f141 0) = []) trivial) (by kernel_rfl) lp_l_markIntS_2
theorem e_l_markIntS : ∀ d, pcall ⟨lookT tys, ctrOf C_l_markIntS, kindOf C_l_markIntS, 3, 4⟩ 1 Q_l_markIntS Tryz.f141 (.lend [1]) (mkA P_l_markIntS d) = (T_l_markIntS d.1 d.2.1).run fun r => some (O_l_markIntS r) := fun d => by kernel_rfl
theorem fn_l_markIntS : Fn Tryz.prog 141 (.lend [1]) F_l_markIntS := fn_of (cfgOk_of mixed tys_ok (show FnsOk Tryz.prog C_l_markIntS from trivial)) Tryz.func141 (by kernel_rfl) (by kernel_rfl) (fun cx b hp hb => all_of (by kernel_rfl : loopsOf (Tryz.f141.body.getD .skip) = [nthLoop Tryz.f141 0]) ⟨lo_l_markIntS_2 cx hp, trivial⟩ b hb) (R := (YI) × ((List YI) × Unit)) (T := fun (d : aden P_l_markIntS) => T_l_markIntS d.1 d.2.1) e_l_markIntS
def P_l_markCandS : List (Bool × List Sh) := [(false, [.sl 198 h_4]), (false, [.int .i64])]
def O_l_markCandS (r : (YI) × ((List YCand) × Unit)) : List RV × List RV := ([rv (false, [.int .i64]) r.1], [rv (false, [.sl 198 h_4]) r.2])
def C_l_markCandS : Fns := [(29, (.lend [1]), F_l_markByteS)]
def F_l_markCandS : Fun1 := funV P_l_markCandS (fun d => (T_l_markCandS d.1 d.2.1).val) O_l_markCandS
def K_l_markCandS_2 : Sk := ⟨[(0, .v false [(.sl 198 h_4, (.own 3000000))]), (1, .v false [(.int .i64, .nil)]), (5, .v false [(.int .i64, .nil)])], [], [3000000]⟩
def X_l_markCandS_2 : List (Ex × Sk) := [((.exit 0), ⟨[(0, .v false [(.sl 198 h_4, (.own 3000000))]), (1, .v false [(.int .i64, .nil)])], [], [3000000]⟩)]
def Q_l_markCandS : Loops := fun i st => cond (Nat.beq i 2) (lam K_l_markCandS_2 3000000 X_l_markCandS_2 B_l_markCandS_2 st) <| .fail
theorem lp_l_markCandS_2 : ∀ d, bod ⟨lookT tys, ctrOf C_l_markCandS, kindOf C_l_markCandS, 3, 4⟩ 1 Tryz.f142.ntmps Q_l_markCandS (nthLoop Tryz.f142 0) K_l_markCandS_2 3000000 X_l_markCandS_2 d = B_l_markCandS_2 d := fun d => by kernel_rfl
theorem lo_l_markCandS_2 (cx : Cx) (hp : cx.pin.length ≤ 1) : LoopOk Tryz.prog cx Tryz.f142.ntmps Q_l_markCandS (nthLoop Tryz.f142 0) := loop_of (cfgOk_of mixed tys_ok (show FnsOk Tryz.prog C_l_markCandS from ⟨fn_l_markByteS, trivial⟩)) hp (all_of (by kernel_rfl : loopsOf (nthLoop Tryz.f142 0) = []) trivial) (by kernel_rfl) lp_l_markCandS_2
theorem e_l_markCandS : ∀ d, pcall ⟨lookT tys, ctrOf C_l_markCandS, kindOf C_l_markCandS, 3, 4⟩ 1 Q_l_markCandS Tryz.f142 (.lend [1]) (mkA P_l_markCandS d) = (T_l_markCandS d.1 d.2.1).run fun r => some (O_l_markCandS r) := fun d => by kernel_rfl
theorem fn_l_markCandS : Fn Tryz.prog 142 (.lend [1]) F_l_markCandS := fn_of (cfgOk_of mixed tys_ok (show FnsOk Tryz.prog C_l_markCandS from ⟨fn_l_markByteS, trivial⟩)) Tryz.func142 (by kernel_rfl) (by kernel_rfl) (fun cx b hp hb => all_of (by kernel_rfl : loopsOf (Tryz.f142.body.getD .skip) = [nthLoop Tryz.f142 0]) ⟨lo_l_markCandS_2 cx hp, trivial⟩ b hb) (R := (YI) × ((List YCand) × Unit)) (T := fun (d : aden P_l_markCandS) => T_l_markCandS d.1 d.2.1) e_l_markCandS
def P_l_markSessS : List (Bool × List Sh) := [(false, [.sl 58 h_12]), (false, [.int .i64])]
def O_l_markSessS (r : (YI) × ((List YSess) × Unit)) : List RV × List RV := ([rv (false, [.int .i64]) r.1], [rv (false, [.sl 58 h_12]) r.2])
def C_l_markSessS : Fns := [(29, (.lend [1]), F_l_markByteS), (141, (.lend [1]), F_l_markIntS), (142, (.lend [1]), F_l_markCandS)]
def F_l_markSessS : Fun1 := funV P_l_markSessS (fun d => (T_l_markSessS d.1 d.2.1).val) O_l_markSessS
def K_l_markSessS_2 : Sk := ⟨[(0, .v false [(.sl 58 h_12, (.own 3000000))]), (1, .v false [(.int .i64, .nil)]), (5, .v false [(.int .i64, .nil)])], [], [3000000]⟩
def X_l_markSessS_2 : List (Ex × Sk) := [((.exit 0), ⟨[(0, .v false [(.sl 58 h_12, (.own 3000000))]), (1, .v false [(.int .i64, .nil)])], [], [3000000]⟩)]
def Q_l_markSessS : Loops := fun i st => cond (Nat.beq i 2) (lam K_l_markSessS_2 3000000 X_l_markSessS_2 B_l_markSessS_2 st) <| .fail
theorem lp_l_markSessS_2 : ∀ d, bod ⟨lookT tys, ctrOf C_l_markSessS, kindOf C_l_markSessS, 3, 4⟩ 1 Tryz.f71.ntmps Q_l_markSessS (nthLoop Tryz.f71 0) K_l_markSessS_2 3000000 X_l_markSessS_2 d = B_l_markSessS_2 d := fun d => by kernel_rfl
theorem lo_l_markSessS_2 (cx : Cx) (hp : cx.pin.length ≤ 1) : LoopOk Tryz.prog cx Tryz.f71.ntmps Q_l_markSessS (nthLoop Tryz.f71 0) := loop_of (cfgOk_of mixed tys_ok (show FnsOk Tryz.prog C_l_markSessS from ⟨fn_l_markByteS, fn_l_markIntS, fn_l_markCandS, trivial⟩)) hp (all_of (by kernel_rfl : loopsOf (nthLoop Tryz.f71 0) = []) trivial) (by kernel_rfl) lp_l_markSessS_2
theorem e_l_markSessS : ∀ d, pcall ⟨lookT tys, ctrOf C_l_markSessS, kindOf C_l_markSessS, 3, 4⟩ 1 Q_l_markSessS Tryz.f71 (.lend [1]) (mkA P_l_markSessS d) = (T_l_markSessS d.1 d.2.1).run fun r => some (O_l_markSessS r) := fun d => by kernel_rfl
theorem fn_l_markSessS : Fn Tryz.prog 71 (.lend [1]) F_l_markSessS := fn_of (cfgOk_of mixed tys_ok (show FnsOk Tryz.prog C_l_markSessS from ⟨fn_l_markByteS, fn_l_markIntS, fn_l_markCandS, trivial⟩)) Tryz.func71 (by kernel_rfl) (by kernel_rfl) (fun cx b hp hb => all_of (by kernel_rfl : loopsOf (Tryz.f71.body.getD .skip) = [nthLoop Tryz.f71 0]) ⟨lo_l_markSessS_2 cx hp, trivial⟩ b hb) (R := (YI) × ((List YSess) × Unit)) (T := fun (d : aden P_l_markSessS) => T_l_markSessS d.1 d.2.1) e_l_markSessS
def P_l_markTab : List (Bool × List Sh) := [(true, [.int .i64, .sl 58 h_12]), (false, [.int .i64])]
def O_l_markTab (r : (YI) × (YTab)) : List RV × List RV := ([rv (false, [.int .i64]) r.1], [rv (true, [.int .i64, .sl 58 h_12]) r.2])
def C_l_markTab : Fns := [(71, (.lend [1]), F_l_markSessS)]
def F_l_markTab : Fun1 := funV P_l_markTab (fun d => (T_l_markTab d.1 d.2.1).val) O_l_markTab
def Q_l_markTab : Loops := fun _ _ => .fail
theorem e_l_markTab : ∀ d, pcall ⟨lookT tys, ctrOf C_l_markTab, kindOf C_l_markTab, 3, 4⟩ 1 Q_l_markTab Tryz.f16 (.lend [1]) (mkA P_l_markTab d) = (T_l_markTab d.1 d.2.1).run fun r => some (O_l_markTab r) := fun d => by kernel_rfl
theorem fn_l_markTab : Fn Tryz.prog 16 (.lend [1]) F_l_markTab := fn_of (cfgOk_of mixed tys_ok (show FnsOk Tryz.prog C_l_markTab from ⟨fn_l_markSessS, trivial⟩)) Tryz.func16 (by kernel_rfl) (by kernel_rfl) (fun cx b hp hb => all_of (by kernel_rfl : loopsOf (Tryz.f16.body.getD .skip) = []) trivial b hb) (R := (YI) × (YTab)) (T := fun (d : aden P_l_markTab) => T_l_markTab d.1 d.2.1) e_l_markTab
def P_l_markCreditS : List (Bool × List Sh) := [(false, [.sl 190 h_2]), (false, [.int .i64])]
def O_l_markCreditS (r : (YI) × ((List YCredit) × Unit)) : List RV × List RV := ([rv (false, [.int .i64]) r.1], [rv (false, [.sl 190 h_2]) r.2])
def C_l_markCreditS : Fns := []
def F_l_markCreditS : Fun1 := funV P_l_markCreditS (fun d => (T_l_markCreditS d.1 d.2.1).val) O_l_markCreditS
def K_l_markCreditS_2 : Sk := ⟨[(0, .v false [(.sl 190 h_2, (.own 3000000))]), (1, .v false [(.int .i64, .nil)]), (5, .v false [(.int .i64, .nil)])], [], [3000000]⟩
def X_l_markCreditS_2 : List (Ex × Sk) := [((.exit 0), ⟨[(0, .v false [(.sl 190 h_2, (.own 3000000))]), (1, .v false [(.int .i64, .nil)])], [], [3000000]⟩)]
def Q_l_markCreditS : Loops := fun i st => cond (Nat.beq i 2) (lam K_l_markCreditS_2 3000000 X_l_markCreditS_2 B_l_markCreditS_2 st) <| .fail
theorem lp_l_markCreditS_2 : ∀ d, bod ⟨lookT tys, ctrOf C_l_markCreditS, kindOf C_l_markCreditS, 3, 4⟩ 1 Tryz.f126.ntmps Q_l_markCreditS (nthLoop Tryz.f126 0) K_l_markCreditS_2 3000000 X_l_markCreditS_2 d = B_l_markCreditS_2 d := fun d => by kernel_rfl
theorem lo_l_markCreditS_2 (cx : Cx) (hp : cx.pin.length ≤ 1) : LoopOk Tryz.prog cx Tryz.f126.ntmps Q_l_markCreditS (nthLoop Tryz.f126 0) := loop_of (cfgOk_of mixed tys_ok (show FnsOk Tryz.prog C_l_markCreditS from trivial)) hp (all_of (by kernel_rfl : loopsOf (nthLoop Tryz.f126 0) = []) trivial) (by kernel_rfl) lp_l_markCreditS_2
theorem e_l_markCreditS : ∀ d, pcall ⟨lookT tys, ctrOf C_l_markCreditS, kindOf C_l_markCreditS, 3, 4⟩ 1 Q_l_markCreditS Tryz.f126 (.lend [1]) (mkA P_l_markCreditS d) = (T_l_markCreditS d.1 d.2.1).run fun r => some (O_l_markCreditS r) := fun d => by kernel_rfl
theorem fn_l_markCreditS : Fn Tryz.prog 126 (.lend [1]) F_l_markCreditS := fn_of (cfgOk_of mixed tys_ok (show FnsOk Tryz.prog C_l_markCreditS from trivial)) Tryz.func126 (by kernel_rfl) (by kernel_rfl) (fun cx b hp hb => all_of (by kernel_rfl : loopsOf (Tryz.f126.body.getD .skip) = [nthLoop Tryz.f126 0]) ⟨lo_l_markCreditS_2 cx hp, trivial⟩ b hb) (R := (YI) × ((List YCredit) × Unit)) (T := fun (d : aden P_l_markCreditS) => T_l_markCreditS d.1 d.2.1) e_l_markCreditS
def P_l_markServer : List (Bool × List Sh) := [(true, h_13), (false, [.int .i64])]
def O_l_markServer (r : (YI) × (YServer)) : List RV × List RV := ([rv (false, [.int .i64]) r.1], [rv (true, h_13) r.2])
def C_l_markServer : Fns := [(51, (.lend [1]), F_l_markByteSS), (124, (.lend [1]), F_l_markJar), (125, (.lend [1]), F_l_markDice), (16, (.lend [1]), F_l_markTab), (126, (.lend [1]), F_l_markCreditS)]
def F_l_markServer : Fun1 := funV P_l_markServer (fun d => (T_l_markServer d.1 d.2.1).val) O_l_markServer
def Q_l_markServer : Loops := fun _ _ => .fail
theorem e_l_markServer : ∀ d, pcall ⟨lookT tys, ctrOf C_l_markServer, kindOf C_l_markServer, 3, 4⟩ 1 Q_l_markServer Tryz.f52 (.lend [1]) (mkA P_l_markServer d) = (T_l_markServer d.1 d.2.1).run fun r => some (O_l_markServer r) := fun d => by kernel_rfl
theorem fn_l_markServer : Fn Tryz.prog 52 (.lend [1]) F_l_markServer := fn_of (cfgOk_of mixed tys_ok (show FnsOk Tryz.prog C_l_markServer from ⟨fn_l_markByteSS, fn_l_markJar, fn_l_markDice, fn_l_markTab, fn_l_markCreditS, trivial⟩)) Tryz.func52 (by kernel_rfl) (by kernel_rfl) (fun cx b hp hb => all_of (by kernel_rfl : loopsOf (Tryz.f52.body.getD .skip) = []) trivial b hb) (R := (YI) × (YServer)) (T := fun (d : aden P_l_markServer) => T_l_markServer d.1 d.2.1) e_l_markServer
def P_l_heldByteS : List (Bool × List Sh) := [(false, [.sl 5 [.int .u8]]), (false, [.int .i64])]
def O_l_heldByteS (r : (YI)) : List RV × List RV := ([rv (false, [.int .i64]) r], [])
def C_l_heldByteS : Fns := []
def F_l_heldByteS : Fun1 := funV P_l_heldByteS (fun d => (T_l_heldByteS d.1 d.2.1).val) O_l_heldByteS
def K_l_heldByteS_2 : Sk := ⟨[(0, .v false [(.sl 5 [.int .u8], .ro)]), (1, .v false [(.int .i64, .nil)]), (5, .v false [(.int .i64, .nil)])], [], []⟩
def X_l_heldByteS_2 : List (Ex × Sk) := [(.ret, ⟨[(4, .v false [(.int .i64, .nil)])], [], []⟩), ((.exit 0), ⟨[(1, .v false [(.int .i64, .nil)])], [], []⟩)]
def Q_l_heldByteS : Loops := fun i st => cond (Nat.beq i 2) (lam K_l_heldByteS_2 3000000 X_l_heldByteS_2 B_l_heldByteS_2 st) <| .fail
theorem lp_l_heldByteS_2 : ∀ d, bod ⟨lookT tys, ctrOf C_l_heldByteS, kindOf C_l_heldByteS, 3, 4⟩ 0 Tryz.f95.ntmps Q_l_heldByteS (nthLoop Tryz.f95 0) K_l_heldByteS_2 3000000 X_l_heldByteS_2 d = B_l_heldByteS_2 d := fun d => by kernel_rfl
theorem lo_l_heldByteS_2 (cx : Cx) (hp : cx.pin.length ≤ 0) : LoopOk Tryz.prog cx Tryz.f95.ntmps Q_l_heldByteS (nthLoop Tryz.f95 0) := loop_of (cfgOk_of mixed tys_ok (show FnsOk Tryz.prog C_l_heldByteS from trivial)) hp (all_of (by kernel_rfl : loopsOf (nthLoop Tryz.f95 0) = []) trivial) (by kernel_rfl) lp_l_heldByteS_2
theorem e_l_heldByteS : ∀ d, pcall ⟨lookT tys, ctrOf C_l_heldByteS, kindOf C_l_heldByteS, 3, 4⟩ 0 Q_l_heldByteS Tryz.f95 .plain (mkA P_l_heldByteS d) = (T_l_heldByteS d.1 d.2.1).run fun r => some (O_l_heldByteS r) := fun d => by kernel_rfl
theorem fn_l_heldByteS : Fn Tryz.prog 95 .plain F_l_heldByteS := fn_of (cfgOk_of mixed tys_ok (show FnsOk Tryz.prog C_l_heldByteS from trivial)) Tryz.func95 (by kernel_rfl) (by kernel_rfl) (fun cx b hp hb => all_of (by kernel_rfl : loopsOf (Tryz.f95.body.getD .skip) = [nthLoop Tryz.f95 0]) ⟨lo_l_heldByteS_2 cx hp, trivial⟩ b hb) (R := (YI)) (T := fun (d : aden P_l_heldByteS) => T_l_heldByteS d.1 d.2.1) e_l_heldByteS
def P_l_heldByteSS : List (Bool × List Sh) := [(false, [.sl 25 [.sl 5 [.int .u8]]]), (false, [.int .i64])]
def O_l_heldByteSS (r : (YI)) : List RV × List RV := ([rv (false, [.int .i64]) r], [])
def C_l_heldByteSS : Fns := [(95, .plain, F_l_heldByteS)]
def F_l_heldByteSS : Fun1 := funV P_l_heldByteSS (fun d => (T_l_heldByteSS d.1 d.2.1).val) O_l_heldByteSS
def K_l_heldByteSS_2 : Sk := ⟨[(0, .v false [(.sl 25 [.sl 5 [.int .u8]], .ro)]), (1, .v false [(.int .i64, .nil)]), (5, .v false [(.int .i64, .nil)])], [], []⟩
def X_l_heldByteSS_2 : List (Ex × Sk) := [(.ret, ⟨[(4, .v false [(.int .i64, .nil)])], [], []⟩), ((.exit 0), ⟨[(1, .v false [(.int .i64, .nil)])], [], []⟩)]
def Q_l_heldByteSS : Loops := fun i st => cond (Nat.beq i 2) (lam K_l_heldByteSS_2 3000000 X_l_heldByteSS_2 B_l_heldByteSS_2 st) <| .fail
theorem lp_l_heldByteSS_2 : ∀ d, bod ⟨lookT tys, ctrOf C_l_heldByteSS, kindOf C_l_heldByteSS, 3, 4⟩ 0 Tryz.f127.ntmps Q_l_heldByteSS (nthLoop Tryz.f127 0) K_l_heldByteSS_2 3000000 X_l_heldByteSS_2 d = B_l_heldByteSS_2 d := fun d => by kernel_rfl
theorem lo_l_heldByteSS_2 (cx : Cx) (hp : cx.pin.length ≤ 0) : LoopOk Tryz.prog cx Tryz.f127.ntmps Q_l_heldByteSS (nthLoop Tryz.f127 0) := loop_of (cfgOk_of mixed tys_ok (show FnsOk Tryz.prog C_l_heldByteSS from ⟨fn_l_heldByteS, trivial⟩)) hp (all_of (by kernel_rfl : loopsOf (nthLoop Tryz.f127 0) = []) trivial) (by kernel_rfl) lp_l_heldByteSS_2
theorem e_l_heldByteSS : ∀ d, pcall ⟨lookT tys, ctrOf C_l_heldByteSS, kindOf C_l_heldByteSS, 3, 4⟩ 0 Q_l_heldByteSS Tryz.f127 .plain (mkA P_l_heldByteSS d) = (T_l_heldByteSS d.1 d.2.1).run fun r => some (O_l_heldByteSS r) := fun d => by kernel_rfl
theorem fn_l_heldByteSS : Fn Tryz.prog 127 .plain F_l_heldByteSS := fn_of (cfgOk_of mixed tys_ok (show FnsOk Tryz.prog C_l_heldByteSS from ⟨fn_l_heldByteS, trivial⟩)) Tryz.func127 (by kernel_rfl) (by kernel_rfl) (fun cx b hp hb => all_of (by kernel_rfl : loopsOf (Tryz.f127.body.getD .skip) = [nthLoop Tryz.f127 0]) ⟨lo_l_heldByteSS_2 cx hp, trivial⟩ b hb) (R := (YI)) (T := fun (d : aden P_l_heldByteSS) => T_l_heldByteSS d.1 d.2.1) e_l_heldByteSS
def P_l_heldJar : List (Bool × List Sh) := [(true, [.sl 5 [.int .u8]]), (false, [.int .i64])]
def O_l_heldJar (r : (YI)) : List RV × List RV := ([rv (false, [.int .i64]) r], [])
def C_l_heldJar : Fns := [(95, .plain, F_l_heldByteS)]
def F_l_heldJar : Fun1 := funV P_l_heldJar (fun d => (T_l_heldJar d.1 d.2.1).val) O_l_heldJar
def Q_l_heldJar : Loops := fun _ _ => .fail
theorem e_l_heldJar : ∀ d, pcall ⟨lookT tys, ctrOf C_l_heldJar, kindOf C_l_heldJar, 3, 4⟩ 0 Q_l_heldJar Tryz.f128 .plain (mkA P_l_heldJar d) = (T_l_heldJar d.1 d.2.1).run fun r => some (O_l_heldJar r) := fun d => by kernel_rfl
theorem fn_l_heldJar : Fn Tryz.prog 128 .plain F_l_heldJar := fn_of (cfgOk_of mixed tys_ok (show FnsOk Tryz.prog C_l_heldJar from ⟨fn_l_heldByteS, trivial⟩)) Tryz.func128 (by kernel_rfl) (by kernel_rfl) (fun cx b hp hb => all_of (by kernel_rfl : loopsOf (Tryz.f128.body.getD .skip) = []) trivial b hb) (R := (YI)) (T := fun (d : aden P_l_heldJar) => T_l_heldJar d.1 d.2.1) e_l_heldJar
def P_l_heldDice : List (Bool × List Sh) := [(true, [.sl 5 [.int .u8], .int .i64]), (false, [.int .i64])]
def O_l_heldDice (r : (YI)) : List RV × List RV := ([rv (false, [.int .i64]) r], [])
def C_l_heldDice : Fns := [(95, .plain, F_l_heldByteS)]
def F_l_heldDice : Fun1 := funV P_l_heldDice (fun d => (T_l_heldDice d.1 d.2.1).val) O_l_heldDice
def Q_l_heldDice : Loops := fun _ _ => .fail
theorem e_l_heldDice : ∀ d, pcall ⟨lookT tys, ctrOf C_l_heldDice, kindOf C_l_heldDice, 3, 4⟩ 0 Q_l_heldDice Tryz.f129 .plain (mkA P_l_heldDice d) = (T_l_heldDice d.1 d.2.1).run fun r => some (O_l_heldDice r) := fun d => by kernel_rfl
theorem fn_l_heldDice : Fn Tryz.prog 129 .plain F_l_heldDice := fn_of (cfgOk_of mixed tys_ok (show FnsOk Tryz.prog C_l_heldDice from ⟨fn_l_heldByteS, trivial⟩)) Tryz.func129 (by kernel_rfl) (by kernel_rfl) (fun cx b hp hb => all_of (by kernel_rfl : loopsOf (Tryz.f129.body.getD .skip) = []) trivial b hb) (R := (YI)) (T := fun (d : aden P_l_heldDice) => T_l_heldDice d.1 d.2.1) e_l_heldDice
def P_l_heldIntS : List (Bool × List Sh) := [(false, [.sl 3 [.int .i64]]), (false, [.int .i64])]
def O_l_heldIntS (r : (YI)) : List RV × List RV := ([rv (false, [.int .i64]) r], [])
def C_l_heldIntS : Fns := []
def F_l_heldIntS : Fun1 := funV P_l_heldIntS (fun d => (T_l_heldIntS d.1 d.2.1).val) O_l_heldIntS
def K_l_heldIntS_2 : Sk := ⟨[(0, .v false [(.sl 3 [.int .i64], .ro)]), (1, .v false [(.int .i64, .nil)]), (5, .v false [(.int .i64, .nil)])], [], []⟩
def X_l_heldIntS_2 : List (Ex × Sk) := [(.ret, ⟨[(4, .v false [(.int .i64, .nil)])], [], []⟩), ((.exit 0), ⟨[(1, .v false [(.int .i64, .nil)])], [], []⟩)]
def Q_l_heldIntS : Loops := fun i st => cond (Nat.beq i 2) (lam K_l_heldIntS_2 3000000 X_l_heldIntS_2 B_l_heldIntS_2 st) <| .fail
theorem lp_l_heldIntS_2 : ∀ d, bod ⟨lookT tys, ctrOf C_l_heldIntS, kindOf C_l_heldIntS, 3, 4⟩ 0 Tryz.f144.ntmps Q_l_heldIntS (nthLoop Tryz.f144 0) K_l_heldIntS_2 3000000 X_l_heldIntS_2 d = B_l_heldIntS_2 d := fun d => by kernel_rfl
theorem lo_l_heldIntS_2 (cx : Cx) (hp : cx.pin.length ≤ 0) : LoopOk Tryz.prog cx Tryz.f144.ntmps Q_l_heldIntS (nthLoop Tryz.f144 0) := loop_of (cfgOk_of mixed tys_ok (show FnsOk Tryz.prog C_l_heldIntS from trivial)) hp (all_of (by kernel_rfl : loopsOf (nthLoop Tryz.f144 0) = []) trivial) (by kernel_rfl) lp_l_heldIntS_2
theorem e_l_heldIntS : ∀ d, pcall ⟨lookT tys, ctrOf C_l_heldIntS, kindOf C_l_heldIntS, 3, 4⟩ 0 Q_l_heldIntS Tryz.f144 .plain (mkA P_l_heldIntS d) = (T_l_heldIntS d.1 d.2.1).run fun r => some (O_l_heldIntS r) := fun d => by kernel_rfl
theorem fn_l_heldIntS : Fn Tryz.prog 144 .plain F_l_heldIntS := fn_of (cfgOk_of mixed tys_ok (show FnsOk Tryz.prog C_l_heldIntS from trivial)) Tryz.func144 (by kernel_rfl) (by kernel_rfl) (fun cx b hp hb => all_of (by kernel_rfl : loopsOf (Tryz.f144.body.getD .skip) = [nthLoop Tryz.f144 0]) ⟨lo_l_heldIntS_2 cx hp, trivial⟩ b hb) (R := (YI)) (T := fun (d : aden P_l_heldIntS) => T_l_heldIntS d.1 d.2.1) e_l_heldIntS
def P_l_heldCandS : List (Bool × List Sh) := [(false, [.sl 198 h_4]), (false, [.int .i64])]
def O_l_heldCandS (r : (YI)) : List RV × List RV := ([rv (false, [.int .i64]) r], [])
def C_l_heldCandS : Fns := [(95, .plain, F_l_heldByteS)]
def F_l_heldCandS : Fun1 := funV P_l_heldCandS (fun d => (T_l_heldCandS d.1 d.2.1).val) O_l_heldCandS
def K_l_heldCandS_2 : Sk := ⟨[(0, .v false [(.sl 198 h_4, .ro)]), (1, .v false [(.int .i64, .nil)]), (5, .v false [(.int .i64, .nil)])], [], []⟩
def X_l_heldCandS_2 : List (Ex × Sk) := [(.ret, ⟨[(4, .v false [(.int .i64, .nil)])], [], []⟩), ((.exit 0), ⟨[(1, .v false [(.int .i64, .nil)])], [], []⟩)]
def Q_l_heldCandS : Loops := fun i st => cond (Nat.beq i 2) (lam K_l_heldCandS_2 3000000 X_l_heldCandS_2 B_l_heldCandS_2 st) <| .fail
theorem lp_l_heldCandS_2 : ∀ d, bod ⟨lookT tys, ctrOf C_l_heldCandS, kindOf C_l_heldCandS, 3, 4⟩ 0 Tryz.f145.ntmps Q_l_heldCandS (nthLoop Tryz.f145 0) K_l_heldCandS_2 3000000 X_l_heldCandS_2 d = B_l_heldCandS_2 d := fun d => by kernel_rfl
theorem lo_l_heldCandS_2 (cx : Cx) (hp : cx.pin.length ≤ 0) : LoopOk Tryz.prog cx Tryz.f145.ntmps Q_l_heldCandS (nthLoop Tryz.f145 0) := loop_of (cfgOk_of mixed tys_ok (show FnsOk Tryz.prog C_l_heldCandS from ⟨fn_l_heldByteS, trivial⟩)) hp (all_of (by kernel_rfl : loopsOf (nthLoop Tryz.f145 0) = []) trivial) (by kernel_rfl) lp_l_heldCandS_2
theorem e_l_heldCandS : ∀ d, pcall ⟨lookT tys, ctrOf C_l_heldCandS, kindOf C_l_heldCandS, 3, 4⟩ 0 Q_l_heldCandS Tryz.f145 .plain (mkA P_l_heldCandS d) = (T_l_heldCandS d.1 d.2.1).run fun r => some (O_l_heldCandS r) := fun d => by kernel_rfl
theorem fn_l_heldCandS : Fn Tryz.prog 145 .plain F_l_heldCandS := fn_of (cfgOk_of mixed tys_ok (show FnsOk Tryz.prog C_l_heldCandS from ⟨fn_l_heldByteS, trivial⟩)) Tryz.func145 (by kernel_rfl) (by kernel_rfl) (fun cx b hp hb => all_of (by kernel_rfl : loopsOf (Tryz.f145.body.getD .skip) = [nthLoop Tryz.f145 0]) ⟨lo_l_heldCandS_2 cx hp, trivial⟩ b hb) (R := (YI)) (T := fun (d : aden P_l_heldCandS) => T_l_heldCandS d.1 d.2.1) e_l_heldCandS
def P_l_heldSessS : List (Bool × List Sh) := [(false, [.sl 58 h_12]), (false, [.int .i64])]
def O_l_heldSessS (r : (YI)) : List RV × List RV := ([rv (false, [.int .i64]) r], [])
def C_l_heldSessS : Fns := [(95, .plain, F_l_heldByteS), (144, .plain, F_l_heldIntS), (145, .plain, F_l_heldCandS)]
def F_l_heldSessS : Fun1 := funV P_l_heldSessS (fun d => (T_l_heldSessS d.1 d.2.1).val) O_l_heldSessS
def K_l_heldSessS_2 : Sk := ⟨[(0, .v false [(.sl 58 h_12, .ro)]), (1, .v false [(.int .i64, .nil)]), (5, .v false [(.int .i64, .nil)])], [], []⟩
def X_l_heldSessS_2 : List (Ex × Sk) := [(.ret, ⟨[(4, .v false [(.int .i64, .nil)])], [], []⟩), ((.exit 0), ⟨[(1, .v false [(.int .i64, .nil)])], [], []⟩)]
def Q_l_heldSessS : Loops := fun i st => cond (Nat.beq i 2) (lam K_l_heldSessS_2 3000000 X_l_heldSessS_2 B_l_heldSessS_2 st) <| .fail
theorem lp_l_heldSessS_2 : ∀ d, bod ⟨lookT tys, ctrOf C_l_heldSessS, kindOf C_l_heldSessS, 3, 4⟩ 0 Tryz.f74.ntmps Q_l_heldSessS (nthLoop Tryz.f74 0) K_l_heldSessS_2 3000000 X_l_heldSessS_2 d = B_l_heldSessS_2 d := fun d => by kernel_rfl
theorem lo_l_heldSessS_2 (cx : Cx) (hp : cx.pin.length ≤ 0) : LoopOk Tryz.prog cx Tryz.f74.ntmps Q_l_heldSessS (nthLoop Tryz.f74 0) := loop_of (cfgOk_of mixed tys_ok (show FnsOk Tryz.prog C_l_heldSessS from ⟨fn_l_heldByteS, fn_l_heldIntS, fn_l_heldCandS, trivial⟩)) hp (all_of (by kernel_rfl : loopsOf (nthLoop Tryz.f74 0) = []) trivial) (by kernel_rfl) lp_l_heldSessS_2
theorem e_l_heldSessS : ∀ d, pcall ⟨lookT tys, ctrOf C_l_heldSessS, kindOf C_l_heldSessS, 3, 4⟩ 0 Q_l_heldSessS Tryz.f74 .plain (mkA P_l_heldSessS d) = (T_l_heldSessS d.1 d.2.1).run fun r => some (O_l_heldSessS r) := fun d => by kernel_rfl
theorem fn_l_heldSessS : Fn Tryz.prog 74 .plain F_l_heldSessS := fn_of (cfgOk_of mixed tys_ok (show FnsOk Tryz.prog C_l_heldSessS from ⟨fn_l_heldByteS, fn_l_heldIntS, fn_l_heldCandS, trivial⟩)) Tryz.func74 (by kernel_rfl) (by kernel_rfl) (fun cx b hp hb => all_of (by kernel_rfl : loopsOf (Tryz.f74.body.getD .skip) = [nthLoop Tryz.f74 0]) ⟨lo_l_heldSessS_2 cx hp, trivial⟩ b hb) (R := (YI)) (T := fun (d : aden P_l_heldSessS) => T_l_heldSessS d.1 d.2.1) e_l_heldSessS
def P_l_heldTab : List (Bool × List Sh) := [(true, [.int .i64, .sl 58 h_12]), (false, [.int .i64])]
def O_l_heldTab (r : (YI)) : List RV × List RV := ([rv (false, [.int .i64]) r], [])
def C_l_heldTab : Fns := [(74, .plain, F_l_heldSessS)]
def F_l_heldTab : Fun1 := funV P_l_heldTab (fun d => (T_l_heldTab d.1 d.2.1).val) O_l_heldTab
def Q_l_heldTab : Loops := fun _ _ => .fail
theorem e_l_heldTab : ∀ d, pcall ⟨lookT tys, ctrOf C_l_heldTab, kindOf C_l_heldTab, 3, 4⟩ 0 Q_l_heldTab Tryz.f18 .plain (mkA P_l_heldTab d) = (T_l_heldTab d.1 d.2.1).run fun r => some (O_l_heldTab r) := fun d => by kernel_rfl
theorem fn_l_heldTab : Fn Tryz.prog 18 .plain F_l_heldTab := fn_of (cfgOk_of mixed tys_ok (show FnsOk Tryz.prog C_l_heldTab from ⟨fn_l_heldSessS, trivial⟩)) Tryz.func18 (by kernel_rfl) (by kernel_rfl) (fun cx b hp hb => all_of (by kernel_rfl : loopsOf (Tryz.f18.body.getD .skip) = []) trivial b hb) (R := (YI)) (T := fun (d : aden P_l_heldTab) => T_l_heldTab d.1 d.2.1) e_l_heldTab
def P_l_heldCreditS : List (Bool × List Sh) := [(false, [.sl 190 h_2]), (false, [.int .i64])]
def O_l_heldCreditS (r : (YI)) : List RV × List RV := ([rv (false, [.int .i64]) r], [])
def C_l_heldCreditS : Fns := []
def F_l_heldCreditS : Fun1 := funV P_l_heldCreditS (fun d => (T_l_heldCreditS d.1 d.2.1).val) O_l_heldCreditS
def K_l_heldCreditS_2 : Sk := ⟨[(0, .v false [(.sl 190 h_2, .ro)]), (1, .v false [(.int .i64, .nil)]), (5, .v false [(.int .i64, .nil)])], [], []⟩
def X_l_heldCreditS_2 : List (Ex × Sk) := [(.ret, ⟨[(4, .v false [(.int .i64, .nil)])], [], []⟩), ((.exit 0), ⟨[(1, .v false [(.int .i64, .nil)])], [], []⟩)]
def Q_l_heldCreditS : Loops := fun i st => cond (Nat.beq i 2) (lam K_l_heldCreditS_2 3000000 X_l_heldCreditS_2 B_l_heldCreditS_2 st) <| .fail
theorem lp_l_heldCreditS_2 : ∀ d, bod ⟨lookT tys, ctrOf C_l_heldCreditS, kindOf C_l_heldCreditS, 3, 4⟩ 0 Tryz.f130.ntmps Q_l_heldCreditS (nthLoop Tryz.f130 0) K_l_heldCreditS_2 3000000 X_l_heldCreditS_2 d = B_l_heldCreditS_2 d := fun d => by kernel_rfl
theorem lo_l_heldCreditS_2 (cx : Cx) (hp : cx.pin.length ≤ 0) : LoopOk Tryz.prog cx Tryz.f130.ntmps Q_l_heldCreditS (nthLoop Tryz.f130 0) := loop_of (cfgOk_of mixed tys_ok (show FnsOk Tryz.prog C_l_heldCreditS from trivial)) hp (all_of (by kernel_rfl : loopsOf (nthLoop Tryz.f130 0) = []) trivial) (by kernel_rfl) lp_l_heldCreditS_2
theorem e_l_heldCreditS : ∀ d, pcall ⟨lookT tys, ctrOf C_l_heldCreditS, kindOf C_l_heldCreditS, 3, 4⟩ 0 Q_l_heldCreditS Tryz.f130 .plain (mkA P_l_heldCreditS d) = (T_l_heldCreditS d.1 d.2.1).run fun r => some (O_l_heldCreditS r) := fun d => by kernel_rfl
theorem fn_l_heldCreditS : Fn Tryz.prog 130 .plain F_l_heldCreditS := fn_of (cfgOk_of mixed tys_ok (show FnsOk Tryz.prog C_l_heldCreditS from trivial)) Tryz.func130 (by kernel_rfl) (by kernel_rfl) (fun cx b hp hb => all_of (by kernel_rfl : loopsOf (Tryz.f130.body.getD .skip) = [nthLoop Tryz.f130 0]) ⟨lo_l_heldCreditS_2 cx hp, trivial⟩ b hb) (R := (YI)) (T := fun (d : aden P_l_heldCreditS) => T_l_heldCreditS d.1 d.2.1) e_l_heldCreditS
def P_l_heldServer : List (Bool × List Sh) := [(true, h_13), (false, [.int .i64])]
def O_l_heldServer (r : (YI)) : List RV × List RV := ([rv (false, [.int .i64]) r], [])
def C_l_heldServer : Fns := [(127, .plain, F_l_heldByteSS), (128, .plain, F_l_heldJar), (129, .plain, F_l_heldDice), (18, .plain, F_l_heldTab), (130, .plain, F_l_heldCreditS)]
def F_l_heldServer : Fun1 := funV P_l_heldServer (fun d => (T_l_heldServer d.1 d.2.1).val) O_l_heldServer
def Q_l_heldServer : Loops := fun _ _ => .fail
theorem e_l_heldServer : ∀ d, pcall ⟨lookT tys, ctrOf C_l_heldServer, kindOf C_l_heldServer, 3, 4⟩ 0 Q_l_heldServer Tryz.f53 .plain (mkA P_l_heldServer d) = (T_l_heldServer d.1 d.2.1).run fun r => some (O_l_heldServer r) := fun d => by kernel_rfl
theorem fn_l_heldServer : Fn Tryz.prog 53 .plain F_l_heldServer := fn_of (cfgOk_of mixed tys_ok (show FnsOk Tryz.prog C_l_heldServer from ⟨fn_l_heldByteSS, fn_l_heldJar, fn_l_heldDice, fn_l_heldTab, fn_l_heldCreditS, trivial⟩)) Tryz.func53 (by kernel_rfl) (by kernel_rfl) (fun cx b hp hb => all_of (by kernel_rfl : loopsOf (Tryz.f53.body.getD .skip) = []) trivial b hb) (R := (YI)) (T := fun (d : aden P_l_heldServer) => T_l_heldServer d.1 d.2.1) e_l_heldServer
def P_l_FnExactServerNew : List (Bool × List Sh) := [(false, [.sl 25 [.sl 5 [.int .u8]]]), (false, [.sl 5 [.int .u8]]), (false, [.int .i64])]
def O_l_FnExactServerNew (r : (Bool × Unit)) : List RV × List RV := ([rv (false, [.bool]) r], [])
def C_l_FnExactServerNew : Fns := [(45, .plain, F_l_szByteSS), (47, .plain, F_l_toByteSS), (23, .plain, F_l_toByteS), (46, .plain, F_s_ServerNew), (48, .plain, F_i_ServerNew), (49, .plain, F_l_eqServer), (50, .plain, F_l_eqByteSS), (27, .plain, F_l_eqByteS), (51, (.lend [1]), F_l_markByteSS), (29, (.lend [1]), F_l_markByteS), (52, (.lend [1]), F_l_markServer), (53, .plain, F_l_heldServer)]
def F_l_FnExactServerNew : Fun1 := funV P_l_FnExactServerNew (fun d => (T_l_FnExactServerNew d.1 d.2.1 d.2.2.1).val) O_l_FnExactServerNew
def Q_l_FnExactServerNew : Loops := fun _ _ => .fail
theorem e_l_FnExactServerNew : ∀ d, pcall ⟨lookT tys, ctrOf C_l_FnExactServerNew, kindOf C_l_FnExactServerNew, 3, 4⟩ 0 Q_l_FnExactServerNew Tryz.f7 .plain (mkA P_l_FnExactServerNew d) = (T_l_FnExactServerNew d.1 d.2.1 d.2.2.1).run fun r => some (O_l_FnExactServerNew r) := fun d => by kernel_rfl
theorem fn_l_FnExactServerNew : Fn Tryz.prog 7 .plain F_l_FnExactServerNew := fn_of (cfgOk_of mixed tys_ok (show FnsOk Tryz.prog C_l_FnExactServerNew from ⟨fn_l_szByteSS, fn_l_toByteSS, fn_l_toByteS, fn_s_ServerNew, fn_i_ServerNew, fn_l_eqServer, fn_l_eqByteSS, fn_l_eqByteS, fn_l_markByteSS, fn_l_markByteS, fn_l_markServer, fn_l_heldServer, trivial⟩)) Tryz.func7 (by kernel_rfl) (by kernel_rfl) (fun cx b hp hb => all_of (by kernel_rfl : loopsOf (Tryz.f7.body.getD .skip) = []) trivial b hb) (R := (Bool × Unit)) (T := fun (d : aden P_l_FnExactServerNew) => T_l_FnExactServerNew d.1 d.2.1 d.2.2.1) e_l_FnExactServerNew
end
end Go.Proofs.YtfdfaefafbnceaaGreat

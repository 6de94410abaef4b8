/-
  That the functions of the seat answer what the terms of text W say; nothing is assumed.
-/
import Derived.Test.YtfdfaefafbnceaaGreatW
import Derived.Test.YtfdfaefafbnceaaGreatProg
import Derived.KernelRfl
namespace Go.Proofs.YtfdfaefafbnceaaGreat
open Go.RowKit
set_option linter.unusedVariables false
set_option maxRecDepth 100000
set_option maxHeartbeats 4000000
noncomputable section
abbrev h_0 : List Sh := [.int .i64, .int .i64, .bool, .int .u8]
abbrev h_1 : List Sh := [.bool, .int .i64, .int .i64, .int .i64]
abbrev h_2 : List Sh := [.int .i64, .int .i64, .int .i64, .int .i64]
abbrev h_3 : List Sh := [.sl 3 [.int .i64], .sl 5 [.int .u8], .int .i64]
abbrev h_4 : List Sh := [.int .i64, .int .i64, .sl 5 [.int .u8], .int .i64]
abbrev h_5 : List Sh := [.int .i64, .sl 5 [.int .u8], .int .i64, .int .i64, .sl 3 [.int .i64]]
abbrev h_6 : List Sh := [.int .i64, .int .i64, .sl 194 h_4]
abbrev h_7 : List Sh := [.int .i64, .int .i64, .sl 198 h_4]
abbrev h_8 : List Sh := [.int .i64, .int .i64, .int .i64, .sl 5 [.int .u8], .sl 5 [.int .u8], .int .i64, .int .i64, .sl 5 [.int .u8], .sl 5 [.int .u8], .int .i64, .int .i64, .int .i64]
abbrev h_9 : List Sh := [.int .i64, .int .i64, .sl 5 [.int .u8], .sl 5 [.int .u8], .int .i64, .sl 5 [.int .u8], .sl 5 [.int .u8], .int .i64, .int .i64, .sl 5 [.int .u8], .sl 5 [.int .u8]]
abbrev h_10 : List Sh := [.int .i64, .sl 5 [.int .u8], .int .i64, .sl 5 [.int .u8], .int .i64, .int .i64, .sl 3 [.int .i64], .int .i64, .sl 5 [.int .u8], .int .i64, .int .i64, .sl 3 [.int .i64], .bool, .int .i64, .sl 5 [.int .u8]]
abbrev h_11 : List Sh := [.int .i64, .sl 5 [.int .u8], .sl 5 [.int .u8], .int .i64, .sl 5 [.int .u8], .int .i64, .sl 5 [.int .u8], .int .i64, .int .i64, .sl 3 [.int .i64], .int .i64, .sl 5 [.int .u8], .int .i64, .int .i64, .sl 3 [.int .i64], .bool, .int .i64, .sl 5 [.int .u8], .int .i64, .int .i64, .sl 194 h_4, .int .i64, .int .i64, .bool]
abbrev h_12 : List Sh := [.int .i64, .sl 5 [.int .u8], .sl 5 [.int .u8], .int .i64, .sl 5 [.int .u8], .int .i64, .sl 5 [.int .u8], .int .i64, .int .i64, .sl 3 [.int .i64], .int .i64, .sl 5 [.int .u8], .int .i64, .int .i64, .sl 3 [.int .i64], .bool, .int .i64, .sl 5 [.int .u8], .int .i64, .int .i64, .sl 198 h_4, .int .i64, .int .i64, .bool]
abbrev h_13 : List Sh := [.sl 25 [.sl 5 [.int .u8]], .sl 5 [.int .u8], .sl 5 [.int .u8], .int .i64, .int .i64, .sl 58 h_12, .sl 190 h_2]
abbrev h_14 : List Sh := [.int .i64, .sl 5 [.int .u8], .int .i64, .int .i64, .int .i64, .sl 5 [.int .u8], .int .i64, .int .i64, .sl 5 [.int .u8], .sl 5 [.int .u8], .int .i64, .sl 5 [.int .u8], .sl 5 [.int .u8], .int .i64, .int .i64, .sl 5 [.int .u8], .sl 5 [.int .u8], .int .i64, .sl 5 [.int .u8], .int .i64, .sl 5 [.int .u8], .int .i64, .int .i64, .sl 3 [.int .i64], .int .i64, .sl 5 [.int .u8], .int .i64, .int .i64, .sl 3 [.int .i64], .bool, .int .i64, .sl 5 [.int .u8], .bool, .int .i64, .int .i64, .int .i64, .bool, .int .i64, .int .i64, .int .i64, .int .i64]
def tys : List (Nat × Ty) := [(3, ⟨false, [.int .i64], [], false⟩),
  (4, ⟨false, [.bool], [], false⟩),
  (5, ⟨false, [.int .u8], [], false⟩),
  (9, ⟨false, [.str], [], false⟩),
  (25, ⟨false, [.sl 5 [.int .u8]], [], false⟩),
  (26, ⟨false, [.sl 3 [.int .i64]], [], false⟩),
  (34, ⟨true, [.int .i64, .int .i64], [(0, 1), (1, 1)], true⟩),
  (48, ⟨true, [.int .i64, .sl 3 [.int .i64]], [(0, 1), (1, 1)], false⟩),
  (50, ⟨true, [.int .i64, .sl 5 [.int .u8], .int .i64, .int .i64, .sl 3 [.int .i64]], [(0, 1), (1, 1), (2, 1), (3, 2)], false⟩),
  (52, ⟨true, [.int .i64, .sl 5 [.int .u8], .int .i64, .sl 5 [.int .u8], .int .i64, .int .i64, .sl 3 [.int .i64], .int .i64, .sl 5 [.int .u8], .int .i64, .int .i64, .sl 3 [.int .i64], .bool, .int .i64, .sl 5 [.int .u8]], [(0, 1), (1, 1), (2, 5), (7, 5), (12, 1), (13, 1), (14, 1)], false⟩),
  (53, ⟨true, [.int .i64, .int .i64], [(0, 1), (1, 1)], true⟩),
  (54, ⟨false, [.sl 198 [.int .i64, .int .i64, .sl 5 [.int .u8], .int .i64]], [], false⟩),
  (56, ⟨true, [.int .i64, .int .i64, .sl 198 [.int .i64, .int .i64, .sl 5 [.int .u8], .int .i64]], [(0, 2), (2, 1)], false⟩),
  (58, ⟨true, [.int .i64, .sl 5 [.int .u8], .sl 5 [.int .u8], .int .i64, .sl 5 [.int .u8], .int .i64, .sl 5 [.int .u8], .int .i64, .int .i64, .sl 3 [.int .i64], .int .i64, .sl 5 [.int .u8], .int .i64, .int .i64, .sl 3 [.int .i64], .bool, .int .i64, .sl 5 [.int .u8], .int .i64, .int .i64, .sl 198 [.int .i64, .int .i64, .sl 5 [.int .u8], .int .i64], .int .i64, .int .i64, .bool], [(0, 1), (1, 1), (2, 1), (3, 15), (18, 3), (21, 1), (22, 1), (23, 1)], false⟩),
  (69, ⟨true, [.int .i64, .int .i64, .sl 5 [.int .u8], .sl 5 [.int .u8], .int .i64, .sl 5 [.int .u8], .sl 5 [.int .u8], .int .i64, .int .i64, .sl 5 [.int .u8], .sl 5 [.int .u8]], [(0, 1), (1, 1), (2, 1), (3, 1), (4, 1), (5, 1), (6, 1), (7, 1), (8, 1), (9, 1), (10, 1)], false⟩),
  (74, ⟨true, [.int .i64, .int .i64, .sl 5 [.int .u8], .sl 5 [.int .u8], .int .i64, .sl 5 [.int .u8], .sl 5 [.int .u8], .int .i64, .int .i64, .sl 5 [.int .u8], .sl 5 [.int .u8]], [(0, 1), (1, 1), (2, 1), (3, 1), (4, 1), (5, 1), (6, 1), (7, 1), (8, 1), (9, 1), (10, 1)], false⟩),
  (101, ⟨false, [.sl 25 [.sl 5 [.int .u8]]], [], false⟩),
  (198, ⟨true, [.int .i64, .int .i64, .sl 5 [.int .u8], .int .i64], [(0, 2), (2, 1), (3, 1)], false⟩),
  (226, ⟨true, [.sl 3 [.int .i64], .sl 5 [.int .u8], .int .i64], [(0, 1), (1, 1), (2, 1)], false⟩),
  (237, ⟨false, [.int .u64], [], false⟩)]
theorem tys_ok : tysB Tryz.prog tys = true := by kernel_rfl
theorem mixed : Tryz.prog.follows .mixedOrders = true := by kernel_rfl
def P_l_szByteS : List (Bool × List Sh) := [(false, [.sl 5 [.int .u8]]), (false, [.int .i64])]
def O_l_szByteS (r : (YI)) : List RV × List RV := ([rv (false, [.int .i64]) r], [])
def C_l_szByteS : Fns := []
def F_l_szByteS : Fun1 := funV P_l_szByteS (fun d => (T_l_szByteS d.1 d.2.1).val) O_l_szByteS
def Q_l_szByteS : Loops := fun _ _ => .fail
theorem e_l_szByteS : ∀ d, pcall ⟨lookT tys, ctrOf C_l_szByteS, kindOf C_l_szByteS, 3, 4⟩ 0 Q_l_szByteS Tryz.f55 .plain (mkA P_l_szByteS d) = (T_l_szByteS d.1 d.2.1).run fun r => some (O_l_szByteS r) := fun d => by kernel_rfl
theorem fn_l_szByteS : Fn Tryz.prog 55 .plain F_l_szByteS := fn_of (cfgOk_of mixed tys_ok (show FnsOk Tryz.prog C_l_szByteS from trivial)) Tryz.func55 (by kernel_rfl) (by kernel_rfl) (fun cx b hp hb => all_of (by kernel_rfl : loopsOf (Tryz.f55.body.getD .skip) = []) trivial b hb) (R := (YI)) (T := fun (d : aden P_l_szByteS) => T_l_szByteS d.1 d.2.1) e_l_szByteS
def P_l_szFrame : List (Bool × List Sh) := [(true, h_9), (false, [.int .i64])]
def O_l_szFrame (r : (YI)) : List RV × List RV := ([rv (false, [.int .i64]) r], [])
def C_l_szFrame : Fns := [(55, .plain, F_l_szByteS)]
def F_l_szFrame : Fun1 := funV P_l_szFrame (fun d => (T_l_szFrame d.1 d.2.1).val) O_l_szFrame
def Q_l_szFrame : Loops := fun _ _ => .fail
theorem e_l_szFrame : ∀ d, pcall ⟨lookT tys, ctrOf C_l_szFrame, kindOf C_l_szFrame, 3, 4⟩ 0 Q_l_szFrame Tryz.f21 .plain (mkA P_l_szFrame d) = (T_l_szFrame d.1 d.2.1).run fun r => some (O_l_szFrame r) := fun d => by kernel_rfl
theorem fn_l_szFrame : Fn Tryz.prog 21 .plain F_l_szFrame := fn_of (cfgOk_of mixed tys_ok (show FnsOk Tryz.prog C_l_szFrame from ⟨fn_l_szByteS, trivial⟩)) Tryz.func21 (by kernel_rfl) (by kernel_rfl) (fun cx b hp hb => all_of (by kernel_rfl : loopsOf (Tryz.f21.body.getD .skip) = []) trivial b hb) (R := (YI)) (T := fun (d : aden P_l_szFrame) => T_l_szFrame d.1 d.2.1) e_l_szFrame
def P_l_toByteS : List (Bool × List Sh) := [(false, [.sl 5 [.int .u8]])]
def O_l_toByteS (r : (YBs)) : List RV × List RV := ([rv (false, [.sl 5 [.int .u8]]) r], [])
def C_l_toByteS : Fns := []
def F_l_toByteS : Fun1 := funV P_l_toByteS (fun d => (T_l_toByteS d.1).val) O_l_toByteS
def K_l_toByteS_3 : Sk := ⟨[(0, .v false [(.sl 5 [.int .u8], .ro)]), (3, .v false [(.sl 5 [.int .u8], (.own 4000000))]), (4, .v false [(.int .i64, .nil)])], [], [4000000]⟩
def X_l_toByteS_3 : List (Ex × Sk) := [((.exit 0), ⟨[(3, .v false [(.sl 5 [.int .u8], (.own 4000000))])], [], [4000000]⟩)]
def Q_l_toByteS : Loops := fun i st => cond (Nat.beq i 3) (lam K_l_toByteS_3 4000000 X_l_toByteS_3 B_l_toByteS_3 st) <| .fail
theorem lp_l_toByteS_3 : ∀ d, bod ⟨lookT tys, ctrOf C_l_toByteS, kindOf C_l_toByteS, 3, 4⟩ 0 Tryz.f23.ntmps Q_l_toByteS (nthLoop Tryz.f23 0) K_l_toByteS_3 4000000 X_l_toByteS_3 d = B_l_toByteS_3 d := fun d => by kernel_rfl
theorem lo_l_toByteS_3 (cx : Cx) (hp : cx.pin.length ≤ 0) : LoopOk Tryz.prog cx Tryz.f23.ntmps Q_l_toByteS (nthLoop Tryz.f23 0) := loop_of (cfgOk_of mixed tys_ok (show FnsOk Tryz.prog C_l_toByteS from trivial)) hp (all_of (by kernel_rfl : loopsOf (nthLoop Tryz.f23 0) = []) trivial) (by kernel_rfl) lp_l_toByteS_3
theorem e_l_toByteS : ∀ d, pcall ⟨lookT tys, ctrOf C_l_toByteS, kindOf C_l_toByteS, 3, 4⟩ 0 Q_l_toByteS Tryz.f23 .plain (mkA P_l_toByteS d) = (T_l_toByteS d.1).run fun r => some (O_l_toByteS r) := fun d => by kernel_rfl
theorem fn_l_toByteS : Fn Tryz.prog 23 .plain F_l_toByteS := fn_of (cfgOk_of mixed tys_ok (show FnsOk Tryz.prog C_l_toByteS from trivial)) Tryz.func23 (by kernel_rfl) (by kernel_rfl) (fun cx b hp hb => all_of (by kernel_rfl : loopsOf (Tryz.f23.body.getD .skip) = [nthLoop Tryz.f23 0]) ⟨lo_l_toByteS_3 cx hp, trivial⟩ b hb) (R := (YBs)) (T := fun (d : aden P_l_toByteS) => T_l_toByteS d.1) e_l_toByteS
def P_l_toAddr : List (Bool × List Sh) := [(true, [.int .i64, .int .i64])]
def O_l_toAddr (r : (YAddr)) : List RV × List RV := ([rv (true, [.int .i64, .int .i64]) r], [])
def C_l_toAddr : Fns := []
def F_l_toAddr : Fun1 := funV P_l_toAddr (fun d => (T_l_toAddr d.1).val) O_l_toAddr
def Q_l_toAddr : Loops := fun _ _ => .fail
theorem e_l_toAddr : ∀ d, pcall ⟨lookT tys, ctrOf C_l_toAddr, kindOf C_l_toAddr, 3, 4⟩ 0 Q_l_toAddr Tryz.f24 .plain (mkA P_l_toAddr d) = (T_l_toAddr d.1).run fun r => some (O_l_toAddr r) := fun d => by kernel_rfl
theorem fn_l_toAddr : Fn Tryz.prog 24 .plain F_l_toAddr := fn_of (cfgOk_of mixed tys_ok (show FnsOk Tryz.prog C_l_toAddr from trivial)) Tryz.func24 (by kernel_rfl) (by kernel_rfl) (fun cx b hp hb => all_of (by kernel_rfl : loopsOf (Tryz.f24.body.getD .skip) = []) trivial b hb) (R := (YAddr)) (T := fun (d : aden P_l_toAddr) => T_l_toAddr d.1) e_l_toAddr
def P_l_toFrame : List (Bool × List Sh) := [(true, h_9)]
def O_l_toFrame (r : (YFrame)) : List RV × List RV := ([rv (true, h_9) r], [])
def C_l_toFrame : Fns := [(23, .plain, F_l_toByteS)]
def F_l_toFrame : Fun1 := funV P_l_toFrame (fun d => (T_l_toFrame d.1).val) O_l_toFrame
def Q_l_toFrame : Loops := fun _ _ => .fail
theorem e_l_toFrame : ∀ d, pcall ⟨lookT tys, ctrOf C_l_toFrame, kindOf C_l_toFrame, 3, 4⟩ 0 Q_l_toFrame Tryz.f25 .plain (mkA P_l_toFrame d) = (T_l_toFrame d.1).run fun r => some (O_l_toFrame r) := fun d => by kernel_rfl
theorem fn_l_toFrame : Fn Tryz.prog 25 .plain F_l_toFrame := fn_of (cfgOk_of mixed tys_ok (show FnsOk Tryz.prog C_l_toFrame from ⟨fn_l_toByteS, trivial⟩)) Tryz.func25 (by kernel_rfl) (by kernel_rfl) (fun cx b hp hb => all_of (by kernel_rfl : loopsOf (Tryz.f25.body.getD .skip) = []) trivial b hb) (R := (YFrame)) (T := fun (d : aden P_l_toFrame) => T_l_toFrame d.1) e_l_toFrame
def P_s_l1In : List (Bool × List Sh) := [(false, [.int .i64]), (false, [.int .i64]), (false, [.int .i64])]
def O_s_l1In (r : (Bool × Unit)) : List RV × List RV := ([rv (false, [.bool]) r], [])
def C_s_l1In : Fns := []
def F_s_l1In : Fun1 := funV P_s_l1In (fun d => (T_s_l1In d.1 d.2.1 d.2.2.1).val) O_s_l1In
def Q_s_l1In : Loops := fun _ _ => .fail
theorem e_s_l1In : ∀ d, pcall ⟨lookT tys, ctrOf C_s_l1In, kindOf C_s_l1In, 3, 4⟩ 0 Q_s_l1In Tryz.f60 .plain (mkA P_s_l1In d) = (T_s_l1In d.1 d.2.1 d.2.2.1).run fun r => some (O_s_l1In r) := fun d => by kernel_rfl
theorem fn_s_l1In : Fn Tryz.prog 60 .plain F_s_l1In := fn_of (cfgOk_of mixed tys_ok (show FnsOk Tryz.prog C_s_l1In from trivial)) Tryz.func60 (by kernel_rfl) (by kernel_rfl) (fun cx b hp hb => all_of (by kernel_rfl : loopsOf (Tryz.f60.body.getD .skip) = []) trivial b hb) (R := (Bool × Unit)) (T := fun (d : aden P_s_l1In) => T_s_l1In d.1 d.2.1 d.2.2.1) e_s_l1In
def P_s_PskOk : List (Bool × List Sh) := [(false, [.sl 5 [.int .u8]])]
def O_s_PskOk (r : (Bool × Unit)) : List RV × List RV := ([rv (false, [.bool]) r], [])
def C_s_PskOk : Fns := [(60, .plain, F_s_l1In)]
def F_s_PskOk : Fun1 := funV P_s_PskOk (fun d => (T_s_PskOk d.1).val) O_s_PskOk
def Q_s_PskOk : Loops := fun _ _ => .fail
theorem e_s_PskOk : ∀ d, pcall ⟨lookT tys, ctrOf C_s_PskOk, kindOf C_s_PskOk, 3, 4⟩ 0 Q_s_PskOk Tryz.f81 .plain (mkA P_s_PskOk d) = (T_s_PskOk d.1).run fun r => some (O_s_PskOk r) := fun d => by kernel_rfl
theorem fn_s_PskOk : Fn Tryz.prog 81 .plain F_s_PskOk := fn_of (cfgOk_of mixed tys_ok (show FnsOk Tryz.prog C_s_PskOk from ⟨fn_s_l1In, trivial⟩)) Tryz.func81 (by kernel_rfl) (by kernel_rfl) (fun cx b hp hb => all_of (by kernel_rfl : loopsOf (Tryz.f81.body.getD .skip) = []) trivial b hb) (R := (Bool × Unit)) (T := fun (d : aden P_s_PskOk) => T_s_PskOk d.1) e_s_PskOk
def P_s_AddrOk : List (Bool × List Sh) := [(true, [.int .i64, .int .i64])]
def O_s_AddrOk (r : (Bool × Unit)) : List RV × List RV := ([rv (false, [.bool]) r], [])
def C_s_AddrOk : Fns := [(60, .plain, F_s_l1In)]
def F_s_AddrOk : Fun1 := funV P_s_AddrOk (fun d => (T_s_AddrOk d.1).val) O_s_AddrOk
def Q_s_AddrOk : Loops := fun _ _ => .fail
theorem e_s_AddrOk : ∀ d, pcall ⟨lookT tys, ctrOf C_s_AddrOk, kindOf C_s_AddrOk, 3, 4⟩ 0 Q_s_AddrOk Tryz.f82 .plain (mkA P_s_AddrOk d) = (T_s_AddrOk d.1).run fun r => some (O_s_AddrOk r) := fun d => by kernel_rfl
theorem fn_s_AddrOk : Fn Tryz.prog 82 .plain F_s_AddrOk := fn_of (cfgOk_of mixed tys_ok (show FnsOk Tryz.prog C_s_AddrOk from ⟨fn_s_l1In, trivial⟩)) Tryz.func82 (by kernel_rfl) (by kernel_rfl) (fun cx b hp hb => all_of (by kernel_rfl : loopsOf (Tryz.f82.body.getD .skip) = []) trivial b hb) (R := (Bool × Unit)) (T := fun (d : aden P_s_AddrOk) => T_s_AddrOk d.1) e_s_AddrOk
def P_s_Sealed : List (Bool × List Sh) := [(false, [.int .i64])]
def O_s_Sealed (r : (Bool × Unit)) : List RV × List RV := ([rv (false, [.bool]) r], [])
def C_s_Sealed : Fns := [(60, .plain, F_s_l1In)]
def F_s_Sealed : Fun1 := funV P_s_Sealed (fun d => (T_s_Sealed d.1).val) O_s_Sealed
def Q_s_Sealed : Loops := fun _ _ => .fail
theorem e_s_Sealed : ∀ d, pcall ⟨lookT tys, ctrOf C_s_Sealed, kindOf C_s_Sealed, 3, 4⟩ 0 Q_s_Sealed Tryz.f155 .plain (mkA P_s_Sealed d) = (T_s_Sealed d.1).run fun r => some (O_s_Sealed r) := fun d => by kernel_rfl
theorem fn_s_Sealed : Fn Tryz.prog 155 .plain F_s_Sealed := fn_of (cfgOk_of mixed tys_ok (show FnsOk Tryz.prog C_s_Sealed from ⟨fn_s_l1In, trivial⟩)) Tryz.func155 (by kernel_rfl) (by kernel_rfl) (fun cx b hp hb => all_of (by kernel_rfl : loopsOf (Tryz.f155.body.getD .skip) = []) trivial b hb) (R := (Bool × Unit)) (T := fun (d : aden P_s_Sealed) => T_s_Sealed d.1) e_s_Sealed
def P_s_l7Body : List (Bool × List Sh) := [(false, [.int .i64]), (false, [.int .i64])]
def O_s_l7Body (r : (Bool × Unit)) : List RV × List RV := ([rv (false, [.bool]) r], [])
def C_s_l7Body : Fns := []
def F_s_l7Body : Fun1 := funV P_s_l7Body (fun d => (T_s_l7Body d.1 d.2.1).val) O_s_l7Body
def Q_s_l7Body : Loops := fun _ _ => .fail
theorem e_s_l7Body : ∀ d, pcall ⟨lookT tys, ctrOf C_s_l7Body, kindOf C_s_l7Body, 3, 4⟩ 0 Q_s_l7Body Tryz.f156 .plain (mkA P_s_l7Body d) = (T_s_l7Body d.1 d.2.1).run fun r => some (O_s_l7Body r) := fun d => by kernel_rfl
theorem fn_s_l7Body : Fn Tryz.prog 156 .plain F_s_l7Body := fn_of (cfgOk_of mixed tys_ok (show FnsOk Tryz.prog C_s_l7Body from trivial)) Tryz.func156 (by kernel_rfl) (by kernel_rfl) (fun cx b hp hb => all_of (by kernel_rfl : loopsOf (Tryz.f156.body.getD .skip) = []) trivial b hb) (R := (Bool × Unit)) (T := fun (d : aden P_s_l7Body) => T_s_l7Body d.1 d.2.1) e_s_l7Body
def P_s_FrameOk : List (Bool × List Sh) := [(true, h_9)]
def O_s_FrameOk (r : (Bool × Unit)) : List RV × List RV := ([rv (false, [.bool]) r], [])
def C_s_FrameOk : Fns := [(155, .plain, F_s_Sealed), (60, .plain, F_s_l1In), (156, .plain, F_s_l7Body)]
def F_s_FrameOk : Fun1 := funV P_s_FrameOk (fun d => (T_s_FrameOk d.1).val) O_s_FrameOk
def Q_s_FrameOk : Loops := fun _ _ => .fail
theorem e_s_FrameOk : ∀ d, pcall ⟨lookT tys, ctrOf C_s_FrameOk, kindOf C_s_FrameOk, 3, 4⟩ 0 Q_s_FrameOk Tryz.f83 .plain (mkA P_s_FrameOk d) = (T_s_FrameOk d.1).run fun r => some (O_s_FrameOk r) := fun d => by kernel_rfl
theorem fn_s_FrameOk : Fn Tryz.prog 83 .plain F_s_FrameOk := fn_of (cfgOk_of mixed tys_ok (show FnsOk Tryz.prog C_s_FrameOk from ⟨fn_s_Sealed, fn_s_l1In, fn_s_l7Body, trivial⟩)) Tryz.func83 (by kernel_rfl) (by kernel_rfl) (fun cx b hp hb => all_of (by kernel_rfl : loopsOf (Tryz.f83.body.getD .skip) = []) trivial b hb) (R := (Bool × Unit)) (T := fun (d : aden P_s_FrameOk) => T_s_FrameOk d.1) e_s_FrameOk
def P_s_PutN : List (Bool × List Sh) := [(false, [.sl 5 [.int .u8]]), (false, [.int .i64]), (false, [.int .i64])]
def O_s_PutN (r : (YBs)) : List RV × List RV := ([rv (false, [.sl 5 [.int .u8]]) r], [])
def C_s_PutN : Fns := []
def F_s_PutN : Fun1 := funV P_s_PutN (fun d => (T_s_PutN d.1 d.2.1 d.2.2.1).val) O_s_PutN
def K_s_PutN_5 : Sk := ⟨[(1, .v false [(.int .i64, .nil)]), (7, .v false [(.sl 5 [.int .u8], (.own 6000000))]), (8, .v false [(.int .i64, .nil)])], [], [6000000]⟩
def X_s_PutN_5 : List (Ex × Sk) := [((.exit 0), ⟨[(7, .v false [(.sl 5 [.int .u8], (.own 6000000))])], [], [6000000]⟩)]
def Q_s_PutN : Loops := fun i st => cond (Nat.beq i 5) (lam K_s_PutN_5 6000000 X_s_PutN_5 B_s_PutN_5 st) <| .fail
theorem lp_s_PutN_5 : ∀ d, bod ⟨lookT tys, ctrOf C_s_PutN, kindOf C_s_PutN, 3, 4⟩ 0 Tryz.f211.ntmps Q_s_PutN (nthLoop Tryz.f211 0) K_s_PutN_5 6000000 X_s_PutN_5 d = B_s_PutN_5 d := fun d => by kernel_rfl
theorem lo_s_PutN_5 (cx : Cx) (hp : cx.pin.length ≤ 0) : LoopOk Tryz.prog cx Tryz.f211.ntmps Q_s_PutN (nthLoop Tryz.f211 0) := loop_of (cfgOk_of mixed tys_ok (show FnsOk Tryz.prog C_s_PutN from trivial)) hp (all_of (by kernel_rfl : loopsOf (nthLoop Tryz.f211 0) = []) trivial) (by kernel_rfl) lp_s_PutN_5
theorem e_s_PutN : ∀ d, pcall ⟨lookT tys, ctrOf C_s_PutN, kindOf C_s_PutN, 3, 4⟩ 0 Q_s_PutN Tryz.f211 .plain (mkA P_s_PutN d) = (T_s_PutN d.1 d.2.1 d.2.2.1).run fun r => some (O_s_PutN r) := fun d => by kernel_rfl
theorem fn_s_PutN : Fn Tryz.prog 211 .plain F_s_PutN := fn_of (cfgOk_of mixed tys_ok (show FnsOk Tryz.prog C_s_PutN from trivial)) Tryz.func211 (by kernel_rfl) (by kernel_rfl) (fun cx b hp hb => all_of (by kernel_rfl : loopsOf (Tryz.f211.body.getD .skip) = [nthLoop Tryz.f211 0]) ⟨lo_s_PutN_5 cx hp, trivial⟩ b hb) (R := (YBs)) (T := fun (d : aden P_s_PutN) => T_s_PutN d.1 d.2.1 d.2.2.1) e_s_PutN
def P_s_Pad : List (Bool × List Sh) := [(false, [.int .i64])]
def O_s_Pad (r : (YBs)) : List RV × List RV := ([rv (false, [.sl 5 [.int .u8]]) r], [])
def C_s_Pad : Fns := [(211, .plain, F_s_PutN)]
def F_s_Pad : Fun1 := funV P_s_Pad (fun d => (T_s_Pad d.1).val) O_s_Pad
def K_s_Pad_4 : Sk := ⟨[(0, .v false [(.int .i64, .nil)]), (3, .v false [(.sl 5 [.int .u8], (.own 5000000))])], [], [5000000]⟩
def X_s_Pad_4 : List (Ex × Sk) := [((.exit 0), ⟨[(0, .v false [(.int .i64, .nil)]), (3, .v false [(.sl 5 [.int .u8], (.own 5000000))])], [], [5000000]⟩)]
def Q_s_Pad : Loops := fun i st => cond (Nat.beq i 4) (lam K_s_Pad_4 5000000 X_s_Pad_4 B_s_Pad_4 st) <| .fail
theorem lp_s_Pad_4 : ∀ d, bod ⟨lookT tys, ctrOf C_s_Pad, kindOf C_s_Pad, 3, 4⟩ 0 Tryz.f233.ntmps Q_s_Pad (nthLoop Tryz.f233 0) K_s_Pad_4 5000000 X_s_Pad_4 d = B_s_Pad_4 d := fun d => by kernel_rfl
theorem lo_s_Pad_4 (cx : Cx) (hp : cx.pin.length ≤ 0) : LoopOk Tryz.prog cx Tryz.f233.ntmps Q_s_Pad (nthLoop Tryz.f233 0) := loop_of (cfgOk_of mixed tys_ok (show FnsOk Tryz.prog C_s_Pad from ⟨fn_s_PutN, trivial⟩)) hp (all_of (by kernel_rfl : loopsOf (nthLoop Tryz.f233 0) = []) trivial) (by kernel_rfl) lp_s_Pad_4
theorem e_s_Pad : ∀ d, pcall ⟨lookT tys, ctrOf C_s_Pad, kindOf C_s_Pad, 3, 4⟩ 0 Q_s_Pad Tryz.f233 .plain (mkA P_s_Pad d) = (T_s_Pad d.1).run fun r => some (O_s_Pad r) := fun d => by kernel_rfl
theorem fn_s_Pad : Fn Tryz.prog 233 .plain F_s_Pad := fn_of (cfgOk_of mixed tys_ok (show FnsOk Tryz.prog C_s_Pad from ⟨fn_s_PutN, trivial⟩)) Tryz.func233 (by kernel_rfl) (by kernel_rfl) (fun cx b hp hb => all_of (by kernel_rfl : loopsOf (Tryz.f233.body.getD .skip) = [nthLoop Tryz.f233 0]) ⟨lo_s_Pad_4 cx hp, trivial⟩ b hb) (R := (YBs)) (T := fun (d : aden P_s_Pad) => T_s_Pad d.1) e_s_Pad
def P_s_Start : List (Bool × List Sh) := []
def O_s_Start (r : ((List YI) × Unit)) : List RV × List RV := ([rv (false, [.sl 3 [.int .i64]]) r], [])
def C_s_Start : Fns := []
def F_s_Start : Fun1 := funV P_s_Start (fun d => (T_s_Start ).val) O_s_Start
def Q_s_Start : Loops := fun _ _ => .fail
theorem e_s_Start : ∀ d, pcall ⟨lookT tys, ctrOf C_s_Start, kindOf C_s_Start, 3, 4⟩ 0 Q_s_Start Tryz.f234 .plain (mkA P_s_Start d) = (T_s_Start ).run fun r => some (O_s_Start r) := fun d => by kernel_rfl
theorem fn_s_Start : Fn Tryz.prog 234 .plain F_s_Start := fn_of (cfgOk_of mixed tys_ok (show FnsOk Tryz.prog C_s_Start from trivial)) Tryz.func234 (by kernel_rfl) (by kernel_rfl) (fun cx b hp hb => all_of (by kernel_rfl : loopsOf (Tryz.f234.body.getD .skip) = []) trivial b hb) (R := ((List YI) × Unit)) (T := fun (d : aden P_s_Start) => T_s_Start ) e_s_Start
def P_s_l2Words : List (Bool × List Sh) := [(false, [.sl 3 [.int .i64]])]
def O_s_l2Words (r : (Bool × Unit)) : List RV × List RV := ([rv (false, [.bool]) r], [])
def C_s_l2Words : Fns := [(60, .plain, F_s_l1In)]
def F_s_l2Words : Fun1 := funV P_s_l2Words (fun d => (T_s_l2Words d.1).val) O_s_l2Words
def K_s_l2Words_2 : Sk := ⟨[(0, .v false [(.sl 3 [.int .i64], .ro)]), (3, .v false [(.int .i64, .nil)])], [], []⟩
def X_s_l2Words_2 : List (Ex × Sk) := [(.ret, ⟨[(2, .v false [(.bool, .nil)])], [], []⟩), ((.exit 0), ⟨[(0, .v false [(.sl 3 [.int .i64], .ro)])], [], []⟩)]
def Q_s_l2Words : Loops := fun i st => cond (Nat.beq i 2) (lam K_s_l2Words_2 3000000 X_s_l2Words_2 B_s_l2Words_2 st) <| .fail
theorem lp_s_l2Words_2 : ∀ d, bod ⟨lookT tys, ctrOf C_s_l2Words, kindOf C_s_l2Words, 3, 4⟩ 0 Tryz.f240.ntmps Q_s_l2Words (nthLoop Tryz.f240 0) K_s_l2Words_2 3000000 X_s_l2Words_2 d = B_s_l2Words_2 d := fun d => by kernel_rfl
theorem lo_s_l2Words_2 (cx : Cx) (hp : cx.pin.length ≤ 0) : LoopOk Tryz.prog cx Tryz.f240.ntmps Q_s_l2Words (nthLoop Tryz.f240 0) := loop_of (cfgOk_of mixed tys_ok (show FnsOk Tryz.prog C_s_l2Words from ⟨fn_s_l1In, trivial⟩)) hp (all_of (by kernel_rfl : loopsOf (nthLoop Tryz.f240 0) = []) trivial) (by kernel_rfl) lp_s_l2Words_2
theorem e_s_l2Words : ∀ d, pcall ⟨lookT tys, ctrOf C_s_l2Words, kindOf C_s_l2Words, 3, 4⟩ 0 Q_s_l2Words Tryz.f240 .plain (mkA P_s_l2Words d) = (T_s_l2Words d.1).run fun r => some (O_s_l2Words r) := fun d => by kernel_rfl
theorem fn_s_l2Words : Fn Tryz.prog 240 .plain F_s_l2Words := fn_of (cfgOk_of mixed tys_ok (show FnsOk Tryz.prog C_s_l2Words from ⟨fn_s_l1In, trivial⟩)) Tryz.func240 (by kernel_rfl) (by kernel_rfl) (fun cx b hp hb => all_of (by kernel_rfl : loopsOf (Tryz.f240.body.getD .skip) = [nthLoop Tryz.f240 0]) ⟨lo_s_l2Words_2 cx hp, trivial⟩ b hb) (R := (Bool × Unit)) (T := fun (d : aden P_s_l2Words) => T_s_l2Words d.1) e_s_l2Words
def P_s_l2K : List (Bool × List Sh) := []
def O_s_l2K (r : ((List YI) × Unit)) : List RV × List RV := ([rv (false, [.sl 3 [.int .i64]]) r], [])
def C_s_l2K : Fns := []
def F_s_l2K : Fun1 := funV P_s_l2K (fun d => (T_s_l2K ).val) O_s_l2K
def Q_s_l2K : Loops := fun _ _ => .fail
theorem e_s_l2K : ∀ d, pcall ⟨lookT tys, ctrOf C_s_l2K, kindOf C_s_l2K, 3, 4⟩ 0 Q_s_l2K Tryz.f241 .plain (mkA P_s_l2K d) = (T_s_l2K ).run fun r => some (O_s_l2K r) := fun d => by kernel_rfl
theorem fn_s_l2K : Fn Tryz.prog 241 .plain F_s_l2K := fn_of (cfgOk_of mixed tys_ok (show FnsOk Tryz.prog C_s_l2K from trivial)) Tryz.func241 (by kernel_rfl) (by kernel_rfl) (fun cx b hp hb => all_of (by kernel_rfl : loopsOf (Tryz.f241.body.getD .skip) = []) trivial b hb) (R := ((List YI) × Unit)) (T := fun (d : aden P_s_l2K) => T_s_l2K ) e_s_l2K
def P_s_GetN : List (Bool × List Sh) := [(false, [.sl 5 [.int .u8]]), (false, [.int .i64]), (false, [.int .i64])]
def O_s_GetN (r : (YI) × (YI) × (Bool × Unit)) : List RV × List RV := ([rv (false, [.int .i64]) r.1, rv (false, [.int .i64]) r.2.1, rv (false, [.bool]) r.2.2], [])
def C_s_GetN : Fns := []
def F_s_GetN : Fun1 := funV P_s_GetN (fun d => (T_s_GetN d.1 d.2.1 d.2.2.1).val) O_s_GetN
def K_s_GetN_5 : Sk := ⟨[(0, .v false [(.sl 5 [.int .u8], .ro)]), (1, .v false [(.int .i64, .nil)]), (2, .v false [(.int .i64, .nil)]), (9, .v false [(.int .i64, .nil)]), (10, .v false [(.int .i64, .nil)])], [], []⟩
def X_s_GetN_5 : List (Ex × Sk) := [((.exit 0), ⟨[(1, .v false [(.int .i64, .nil)]), (2, .v false [(.int .i64, .nil)]), (9, .v false [(.int .i64, .nil)])], [], []⟩)]
def Q_s_GetN : Loops := fun i st => cond (Nat.beq i 5) (lam K_s_GetN_5 6000000 X_s_GetN_5 B_s_GetN_5 st) <| .fail
theorem lp_s_GetN_5 : ∀ d, bod ⟨lookT tys, ctrOf C_s_GetN, kindOf C_s_GetN, 3, 4⟩ 0 Tryz.f249.ntmps Q_s_GetN (nthLoop Tryz.f249 0) K_s_GetN_5 6000000 X_s_GetN_5 d = B_s_GetN_5 d := fun d => by kernel_rfl
theorem lo_s_GetN_5 (cx : Cx) (hp : cx.pin.length ≤ 0) : LoopOk Tryz.prog cx Tryz.f249.ntmps Q_s_GetN (nthLoop Tryz.f249 0) := loop_of (cfgOk_of mixed tys_ok (show FnsOk Tryz.prog C_s_GetN from trivial)) hp (all_of (by kernel_rfl : loopsOf (nthLoop Tryz.f249 0) = []) trivial) (by kernel_rfl) lp_s_GetN_5
theorem e_s_GetN : ∀ d, pcall ⟨lookT tys, ctrOf C_s_GetN, kindOf C_s_GetN, 3, 4⟩ 0 Q_s_GetN Tryz.f249 .plain (mkA P_s_GetN d) = (T_s_GetN d.1 d.2.1 d.2.2.1).run fun r => some (O_s_GetN r) := fun d => by kernel_rfl
theorem fn_s_GetN : Fn Tryz.prog 249 .plain F_s_GetN := fn_of (cfgOk_of mixed tys_ok (show FnsOk Tryz.prog C_s_GetN from trivial)) Tryz.func249 (by kernel_rfl) (by kernel_rfl) (fun cx b hp hb => all_of (by kernel_rfl : loopsOf (Tryz.f249.body.getD .skip) = [nthLoop Tryz.f249 0]) ⟨lo_s_GetN_5 cx hp, trivial⟩ b hb) (R := (YI) × (YI) × (Bool × Unit)) (T := fun (d : aden P_s_GetN) => T_s_GetN d.1 d.2.1 d.2.2.1) e_s_GetN
def P_s_Rot : List (Bool × List Sh) := [(false, [.int .i64]), (false, [.int .i64])]
def O_s_Rot (r : (YI)) : List RV × List RV := ([rv (false, [.int .i64]) r], [])
def C_s_Rot : Fns := []
def F_s_Rot : Fun1 := funV P_s_Rot (fun d => (T_s_Rot d.1 d.2.1).val) O_s_Rot
def Q_s_Rot : Loops := fun _ _ => .fail
theorem e_s_Rot : ∀ d, pcall ⟨lookT tys, ctrOf C_s_Rot, kindOf C_s_Rot, 3, 4⟩ 0 Q_s_Rot Tryz.f243 .plain (mkA P_s_Rot d) = (T_s_Rot d.1 d.2.1).run fun r => some (O_s_Rot r) := fun d => by kernel_rfl
theorem fn_s_Rot : Fn Tryz.prog 243 .plain F_s_Rot := fn_of (cfgOk_of mixed tys_ok (show FnsOk Tryz.prog C_s_Rot from trivial)) Tryz.func243 (by kernel_rfl) (by kernel_rfl) (fun cx b hp hb => all_of (by kernel_rfl : loopsOf (Tryz.f243.body.getD .skip) = []) trivial b hb) (R := (YI)) (T := fun (d : aden P_s_Rot) => T_s_Rot d.1 d.2.1) e_s_Rot
def P_s_Schedule : List (Bool × List Sh) := [(false, [.sl 5 [.int .u8]])]
def O_s_Schedule (r : ((List YI) × Unit)) : List RV × List RV := ([rv (false, [.sl 3 [.int .i64]]) r], [])
def C_s_Schedule : Fns := [(249, .plain, F_s_GetN), (243, .plain, F_s_Rot)]
def F_s_Schedule : Fun1 := funV P_s_Schedule (fun d => (T_s_Schedule d.1).val) O_s_Schedule
def K_s_Schedule_10 : Sk := ⟨[(3, .v false [(.sl 3 [.int .i64], (.own 11000000))]), (8, .v false [(.int .i64, .nil)])], [], [11000000]⟩
def X_s_Schedule_10 : List (Ex × Sk) := [((.exit 2), ⟨[(3, .v false [(.sl 3 [.int .i64], (.own 11000000))])], [], [11000000]⟩)]
def K_s_Schedule_5 : Sk := ⟨[(0, .v false [(.sl 5 [.int .u8], .ro)]), (3, .v false [(.sl 3 [.int .i64], (.own 6000000))]), (4, .v false [(.int .i64, .nil)])], [], [6000000]⟩
def X_s_Schedule_5 : List (Ex × Sk) := [((.exit 0), ⟨[(3, .v false [(.sl 3 [.int .i64], (.own 6000000))])], [], [6000000]⟩)]
def Q_s_Schedule : Loops := fun i st => cond (Nat.beq i 5) (lam K_s_Schedule_5 6000000 X_s_Schedule_5 B_s_Schedule_5 st) <| cond (Nat.beq i 10) (lam K_s_Schedule_10 11000000 X_s_Schedule_10 B_s_Schedule_10 st) <| .fail
theorem lp_s_Schedule_5 : ∀ d, bod ⟨lookT tys, ctrOf C_s_Schedule, kindOf C_s_Schedule, 3, 4⟩ 0 Tryz.f242.ntmps Q_s_Schedule (nthLoop Tryz.f242 0) K_s_Schedule_5 6000000 X_s_Schedule_5 d = B_s_Schedule_5 d := fun d => by kernel_rfl
theorem lo_s_Schedule_5 (cx : Cx) (hp : cx.pin.length ≤ 0) : LoopOk Tryz.prog cx Tryz.f242.ntmps Q_s_Schedule (nthLoop Tryz.f242 0) := loop_of (cfgOk_of mixed tys_ok (show FnsOk Tryz.prog C_s_Schedule from ⟨fn_s_GetN, fn_s_Rot, trivial⟩)) hp (all_of (by kernel_rfl : loopsOf (nthLoop Tryz.f242 0) = []) trivial) (by kernel_rfl) lp_s_Schedule_5
theorem lp_s_Schedule_10 : ∀ d, bod ⟨lookT tys, ctrOf C_s_Schedule, kindOf C_s_Schedule, 3, 4⟩ 0 Tryz.f242.ntmps Q_s_Schedule (nthLoop Tryz.f242 1) K_s_Schedule_10 11000000 X_s_Schedule_10 d = B_s_Schedule_10 d := fun d => by kernel_rfl
theorem lo_s_Schedule_10 (cx : Cx) (hp : cx.pin.length ≤ 0) : LoopOk Tryz.prog cx Tryz.f242.ntmps Q_s_Schedule (nthLoop Tryz.f242 1) := loop_of (cfgOk_of mixed tys_ok (show FnsOk Tryz.prog C_s_Schedule from ⟨fn_s_GetN, fn_s_Rot, trivial⟩)) hp (all_of (by kernel_rfl : loopsOf (nthLoop Tryz.f242 1) = []) trivial) (by kernel_rfl) lp_s_Schedule_10
theorem e_s_Schedule : ∀ d, pcall ⟨lookT tys, ctrOf C_s_Schedule, kindOf C_s_Schedule, 3, 4⟩ 0 Q_s_Schedule Tryz.f242 .plain (mkA P_s_Schedule d) = (T_s_Schedule d.1).run fun r => some (O_s_Schedule r) := fun d => by kernel_rfl
theorem fn_s_Schedule : Fn Tryz.prog 242 .plain F_s_Schedule := fn_of (cfgOk_of mixed tys_ok (show FnsOk Tryz.prog C_s_Schedule from ⟨fn_s_GetN, fn_s_Rot, trivial⟩)) Tryz.func242 (by kernel_rfl) (by kernel_rfl) (fun cx b hp hb => all_of (by kernel_rfl : loopsOf (Tryz.f242.body.getD .skip) = [nthLoop Tryz.f242 0, nthLoop Tryz.f242 1]) ⟨lo_s_Schedule_5 cx hp, lo_s_Schedule_10 cx hp, trivial⟩ b hb) (R := ((List YI) × Unit)) (T := fun (d : aden P_s_Schedule) => T_s_Schedule d.1) e_s_Schedule
def P_s_Compress : List (Bool × List Sh) := [(false, [.sl 3 [.int .i64]]), (false, [.sl 5 [.int .u8]])]
def O_s_Compress (r : ((List YI) × Unit)) : List RV × List RV := ([rv (false, [.sl 3 [.int .i64]]) r], [])
def C_s_Compress : Fns := [(240, .plain, F_s_l2Words), (241, .plain, F_s_l2K), (242, .plain, F_s_Schedule), (243, .plain, F_s_Rot)]
def F_s_Compress : Fun1 := funV P_s_Compress (fun d => (T_s_Compress d.1 d.2.1).val) O_s_Compress
def K_s_Compress_22 : Sk := ⟨[(0, .v false [(.sl 3 [.int .i64], .ro)]), (5, .v false [(.sl 3 [.int .i64], (.own 23000000))]), (19, .v false [(.sl 3 [.int .i64], (.own 23000001))]), (20, .v false [(.int .i64, .nil)])], [], [23000000, 23000001]⟩
def X_s_Compress_22 : List (Ex × Sk) := [((.exit 2), ⟨[(5, .v false [(.sl 3 [.int .i64], (.own 23000000))])], [], [23000000]⟩)]
def K_s_Compress_8 : Sk := ⟨[(0, .v false [(.sl 3 [.int .i64], .ro)]), (5, .v false [(.sl 3 [.int .i64], (.own 9000000))]), (6, .v false [(.sl 3 [.int .i64], (.own 9000001))]), (7, .v false [(.sl 3 [.int .i64], (.own 9000002))]), (8, .v false [(.int .i64, .nil)]), (9, .v false [(.int .i64, .nil)]), (10, .v false [(.int .i64, .nil)]), (11, .v false [(.int .i64, .nil)]), (12, .v false [(.int .i64, .nil)]), (13, .v false [(.int .i64, .nil)]), (14, .v false [(.int .i64, .nil)]), (15, .v false [(.int .i64, .nil)]), (16, .v false [(.int .i64, .nil)])], [], [9000000, 9000001, 9000002]⟩
def X_s_Compress_8 : List (Ex × Sk) := [((.exit 0), ⟨[(0, .v false [(.sl 3 [.int .i64], .ro)]), (5, .v false [(.sl 3 [.int .i64], (.own 9000000))]), (8, .v false [(.int .i64, .nil)]), (9, .v false [(.int .i64, .nil)]), (10, .v false [(.int .i64, .nil)]), (11, .v false [(.int .i64, .nil)]), (12, .v false [(.int .i64, .nil)]), (13, .v false [(.int .i64, .nil)]), (14, .v false [(.int .i64, .nil)]), (15, .v false [(.int .i64, .nil)])], [], [9000000]⟩)]
def Q_s_Compress : Loops := fun i st => cond (Nat.beq i 8) (lam K_s_Compress_8 9000000 X_s_Compress_8 B_s_Compress_8 st) <| cond (Nat.beq i 22) (lam K_s_Compress_22 23000000 X_s_Compress_22 B_s_Compress_22 st) <| .fail
theorem lp_s_Compress_8 : ∀ d, bod ⟨lookT tys, ctrOf C_s_Compress, kindOf C_s_Compress, 3, 4⟩ 0 Tryz.f235.ntmps Q_s_Compress (nthLoop Tryz.f235 0) K_s_Compress_8 9000000 X_s_Compress_8 d = B_s_Compress_8 d := fun d => by kernel_rfl
theorem lo_s_Compress_8 (cx : Cx) (hp : cx.pin.length ≤ 0) : LoopOk Tryz.prog cx Tryz.f235.ntmps Q_s_Compress (nthLoop Tryz.f235 0) := loop_of (cfgOk_of mixed tys_ok (show FnsOk Tryz.prog C_s_Compress from ⟨fn_s_l2Words, fn_s_l2K, fn_s_Schedule, fn_s_Rot, trivial⟩)) hp (all_of (by kernel_rfl : loopsOf (nthLoop Tryz.f235 0) = []) trivial) (by kernel_rfl) lp_s_Compress_8
theorem lp_s_Compress_22 : ∀ d, bod ⟨lookT tys, ctrOf C_s_Compress, kindOf C_s_Compress, 3, 4⟩ 0 Tryz.f235.ntmps Q_s_Compress (nthLoop Tryz.f235 1) K_s_Compress_22 23000000 X_s_Compress_22 d = B_s_Compress_22 d := fun d => by kernel_rfl
theorem lo_s_Compress_22 (cx : Cx) (hp : cx.pin.length ≤ 0) : LoopOk Tryz.prog cx Tryz.f235.ntmps Q_s_Compress (nthLoop Tryz.f235 1) := loop_of (cfgOk_of mixed tys_ok (show FnsOk Tryz.prog C_s_Compress from ⟨fn_s_l2Words, fn_s_l2K, fn_s_Schedule, fn_s_Rot, trivial⟩)) hp (all_of (by kernel_rfl : loopsOf (nthLoop Tryz.f235 1) = []) trivial) (by kernel_rfl) lp_s_Compress_22
theorem e_s_Compress : ∀ d, pcall ⟨lookT tys, ctrOf C_s_Compress, kindOf C_s_Compress, 3, 4⟩ 0 Q_s_Compress Tryz.f235 .plain (mkA P_s_Compress d) = (T_s_Compress d.1 d.2.1).run fun r => some (O_s_Compress r) := fun d => by kernel_rfl
theorem fn_s_Compress : Fn Tryz.prog 235 .plain F_s_Compress := fn_of (cfgOk_of mixed tys_ok (show FnsOk Tryz.prog C_s_Compress from ⟨fn_s_l2Words, fn_s_l2K, fn_s_Schedule, fn_s_Rot, trivial⟩)) Tryz.func235 (by kernel_rfl) (by kernel_rfl) (fun cx b hp hb => all_of (by kernel_rfl : loopsOf (Tryz.f235.body.getD .skip) = [nthLoop Tryz.f235 0, nthLoop Tryz.f235 1]) ⟨lo_s_Compress_8 cx hp, lo_s_Compress_22 cx hp, trivial⟩ b hb) (R := ((List YI) × Unit)) (T := fun (d : aden P_s_Compress) => T_s_Compress d.1 d.2.1) e_s_Compress
def P_s_l2Out : List (Bool × List Sh) := [(false, [.sl 3 [.int .i64]])]
def O_s_l2Out (r : (YBs)) : List RV × List RV := ([rv (false, [.sl 5 [.int .u8]]) r], [])
def C_s_l2Out : Fns := [(211, .plain, F_s_PutN)]
def F_s_l2Out : Fun1 := funV P_s_l2Out (fun d => (T_s_l2Out d.1).val) O_s_l2Out
def K_s_l2Out_3 : Sk := ⟨[(0, .v false [(.sl 3 [.int .i64], .ro)]), (3, .v false [(.sl 5 [.int .u8], (.own 4000000))]), (4, .v false [(.int .i64, .nil)])], [], [4000000]⟩
def X_s_l2Out_3 : List (Ex × Sk) := [((.exit 0), ⟨[(3, .v false [(.sl 5 [.int .u8], (.own 4000000))])], [], [4000000]⟩)]
def Q_s_l2Out : Loops := fun i st => cond (Nat.beq i 3) (lam K_s_l2Out_3 4000000 X_s_l2Out_3 B_s_l2Out_3 st) <| .fail
theorem lp_s_l2Out_3 : ∀ d, bod ⟨lookT tys, ctrOf C_s_l2Out, kindOf C_s_l2Out, 3, 4⟩ 0 Tryz.f236.ntmps Q_s_l2Out (nthLoop Tryz.f236 0) K_s_l2Out_3 4000000 X_s_l2Out_3 d = B_s_l2Out_3 d := fun d => by kernel_rfl
theorem lo_s_l2Out_3 (cx : Cx) (hp : cx.pin.length ≤ 0) : LoopOk Tryz.prog cx Tryz.f236.ntmps Q_s_l2Out (nthLoop Tryz.f236 0) := loop_of (cfgOk_of mixed tys_ok (show FnsOk Tryz.prog C_s_l2Out from ⟨fn_s_PutN, trivial⟩)) hp (all_of (by kernel_rfl : loopsOf (nthLoop Tryz.f236 0) = []) trivial) (by kernel_rfl) lp_s_l2Out_3
theorem e_s_l2Out : ∀ d, pcall ⟨lookT tys, ctrOf C_s_l2Out, kindOf C_s_l2Out, 3, 4⟩ 0 Q_s_l2Out Tryz.f236 .plain (mkA P_s_l2Out d) = (T_s_l2Out d.1).run fun r => some (O_s_l2Out r) := fun d => by kernel_rfl
theorem fn_s_l2Out : Fn Tryz.prog 236 .plain F_s_l2Out := fn_of (cfgOk_of mixed tys_ok (show FnsOk Tryz.prog C_s_l2Out from ⟨fn_s_PutN, trivial⟩)) Tryz.func236 (by kernel_rfl) (by kernel_rfl) (fun cx b hp hb => all_of (by kernel_rfl : loopsOf (Tryz.f236.body.getD .skip) = [nthLoop Tryz.f236 0]) ⟨lo_s_l2Out_3 cx hp, trivial⟩ b hb) (R := (YBs)) (T := fun (d : aden P_s_l2Out) => T_s_l2Out d.1) e_s_l2Out
def P_s_Sha : List (Bool × List Sh) := [(false, [.sl 5 [.int .u8]])]
def O_s_Sha (r : (YBs)) : List RV × List RV := ([rv (false, [.sl 5 [.int .u8]]) r], [])
def C_s_Sha : Fns := [(233, .plain, F_s_Pad), (234, .plain, F_s_Start), (235, .plain, F_s_Compress), (236, .plain, F_s_l2Out)]
def F_s_Sha : Fun1 := funV P_s_Sha (fun d => (T_s_Sha d.1).val) O_s_Sha
def K_s_Sha_6 : Sk := ⟨[(3, .v false [(.sl 5 [.int .u8], (.own 7000000))]), (4, .v false [(.sl 3 [.int .i64], (.own 7000001))]), (5, .v false [(.int .i64, .nil)])], [], [7000000, 7000001]⟩
def X_s_Sha_6 : List (Ex × Sk) := [((.exit 0), ⟨[(4, .v false [(.sl 3 [.int .i64], (.own 7000000))])], [], [7000000]⟩)]
def Q_s_Sha : Loops := fun i st => cond (Nat.beq i 6) (lam K_s_Sha_6 7000000 X_s_Sha_6 B_s_Sha_6 st) <| .fail
theorem lp_s_Sha_6 : ∀ d, bod ⟨lookT tys, ctrOf C_s_Sha, kindOf C_s_Sha, 3, 4⟩ 0 Tryz.f226.ntmps Q_s_Sha (nthLoop Tryz.f226 0) K_s_Sha_6 7000000 X_s_Sha_6 d = B_s_Sha_6 d := fun d => by kernel_rfl
theorem lo_s_Sha_6 (cx : Cx) (hp : cx.pin.length ≤ 0) : LoopOk Tryz.prog cx Tryz.f226.ntmps Q_s_Sha (nthLoop Tryz.f226 0) := loop_of (cfgOk_of mixed tys_ok (show FnsOk Tryz.prog C_s_Sha from ⟨fn_s_Pad, fn_s_Start, fn_s_Compress, fn_s_l2Out, trivial⟩)) hp (all_of (by kernel_rfl : loopsOf (nthLoop Tryz.f226 0) = []) trivial) (by kernel_rfl) lp_s_Sha_6
theorem e_s_Sha : ∀ d, pcall ⟨lookT tys, ctrOf C_s_Sha, kindOf C_s_Sha, 3, 4⟩ 0 Q_s_Sha Tryz.f226 .plain (mkA P_s_Sha d) = (T_s_Sha d.1).run fun r => some (O_s_Sha r) := fun d => by kernel_rfl
theorem fn_s_Sha : Fn Tryz.prog 226 .plain F_s_Sha := fn_of (cfgOk_of mixed tys_ok (show FnsOk Tryz.prog C_s_Sha from ⟨fn_s_Pad, fn_s_Start, fn_s_Compress, fn_s_l2Out, trivial⟩)) Tryz.func226 (by kernel_rfl) (by kernel_rfl) (fun cx b hp hb => all_of (by kernel_rfl : loopsOf (Tryz.f226.body.getD .skip) = [nthLoop Tryz.f226 0]) ⟨lo_s_Sha_6 cx hp, trivial⟩ b hb) (R := (YBs)) (T := fun (d : aden P_s_Sha) => T_s_Sha d.1) e_s_Sha
def P_s_BlockKey : List (Bool × List Sh) := [(false, [.sl 5 [.int .u8]])]
def O_s_BlockKey (r : (YBs)) : List RV × List RV := ([rv (false, [.sl 5 [.int .u8]]) r], [])
def C_s_BlockKey : Fns := [(226, .plain, F_s_Sha)]
def F_s_BlockKey : Fun1 := funV P_s_BlockKey (fun d => (T_s_BlockKey d.1).val) O_s_BlockKey
def K_s_BlockKey_6 : Sk := ⟨[(3, .v false [(.sl 5 [.int .u8], (.own 7000000))])], [], [7000000]⟩
def X_s_BlockKey_6 : List (Ex × Sk) := [((.exit 0), ⟨[(3, .v false [(.sl 5 [.int .u8], (.own 7000000))])], [], [7000000]⟩)]
def Q_s_BlockKey : Loops := fun i st => cond (Nat.beq i 6) (lam K_s_BlockKey_6 7000000 X_s_BlockKey_6 B_s_BlockKey_6 st) <| .fail
theorem lp_s_BlockKey_6 : ∀ d, bod ⟨lookT tys, ctrOf C_s_BlockKey, kindOf C_s_BlockKey, 3, 4⟩ 0 Tryz.f225.ntmps Q_s_BlockKey (nthLoop Tryz.f225 0) K_s_BlockKey_6 7000000 X_s_BlockKey_6 d = B_s_BlockKey_6 d := fun d => by kernel_rfl
theorem lo_s_BlockKey_6 (cx : Cx) (hp : cx.pin.length ≤ 0) : LoopOk Tryz.prog cx Tryz.f225.ntmps Q_s_BlockKey (nthLoop Tryz.f225 0) := loop_of (cfgOk_of mixed tys_ok (show FnsOk Tryz.prog C_s_BlockKey from ⟨fn_s_Sha, trivial⟩)) hp (all_of (by kernel_rfl : loopsOf (nthLoop Tryz.f225 0) = []) trivial) (by kernel_rfl) lp_s_BlockKey_6
theorem e_s_BlockKey : ∀ d, pcall ⟨lookT tys, ctrOf C_s_BlockKey, kindOf C_s_BlockKey, 3, 4⟩ 0 Q_s_BlockKey Tryz.f225 .plain (mkA P_s_BlockKey d) = (T_s_BlockKey d.1).run fun r => some (O_s_BlockKey r) := fun d => by kernel_rfl
theorem fn_s_BlockKey : Fn Tryz.prog 225 .plain F_s_BlockKey := fn_of (cfgOk_of mixed tys_ok (show FnsOk Tryz.prog C_s_BlockKey from ⟨fn_s_Sha, trivial⟩)) Tryz.func225 (by kernel_rfl) (by kernel_rfl) (fun cx b hp hb => all_of (by kernel_rfl : loopsOf (Tryz.f225.body.getD .skip) = [nthLoop Tryz.f225 0]) ⟨lo_s_BlockKey_6 cx hp, trivial⟩ b hb) (R := (YBs)) (T := fun (d : aden P_s_BlockKey) => T_s_BlockKey d.1) e_s_BlockKey
def P_s_Hmac : List (Bool × List Sh) := [(false, [.sl 5 [.int .u8]]), (false, [.sl 5 [.int .u8]])]
def O_s_Hmac (r : (YBs)) : List RV × List RV := ([rv (false, [.sl 5 [.int .u8]]) r], [])
def C_s_Hmac : Fns := [(225, .plain, F_s_BlockKey), (226, .plain, F_s_Sha)]
def F_s_Hmac : Fun1 := funV P_s_Hmac (fun d => (T_s_Hmac d.1 d.2.1).val) O_s_Hmac
def K_s_Hmac_7 : Sk := ⟨[(1, .v false [(.sl 5 [.int .u8], .ro)]), (5, .v false [(.sl 5 [.int .u8], (.own 8000000))]), (6, .v false [(.sl 5 [.int .u8], (.own 8000001))]), (7, .v false [(.sl 5 [.int .u8], (.own 8000002))]), (8, .v false [(.int .i64, .nil)])], [], [8000000, 8000001, 8000002]⟩
def X_s_Hmac_7 : List (Ex × Sk) := [((.exit 0), ⟨[(1, .v false [(.sl 5 [.int .u8], .ro)]), (6, .v false [(.sl 5 [.int .u8], (.own 8000000))]), (7, .v false [(.sl 5 [.int .u8], (.own 8000001))])], [], [8000000, 8000001]⟩)]
def Q_s_Hmac : Loops := fun i st => cond (Nat.beq i 7) (lam K_s_Hmac_7 8000000 X_s_Hmac_7 B_s_Hmac_7 st) <| .fail
theorem lp_s_Hmac_7 : ∀ d, bod ⟨lookT tys, ctrOf C_s_Hmac, kindOf C_s_Hmac, 3, 4⟩ 0 Tryz.f210.ntmps Q_s_Hmac (nthLoop Tryz.f210 0) K_s_Hmac_7 8000000 X_s_Hmac_7 d = B_s_Hmac_7 d := fun d => by kernel_rfl
theorem lo_s_Hmac_7 (cx : Cx) (hp : cx.pin.length ≤ 0) : LoopOk Tryz.prog cx Tryz.f210.ntmps Q_s_Hmac (nthLoop Tryz.f210 0) := loop_of (cfgOk_of mixed tys_ok (show FnsOk Tryz.prog C_s_Hmac from ⟨fn_s_BlockKey, fn_s_Sha, trivial⟩)) hp (all_of (by kernel_rfl : loopsOf (nthLoop Tryz.f210 0) = []) trivial) (by kernel_rfl) lp_s_Hmac_7
theorem e_s_Hmac : ∀ d, pcall ⟨lookT tys, ctrOf C_s_Hmac, kindOf C_s_Hmac, 3, 4⟩ 0 Q_s_Hmac Tryz.f210 .plain (mkA P_s_Hmac d) = (T_s_Hmac d.1 d.2.1).run fun r => some (O_s_Hmac r) := fun d => by kernel_rfl
theorem fn_s_Hmac : Fn Tryz.prog 210 .plain F_s_Hmac := fn_of (cfgOk_of mixed tys_ok (show FnsOk Tryz.prog C_s_Hmac from ⟨fn_s_BlockKey, fn_s_Sha, trivial⟩)) Tryz.func210 (by kernel_rfl) (by kernel_rfl) (fun cx b hp hb => all_of (by kernel_rfl : loopsOf (Tryz.f210.body.getD .skip) = [nthLoop Tryz.f210 0]) ⟨lo_s_Hmac_7 cx hp, trivial⟩ b hb) (R := (YBs)) (T := fun (d : aden P_s_Hmac) => T_s_Hmac d.1 d.2.1) e_s_Hmac
def P_s_Extract : List (Bool × List Sh) := [(false, [.sl 5 [.int .u8]]), (false, [.sl 5 [.int .u8]])]
def O_s_Extract (r : (YBs)) : List RV × List RV := ([rv (false, [.sl 5 [.int .u8]]) r], [])
def C_s_Extract : Fns := [(210, .plain, F_s_Hmac)]
def F_s_Extract : Fun1 := funV P_s_Extract (fun d => (T_s_Extract d.1 d.2.1).val) O_s_Extract
def Q_s_Extract : Loops := fun _ _ => .fail
theorem e_s_Extract : ∀ d, pcall ⟨lookT tys, ctrOf C_s_Extract, kindOf C_s_Extract, 3, 4⟩ 0 Q_s_Extract Tryz.f205 .plain (mkA P_s_Extract d) = (T_s_Extract d.1 d.2.1).run fun r => some (O_s_Extract r) := fun d => by kernel_rfl
theorem fn_s_Extract : Fn Tryz.prog 205 .plain F_s_Extract := fn_of (cfgOk_of mixed tys_ok (show FnsOk Tryz.prog C_s_Extract from ⟨fn_s_Hmac, trivial⟩)) Tryz.func205 (by kernel_rfl) (by kernel_rfl) (fun cx b hp hb => all_of (by kernel_rfl : loopsOf (Tryz.f205.body.getD .skip) = []) trivial b hb) (R := (YBs)) (T := fun (d : aden P_s_Extract) => T_s_Extract d.1 d.2.1) e_s_Extract
def P_s_RootKey : List (Bool × List Sh) := [(false, [.sl 5 [.int .u8]]), (false, [.sl 5 [.int .u8]]), (false, [.sl 5 [.int .u8]])]
def O_s_RootKey (r : (YBs)) : List RV × List RV := ([rv (false, [.sl 5 [.int .u8]]) r], [])
def C_s_RootKey : Fns := [(81, .plain, F_s_PskOk), (205, .plain, F_s_Extract)]
def F_s_RootKey : Fun1 := funV P_s_RootKey (fun d => (T_s_RootKey d.1 d.2.1 d.2.2.1).val) O_s_RootKey
def Q_s_RootKey : Loops := fun _ _ => .fail
theorem e_s_RootKey : ∀ d, pcall ⟨lookT tys, ctrOf C_s_RootKey, kindOf C_s_RootKey, 3, 4⟩ 0 Q_s_RootKey Tryz.f159 .plain (mkA P_s_RootKey d) = (T_s_RootKey d.1 d.2.1 d.2.2.1).run fun r => some (O_s_RootKey r) := fun d => by kernel_rfl
theorem fn_s_RootKey : Fn Tryz.prog 159 .plain F_s_RootKey := fn_of (cfgOk_of mixed tys_ok (show FnsOk Tryz.prog C_s_RootKey from ⟨fn_s_PskOk, fn_s_Extract, trivial⟩)) Tryz.func159 (by kernel_rfl) (by kernel_rfl) (fun cx b hp hb => all_of (by kernel_rfl : loopsOf (Tryz.f159.body.getD .skip) = []) trivial b hb) (R := (YBs)) (T := fun (d : aden P_s_RootKey) => T_s_RootKey d.1 d.2.1 d.2.2.1) e_s_RootKey
def P_s_Expand : List (Bool × List Sh) := [(false, [.sl 5 [.int .u8]]), (false, [.sl 5 [.int .u8]]), (false, [.int .i64])]
def O_s_Expand (r : (YBs) × (Bool × Unit)) : List RV × List RV := ([rv (false, [.sl 5 [.int .u8]]) r.1, rv (false, [.bool]) r.2], [])
def C_s_Expand : Fns := [(60, .plain, F_s_l1In), (210, .plain, F_s_Hmac)]
def F_s_Expand : Fun1 := funV P_s_Expand (fun d => (T_s_Expand d.1 d.2.1 d.2.2.1).val) O_s_Expand
def K_s_Expand_6 : Sk := ⟨[(0, .v false [(.sl 5 [.int .u8], .ro)]), (1, .v false [(.sl 5 [.int .u8], .ro)]), (2, .v false [(.int .i64, .nil)]), (8, .v false [(.sl 5 [.int .u8], (.own 7000000))]), (9, .v false [(.sl 5 [.int .u8], (.own 7000001))]), (10, .v false [(.int .i64, .nil)])], [], [7000000, 7000001]⟩
def X_s_Expand_6 : List (Ex × Sk) := [((.exit 0), ⟨[(2, .v false [(.int .i64, .nil)]), (8, .v false [(.sl 5 [.int .u8], (.own 7000000))])], [], [7000000]⟩)]
def Q_s_Expand : Loops := fun i st => cond (Nat.beq i 6) (lam K_s_Expand_6 7000000 X_s_Expand_6 B_s_Expand_6 st) <| .fail
theorem lp_s_Expand_6 : ∀ d, bod ⟨lookT tys, ctrOf C_s_Expand, kindOf C_s_Expand, 3, 4⟩ 0 Tryz.f212.ntmps Q_s_Expand (nthLoop Tryz.f212 0) K_s_Expand_6 7000000 X_s_Expand_6 d = B_s_Expand_6 d := fun d => by kernel_rfl
theorem lo_s_Expand_6 (cx : Cx) (hp : cx.pin.length ≤ 0) : LoopOk Tryz.prog cx Tryz.f212.ntmps Q_s_Expand (nthLoop Tryz.f212 0) := loop_of (cfgOk_of mixed tys_ok (show FnsOk Tryz.prog C_s_Expand from ⟨fn_s_l1In, fn_s_Hmac, trivial⟩)) hp (all_of (by kernel_rfl : loopsOf (nthLoop Tryz.f212 0) = []) trivial) (by kernel_rfl) lp_s_Expand_6
theorem e_s_Expand : ∀ d, pcall ⟨lookT tys, ctrOf C_s_Expand, kindOf C_s_Expand, 3, 4⟩ 0 Q_s_Expand Tryz.f212 .plain (mkA P_s_Expand d) = (T_s_Expand d.1 d.2.1 d.2.2.1).run fun r => some (O_s_Expand r) := fun d => by kernel_rfl
theorem fn_s_Expand : Fn Tryz.prog 212 .plain F_s_Expand := fn_of (cfgOk_of mixed tys_ok (show FnsOk Tryz.prog C_s_Expand from ⟨fn_s_l1In, fn_s_Hmac, trivial⟩)) Tryz.func212 (by kernel_rfl) (by kernel_rfl) (fun cx b hp hb => all_of (by kernel_rfl : loopsOf (Tryz.f212.body.getD .skip) = [nthLoop Tryz.f212 0]) ⟨lo_s_Expand_6 cx hp, trivial⟩ b hb) (R := (YBs) × (Bool × Unit)) (T := fun (d : aden P_s_Expand) => T_s_Expand d.1 d.2.1 d.2.2.1) e_s_Expand
def P_s_Derive : List (Bool × List Sh) := [(false, [.sl 5 [.int .u8]]), (false, [.str])]
def O_s_Derive (r : (YBs)) : List RV × List RV := ([rv (false, [.sl 5 [.int .u8]]) r], [])
def C_s_Derive : Fns := [(212, .plain, F_s_Expand)]
def F_s_Derive : Fun1 := funV P_s_Derive (fun d => (T_s_Derive d.1 d.2.1).val) O_s_Derive
def Q_s_Derive : Loops := fun _ _ => .fail
theorem e_s_Derive : ∀ d, pcall ⟨lookT tys, ctrOf C_s_Derive, kindOf C_s_Derive, 3, 4⟩ 0 Q_s_Derive Tryz.f179 .plain (mkA P_s_Derive d) = (T_s_Derive d.1 d.2.1).run fun r => some (O_s_Derive r) := fun d => by kernel_rfl
theorem fn_s_Derive : Fn Tryz.prog 179 .plain F_s_Derive := fn_of (cfgOk_of mixed tys_ok (show FnsOk Tryz.prog C_s_Derive from ⟨fn_s_Expand, trivial⟩)) Tryz.func179 (by kernel_rfl) (by kernel_rfl) (fun cx b hp hb => all_of (by kernel_rfl : loopsOf (Tryz.f179.body.getD .skip) = []) trivial b hb) (R := (YBs)) (T := fun (d : aden P_s_Derive) => T_s_Derive d.1 d.2.1) e_s_Derive
def P_s_FirstKey : List (Bool × List Sh) := [(false, [.sl 5 [.int .u8]])]
def O_s_FirstKey (r : (YBs)) : List RV × List RV := ([rv (false, [.sl 5 [.int .u8]]) r], [])
def C_s_FirstKey : Fns := [(179, .plain, F_s_Derive)]
def F_s_FirstKey : Fun1 := funV P_s_FirstKey (fun d => (T_s_FirstKey d.1).val) O_s_FirstKey
def Q_s_FirstKey : Loops := fun _ _ => .fail
theorem e_s_FirstKey : ∀ d, pcall ⟨lookT tys, ctrOf C_s_FirstKey, kindOf C_s_FirstKey, 3, 4⟩ 0 Q_s_FirstKey Tryz.f158 .plain (mkA P_s_FirstKey d) = (T_s_FirstKey d.1).run fun r => some (O_s_FirstKey r) := fun d => by kernel_rfl
theorem fn_s_FirstKey : Fn Tryz.prog 158 .plain F_s_FirstKey := fn_of (cfgOk_of mixed tys_ok (show FnsOk Tryz.prog C_s_FirstKey from ⟨fn_s_Derive, trivial⟩)) Tryz.func158 (by kernel_rfl) (by kernel_rfl) (fun cx b hp hb => all_of (by kernel_rfl : loopsOf (Tryz.f158.body.getD .skip) = []) trivial b hb) (R := (YBs)) (T := fun (d : aden P_s_FirstKey) => T_s_FirstKey d.1) e_s_FirstKey
def P_s_Chain : List (Bool × List Sh) := [(false, [.sl 5 [.int .u8]]), (false, [.int .i64])]
def O_s_Chain (r : (YBs)) : List RV × List RV := ([rv (false, [.sl 5 [.int .u8]]) r], [])
def C_s_Chain : Fns := [(60, .plain, F_s_l1In), (179, .plain, F_s_Derive)]
def F_s_Chain : Fun1 := funV P_s_Chain (fun d => (T_s_Chain d.1 d.2.1).val) O_s_Chain
def K_s_Chain_5 : Sk := ⟨[(1, .v false [(.int .i64, .nil)]), (5, .v false [(.sl 5 [.int .u8], (.own 6000000))]), (6, .v false [(.int .i64, .nil)])], [], [6000000]⟩
def X_s_Chain_5 : List (Ex × Sk) := [((.exit 0), ⟨[(5, .v false [(.sl 5 [.int .u8], (.own 6000000))])], [], [6000000]⟩)]
def Q_s_Chain : Loops := fun i st => cond (Nat.beq i 5) (lam K_s_Chain_5 6000000 X_s_Chain_5 B_s_Chain_5 st) <| .fail
theorem lp_s_Chain_5 : ∀ d, bod ⟨lookT tys, ctrOf C_s_Chain, kindOf C_s_Chain, 3, 4⟩ 0 Tryz.f160.ntmps Q_s_Chain (nthLoop Tryz.f160 0) K_s_Chain_5 6000000 X_s_Chain_5 d = B_s_Chain_5 d := fun d => by kernel_rfl
theorem lo_s_Chain_5 (cx : Cx) (hp : cx.pin.length ≤ 0) : LoopOk Tryz.prog cx Tryz.f160.ntmps Q_s_Chain (nthLoop Tryz.f160 0) := loop_of (cfgOk_of mixed tys_ok (show FnsOk Tryz.prog C_s_Chain from ⟨fn_s_l1In, fn_s_Derive, trivial⟩)) hp (all_of (by kernel_rfl : loopsOf (nthLoop Tryz.f160 0) = []) trivial) (by kernel_rfl) lp_s_Chain_5
theorem e_s_Chain : ∀ d, pcall ⟨lookT tys, ctrOf C_s_Chain, kindOf C_s_Chain, 3, 4⟩ 0 Q_s_Chain Tryz.f160 .plain (mkA P_s_Chain d) = (T_s_Chain d.1 d.2.1).run fun r => some (O_s_Chain r) := fun d => by kernel_rfl
theorem fn_s_Chain : Fn Tryz.prog 160 .plain F_s_Chain := fn_of (cfgOk_of mixed tys_ok (show FnsOk Tryz.prog C_s_Chain from ⟨fn_s_l1In, fn_s_Derive, trivial⟩)) Tryz.func160 (by kernel_rfl) (by kernel_rfl) (fun cx b hp hb => all_of (by kernel_rfl : loopsOf (Tryz.f160.body.getD .skip) = [nthLoop Tryz.f160 0]) ⟨lo_s_Chain_5 cx hp, trivial⟩ b hb) (R := (YBs)) (T := fun (d : aden P_s_Chain) => T_s_Chain d.1 d.2.1) e_s_Chain
def P_s_EpochKey : List (Bool × List Sh) := [(false, [.sl 5 [.int .u8]]), (false, [.sl 5 [.int .u8]]), (false, [.sl 5 [.int .u8]]), (false, [.int .i64])]
def O_s_EpochKey (r : (YBs)) : List RV × List RV := ([rv (false, [.sl 5 [.int .u8]]) r], [])
def C_s_EpochKey : Fns := [(159, .plain, F_s_RootKey), (158, .plain, F_s_FirstKey), (160, .plain, F_s_Chain)]
def F_s_EpochKey : Fun1 := funV P_s_EpochKey (fun d => (T_s_EpochKey d.1 d.2.1 d.2.2.1 d.2.2.2.1).val) O_s_EpochKey
def Q_s_EpochKey : Loops := fun _ _ => .fail
theorem e_s_EpochKey : ∀ d, pcall ⟨lookT tys, ctrOf C_s_EpochKey, kindOf C_s_EpochKey, 3, 4⟩ 0 Q_s_EpochKey Tryz.f85 .plain (mkA P_s_EpochKey d) = (T_s_EpochKey d.1 d.2.1 d.2.2.1 d.2.2.2.1).run fun r => some (O_s_EpochKey r) := fun d => by kernel_rfl
theorem fn_s_EpochKey : Fn Tryz.prog 85 .plain F_s_EpochKey := fn_of (cfgOk_of mixed tys_ok (show FnsOk Tryz.prog C_s_EpochKey from ⟨fn_s_RootKey, fn_s_FirstKey, fn_s_Chain, trivial⟩)) Tryz.func85 (by kernel_rfl) (by kernel_rfl) (fun cx b hp hb => all_of (by kernel_rfl : loopsOf (Tryz.f85.body.getD .skip) = []) trivial b hb) (R := (YBs)) (T := fun (d : aden P_s_EpochKey) => T_s_EpochKey d.1 d.2.1 d.2.2.1 d.2.2.2.1) e_s_EpochKey
def P_s_WinNew : List (Bool × List Sh) := []
def O_s_WinNew (r : (YWin)) : List RV × List RV := ([rv (true, [.int .i64, .sl 3 [.int .i64]]) r], [])
def C_s_WinNew : Fns := []
def F_s_WinNew : Fun1 := funV P_s_WinNew (fun d => (T_s_WinNew ).val) O_s_WinNew
def K_s_WinNew_3 : Sk := ⟨[(0, .box 0 0), (1, .box 1 0), (2, .v false [(.int .i64, .nil)])], [(0, [(.int .i64, .nil), (.sl 3 [.int .i64], (.own 4000000))]), (1, [(.int .i64, .nil), (.sl 3 [.int .i64], (.own 4000001))])], [4000000, 4000001]⟩
def X_s_WinNew_3 : List (Ex × Sk) := [((.exit 0), ⟨[(0, .box 0 0), (1, .box 1 0)], [(0, [(.int .i64, .nil), (.sl 3 [.int .i64], (.own 4000000))]), (1, [(.int .i64, .nil), (.sl 3 [.int .i64], (.own 4000001))])], [4000000, 4000001]⟩)]
def Q_s_WinNew : Loops := fun i st => cond (Nat.beq i 3) (lam K_s_WinNew_3 4000000 X_s_WinNew_3 B_s_WinNew_3 st) <| .fail
theorem lp_s_WinNew_3 : ∀ d, bod ⟨lookT tys, ctrOf C_s_WinNew, kindOf C_s_WinNew, 3, 4⟩ 0 Tryz.f204.ntmps Q_s_WinNew (nthLoop Tryz.f204 0) K_s_WinNew_3 4000000 X_s_WinNew_3 d = B_s_WinNew_3 d := fun d => by kernel_rfl
theorem lo_s_WinNew_3 (cx : Cx) (hp : cx.pin.length ≤ 0) : LoopOk Tryz.prog cx Tryz.f204.ntmps Q_s_WinNew (nthLoop Tryz.f204 0) := loop_of (cfgOk_of mixed tys_ok (show FnsOk Tryz.prog C_s_WinNew from trivial)) hp (all_of (by kernel_rfl : loopsOf (nthLoop Tryz.f204 0) = []) trivial) (by kernel_rfl) lp_s_WinNew_3
theorem e_s_WinNew : ∀ d, pcall ⟨lookT tys, ctrOf C_s_WinNew, kindOf C_s_WinNew, 3, 4⟩ 0 Q_s_WinNew Tryz.f204 .plain (mkA P_s_WinNew d) = (T_s_WinNew ).run fun r => some (O_s_WinNew r) := fun d => by kernel_rfl
theorem fn_s_WinNew : Fn Tryz.prog 204 .plain F_s_WinNew := fn_of (cfgOk_of mixed tys_ok (show FnsOk Tryz.prog C_s_WinNew from trivial)) Tryz.func204 (by kernel_rfl) (by kernel_rfl) (fun cx b hp hb => all_of (by kernel_rfl : loopsOf (Tryz.f204.body.getD .skip) = [nthLoop Tryz.f204 0]) ⟨lo_s_WinNew_3 cx hp, trivial⟩ b hb) (R := (YWin)) (T := fun (d : aden P_s_WinNew) => T_s_WinNew ) e_s_WinNew
def P_s_EpNew : List (Bool × List Sh) := [(false, [.int .i64]), (false, [.sl 5 [.int .u8]])]
def O_s_EpNew (r : (YEp)) : List RV × List RV := ([rv (true, h_5) r], [])
def C_s_EpNew : Fns := [(60, .plain, F_s_l1In), (204, .plain, F_s_WinNew)]
def F_s_EpNew : Fun1 := funV P_s_EpNew (fun d => (T_s_EpNew d.1 d.2.1).val) O_s_EpNew
def Q_s_EpNew : Loops := fun _ _ => .fail
theorem e_s_EpNew : ∀ d, pcall ⟨lookT tys, ctrOf C_s_EpNew, kindOf C_s_EpNew, 3, 4⟩ 0 Q_s_EpNew Tryz.f157 .plain (mkA P_s_EpNew d) = (T_s_EpNew d.1 d.2.1).run fun r => some (O_s_EpNew r) := fun d => by kernel_rfl
theorem fn_s_EpNew : Fn Tryz.prog 157 .plain F_s_EpNew := fn_of (cfgOk_of mixed tys_ok (show FnsOk Tryz.prog C_s_EpNew from ⟨fn_s_l1In, fn_s_WinNew, trivial⟩)) Tryz.func157 (by kernel_rfl) (by kernel_rfl) (fun cx b hp hb => all_of (by kernel_rfl : loopsOf (Tryz.f157.body.getD .skip) = []) trivial b hb) (R := (YEp)) (T := fun (d : aden P_s_EpNew) => T_s_EpNew d.1 d.2.1) e_s_EpNew
def P_s_ChanNew : List (Bool × List Sh) := [(false, [.int .i64]), (false, [.sl 5 [.int .u8]]), (false, [.sl 5 [.int .u8]])]
def O_s_ChanNew (r : (YChan)) : List RV × List RV := ([rv (true, h_10) r], [])
def C_s_ChanNew : Fns := [(60, .plain, F_s_l1In), (157, .plain, F_s_EpNew)]
def F_s_ChanNew : Fun1 := funV P_s_ChanNew (fun d => (T_s_ChanNew d.1 d.2.1 d.2.2.1).val) O_s_ChanNew
def Q_s_ChanNew : Loops := fun _ _ => .fail
theorem e_s_ChanNew : ∀ d, pcall ⟨lookT tys, ctrOf C_s_ChanNew, kindOf C_s_ChanNew, 3, 4⟩ 0 Q_s_ChanNew Tryz.f84 .plain (mkA P_s_ChanNew d) = (T_s_ChanNew d.1 d.2.1 d.2.2.1).run fun r => some (O_s_ChanNew r) := fun d => by kernel_rfl
theorem fn_s_ChanNew : Fn Tryz.prog 84 .plain F_s_ChanNew := fn_of (cfgOk_of mixed tys_ok (show FnsOk Tryz.prog C_s_ChanNew from ⟨fn_s_l1In, fn_s_EpNew, trivial⟩)) Tryz.func84 (by kernel_rfl) (by kernel_rfl) (fun cx b hp hb => all_of (by kernel_rfl : loopsOf (Tryz.f84.body.getD .skip) = []) trivial b hb) (R := (YChan)) (T := fun (d : aden P_s_ChanNew) => T_s_ChanNew d.1 d.2.1 d.2.2.1) e_s_ChanNew
def P_s_PathsNew : List (Bool × List Sh) := [(true, [.int .i64, .int .i64])]
def O_s_PathsNew (r : (YPaths)) : List RV × List RV := ([rv (true, h_7) r], [])
def C_s_PathsNew : Fns := []
def F_s_PathsNew : Fun1 := funV P_s_PathsNew (fun d => (T_s_PathsNew d.1).val) O_s_PathsNew
def Q_s_PathsNew : Loops := fun _ _ => .fail
theorem e_s_PathsNew : ∀ d, pcall ⟨lookT tys, ctrOf C_s_PathsNew, kindOf C_s_PathsNew, 3, 4⟩ 0 Q_s_PathsNew Tryz.f86 .plain (mkA P_s_PathsNew d) = (T_s_PathsNew d.1).run fun r => some (O_s_PathsNew r) := fun d => by kernel_rfl
theorem fn_s_PathsNew : Fn Tryz.prog 86 .plain F_s_PathsNew := fn_of (cfgOk_of mixed tys_ok (show FnsOk Tryz.prog C_s_PathsNew from trivial)) Tryz.func86 (by kernel_rfl) (by kernel_rfl) (fun cx b hp hb => all_of (by kernel_rfl : loopsOf (Tryz.f86.body.getD .skip) = []) trivial b hb) (R := (YPaths)) (T := fun (d : aden P_s_PathsNew) => T_s_PathsNew d.1) e_s_PathsNew
def P_s_SessNew : List (Bool × List Sh) := [(false, [.sl 5 [.int .u8]]), (false, [.int .i64]), (true, [.int .i64, .int .i64]), (true, h_9)]
def O_s_SessNew (r : (YSess)) : List RV × List RV := ([rv (true, h_12) r], [])
def C_s_SessNew : Fns := [(81, .plain, F_s_PskOk), (60, .plain, F_s_l1In), (82, .plain, F_s_AddrOk), (83, .plain, F_s_FrameOk), (85, .plain, F_s_EpochKey), (84, .plain, F_s_ChanNew), (86, .plain, F_s_PathsNew)]
def F_s_SessNew : Fun1 := funV P_s_SessNew (fun d => (T_s_SessNew d.1 d.2.1 d.2.2.1 d.2.2.2.1).val) O_s_SessNew
def Q_s_SessNew : Loops := fun _ _ => .fail
theorem e_s_SessNew : ∀ d, pcall ⟨lookT tys, ctrOf C_s_SessNew, kindOf C_s_SessNew, 3, 4⟩ 0 Q_s_SessNew Tryz.f22 .plain (mkA P_s_SessNew d) = (T_s_SessNew d.1 d.2.1 d.2.2.1 d.2.2.2.1).run fun r => some (O_s_SessNew r) := fun d => by kernel_rfl
theorem fn_s_SessNew : Fn Tryz.prog 22 .plain F_s_SessNew := fn_of (cfgOk_of mixed tys_ok (show FnsOk Tryz.prog C_s_SessNew from ⟨fn_s_PskOk, fn_s_l1In, fn_s_AddrOk, fn_s_FrameOk, fn_s_EpochKey, fn_s_ChanNew, fn_s_PathsNew, trivial⟩)) Tryz.func22 (by kernel_rfl) (by kernel_rfl) (fun cx b hp hb => all_of (by kernel_rfl : loopsOf (Tryz.f22.body.getD .skip) = []) trivial b hb) (R := (YSess)) (T := fun (d : aden P_s_SessNew) => T_s_SessNew d.1 d.2.1 d.2.2.1 d.2.2.2.1) e_s_SessNew
def P_i_within : List (Bool × List Sh) := [(false, [.int .i64]), (false, [.int .i64]), (false, [.int .i64])]
def O_i_within (r : (Bool × Unit)) : List RV × List RV := ([rv (false, [.bool]) r], [])
def C_i_within : Fns := []
def F_i_within : Fun1 := funV P_i_within (fun d => (T_i_within d.1 d.2.1 d.2.2.1).val) O_i_within
def Q_i_within : Loops := fun _ _ => .fail
theorem e_i_within : ∀ d, pcall ⟨lookT tys, ctrOf C_i_within, kindOf C_i_within, 3, 4⟩ 0 Q_i_within Tryz.f88 .plain (mkA P_i_within d) = (T_i_within d.1 d.2.1 d.2.2.1).run fun r => some (O_i_within r) := fun d => by kernel_rfl
theorem fn_i_within : Fn Tryz.prog 88 .plain F_i_within := fn_of (cfgOk_of mixed tys_ok (show FnsOk Tryz.prog C_i_within from trivial)) Tryz.func88 (by kernel_rfl) (by kernel_rfl) (fun cx b hp hb => all_of (by kernel_rfl : loopsOf (Tryz.f88.body.getD .skip) = []) trivial b hb) (R := (Bool × Unit)) (T := fun (d : aden P_i_within) => T_i_within d.1 d.2.1 d.2.2.1) e_i_within
def P_i_PskOk : List (Bool × List Sh) := [(false, [.sl 5 [.int .u8]])]
def O_i_PskOk (r : (Bool × Unit)) : List RV × List RV := ([rv (false, [.bool]) r], [])
def C_i_PskOk : Fns := [(88, .plain, F_i_within)]
def F_i_PskOk : Fun1 := funV P_i_PskOk (fun d => (T_i_PskOk d.1).val) O_i_PskOk
def Q_i_PskOk : Loops := fun _ _ => .fail
theorem e_i_PskOk : ∀ d, pcall ⟨lookT tys, ctrOf C_i_PskOk, kindOf C_i_PskOk, 3, 4⟩ 0 Q_i_PskOk Tryz.f87 .plain (mkA P_i_PskOk d) = (T_i_PskOk d.1).run fun r => some (O_i_PskOk r) := fun d => by kernel_rfl
theorem fn_i_PskOk : Fn Tryz.prog 87 .plain F_i_PskOk := fn_of (cfgOk_of mixed tys_ok (show FnsOk Tryz.prog C_i_PskOk from ⟨fn_i_within, trivial⟩)) Tryz.func87 (by kernel_rfl) (by kernel_rfl) (fun cx b hp hb => all_of (by kernel_rfl : loopsOf (Tryz.f87.body.getD .skip) = []) trivial b hb) (R := (Bool × Unit)) (T := fun (d : aden P_i_PskOk) => T_i_PskOk d.1) e_i_PskOk
def P_i_AddrOk : List (Bool × List Sh) := [(true, [.int .i64, .int .i64])]
def O_i_AddrOk (r : (Bool × Unit)) : List RV × List RV := ([rv (false, [.bool]) r], [])
def C_i_AddrOk : Fns := [(88, .plain, F_i_within)]
def F_i_AddrOk : Fun1 := funV P_i_AddrOk (fun d => (T_i_AddrOk d.1).val) O_i_AddrOk
def Q_i_AddrOk : Loops := fun _ _ => .fail
theorem e_i_AddrOk : ∀ d, pcall ⟨lookT tys, ctrOf C_i_AddrOk, kindOf C_i_AddrOk, 3, 4⟩ 0 Q_i_AddrOk Tryz.f89 .plain (mkA P_i_AddrOk d) = (T_i_AddrOk d.1).run fun r => some (O_i_AddrOk r) := fun d => by kernel_rfl
theorem fn_i_AddrOk : Fn Tryz.prog 89 .plain F_i_AddrOk := fn_of (cfgOk_of mixed tys_ok (show FnsOk Tryz.prog C_i_AddrOk from ⟨fn_i_within, trivial⟩)) Tryz.func89 (by kernel_rfl) (by kernel_rfl) (fun cx b hp hb => all_of (by kernel_rfl : loopsOf (Tryz.f89.body.getD .skip) = []) trivial b hb) (R := (Bool × Unit)) (T := fun (d : aden P_i_AddrOk) => T_i_AddrOk d.1) e_i_AddrOk
def P_i_isNonce : List (Bool × List Sh) := [(false, [.sl 5 [.int .u8]])]
def O_i_isNonce (r : (Bool × Unit)) : List RV × List RV := ([rv (false, [.bool]) r], [])
def C_i_isNonce : Fns := []
def F_i_isNonce : Fun1 := funV P_i_isNonce (fun d => (T_i_isNonce d.1).val) O_i_isNonce
def Q_i_isNonce : Loops := fun _ _ => .fail
theorem e_i_isNonce : ∀ d, pcall ⟨lookT tys, ctrOf C_i_isNonce, kindOf C_i_isNonce, 3, 4⟩ 0 Q_i_isNonce Tryz.f105 .plain (mkA P_i_isNonce d) = (T_i_isNonce d.1).run fun r => some (O_i_isNonce r) := fun d => by kernel_rfl
theorem fn_i_isNonce : Fn Tryz.prog 105 .plain F_i_isNonce := fn_of (cfgOk_of mixed tys_ok (show FnsOk Tryz.prog C_i_isNonce from trivial)) Tryz.func105 (by kernel_rfl) (by kernel_rfl) (fun cx b hp hb => all_of (by kernel_rfl : loopsOf (Tryz.f105.body.getD .skip) = []) trivial b hb) (R := (Bool × Unit)) (T := fun (d : aden P_i_isNonce) => T_i_isNonce d.1) e_i_isNonce
def P_i_Sealed : List (Bool × List Sh) := [(false, [.int .i64])]
def O_i_Sealed (r : (Bool × Unit)) : List RV × List RV := ([rv (false, [.bool]) r], [])
def C_i_Sealed : Fns := [(88, .plain, F_i_within)]
def F_i_Sealed : Fun1 := funV P_i_Sealed (fun d => (T_i_Sealed d.1).val) O_i_Sealed
def Q_i_Sealed : Loops := fun _ _ => .fail
theorem e_i_Sealed : ∀ d, pcall ⟨lookT tys, ctrOf C_i_Sealed, kindOf C_i_Sealed, 3, 4⟩ 0 Q_i_Sealed Tryz.f161 .plain (mkA P_i_Sealed d) = (T_i_Sealed d.1).run fun r => some (O_i_Sealed r) := fun d => by kernel_rfl
theorem fn_i_Sealed : Fn Tryz.prog 161 .plain F_i_Sealed := fn_of (cfgOk_of mixed tys_ok (show FnsOk Tryz.prog C_i_Sealed from ⟨fn_i_within, trivial⟩)) Tryz.func161 (by kernel_rfl) (by kernel_rfl) (fun cx b hp hb => all_of (by kernel_rfl : loopsOf (Tryz.f161.body.getD .skip) = []) trivial b hb) (R := (Bool × Unit)) (T := fun (d : aden P_i_Sealed) => T_i_Sealed d.1) e_i_Sealed
def P_i_bodyOk : List (Bool × List Sh) := [(false, [.int .i64]), (false, [.int .i64])]
def O_i_bodyOk (r : (Bool × Unit)) : List RV × List RV := ([rv (false, [.bool]) r], [])
def C_i_bodyOk : Fns := []
def F_i_bodyOk : Fun1 := funV P_i_bodyOk (fun d => (T_i_bodyOk d.1 d.2.1).val) O_i_bodyOk
def Q_i_bodyOk : Loops := fun _ _ => .fail
theorem e_i_bodyOk : ∀ d, pcall ⟨lookT tys, ctrOf C_i_bodyOk, kindOf C_i_bodyOk, 3, 4⟩ 0 Q_i_bodyOk Tryz.f162 .plain (mkA P_i_bodyOk d) = (T_i_bodyOk d.1 d.2.1).run fun r => some (O_i_bodyOk r) := fun d => by kernel_rfl
theorem fn_i_bodyOk : Fn Tryz.prog 162 .plain F_i_bodyOk := fn_of (cfgOk_of mixed tys_ok (show FnsOk Tryz.prog C_i_bodyOk from trivial)) Tryz.func162 (by kernel_rfl) (by kernel_rfl) (fun cx b hp hb => all_of (by kernel_rfl : loopsOf (Tryz.f162.body.getD .skip) = []) trivial b hb) (R := (Bool × Unit)) (T := fun (d : aden P_i_bodyOk) => T_i_bodyOk d.1 d.2.1) e_i_bodyOk
def P_bytes_Equal : List (Bool × List Sh) := [(false, [.sl 5 [.int .u8]]), (false, [.sl 5 [.int .u8]])]
def O_bytes_Equal (r : (Bool × Unit)) : List RV × List RV := ([rv (false, [.bool]) r], [])
def C_bytes_Equal : Fns := []
def F_bytes_Equal : Fun1 := funV P_bytes_Equal (fun d => (T_bytes_Equal d.1 d.2.1).val) O_bytes_Equal
def Q_bytes_Equal : Loops := fun _ _ => .fail
theorem e_bytes_Equal : ∀ d, pcall ⟨lookT tys, ctrOf C_bytes_Equal, kindOf C_bytes_Equal, 3, 4⟩ 0 Q_bytes_Equal Tryz.f153 .plain (mkA P_bytes_Equal d) = (T_bytes_Equal d.1 d.2.1).run fun r => some (O_bytes_Equal r) := fun d => by kernel_rfl
theorem fn_bytes_Equal : Fn Tryz.prog 153 .plain F_bytes_Equal := fn_of (cfgOk_of mixed tys_ok (show FnsOk Tryz.prog C_bytes_Equal from trivial)) Tryz.func153 (by kernel_rfl) (by kernel_rfl) (fun cx b hp hb => all_of (by kernel_rfl : loopsOf (Tryz.f153.body.getD .skip) = []) trivial b hb) (R := (Bool × Unit)) (T := fun (d : aden P_bytes_Equal) => T_bytes_Equal d.1 d.2.1) e_bytes_Equal
def P_i_sameFrame : List (Bool × List Sh) := [(true, h_9), (true, h_9)]
def O_i_sameFrame (r : (Bool × Unit)) : List RV × List RV := ([rv (false, [.bool]) r], [])
def C_i_sameFrame : Fns := [(153, .plain, F_bytes_Equal)]
def F_i_sameFrame : Fun1 := funV P_i_sameFrame (fun d => (T_i_sameFrame d.1 d.2.1).val) O_i_sameFrame
def Q_i_sameFrame : Loops := fun _ _ => .fail
theorem e_i_sameFrame : ∀ d, pcall ⟨lookT tys, ctrOf C_i_sameFrame, kindOf C_i_sameFrame, 3, 4⟩ 0 Q_i_sameFrame Tryz.f163 .plain (mkA P_i_sameFrame d) = (T_i_sameFrame d.1 d.2.1).run fun r => some (O_i_sameFrame r) := fun d => by kernel_rfl
theorem fn_i_sameFrame : Fn Tryz.prog 163 .plain F_i_sameFrame := fn_of (cfgOk_of mixed tys_ok (show FnsOk Tryz.prog C_i_sameFrame from ⟨fn_bytes_Equal, trivial⟩)) Tryz.func163 (by kernel_rfl) (by kernel_rfl) (fun cx b hp hb => all_of (by kernel_rfl : loopsOf (Tryz.f163.body.getD .skip) = []) trivial b hb) (R := (Bool × Unit)) (T := fun (d : aden P_i_sameFrame) => T_i_sameFrame d.1 d.2.1) e_i_sameFrame
def P_i_FrameOk : List (Bool × List Sh) := [(true, h_9)]
def O_i_FrameOk (r : (Bool × Unit)) : List RV × List RV := ([rv (false, [.bool]) r], [])
def C_i_FrameOk : Fns := [(88, .plain, F_i_within), (105, .plain, F_i_isNonce), (161, .plain, F_i_Sealed), (162, .plain, F_i_bodyOk), (163, .plain, F_i_sameFrame)]
def F_i_FrameOk : Fun1 := funV P_i_FrameOk (fun d => (T_i_FrameOk d.1).val) O_i_FrameOk
def Q_i_FrameOk : Loops := fun _ _ => .fail
theorem e_i_FrameOk : ∀ d, pcall ⟨lookT tys, ctrOf C_i_FrameOk, kindOf C_i_FrameOk, 3, 4⟩ 0 Q_i_FrameOk Tryz.f90 .plain (mkA P_i_FrameOk d) = (T_i_FrameOk d.1).run fun r => some (O_i_FrameOk r) := fun d => by kernel_rfl
theorem fn_i_FrameOk : Fn Tryz.prog 90 .plain F_i_FrameOk := fn_of (cfgOk_of mixed tys_ok (show FnsOk Tryz.prog C_i_FrameOk from ⟨fn_i_within, fn_i_isNonce, fn_i_Sealed, fn_i_bodyOk, fn_i_sameFrame, trivial⟩)) Tryz.func90 (by kernel_rfl) (by kernel_rfl) (fun cx b hp hb => all_of (by kernel_rfl : loopsOf (Tryz.f90.body.getD .skip) = []) trivial b hb) (R := (Bool × Unit)) (T := fun (d : aden P_i_FrameOk) => T_i_FrameOk d.1) e_i_FrameOk
def P_i_clone : List (Bool × List Sh) := [(false, [.sl 5 [.int .u8]])]
def O_i_clone (r : (YBs)) : List RV × List RV := ([rv (false, [.sl 5 [.int .u8]]) r], [])
def C_i_clone : Fns := []
def F_i_clone : Fun1 := funV P_i_clone (fun d => (T_i_clone d.1).val) O_i_clone
def Q_i_clone : Loops := fun _ _ => .fail
theorem e_i_clone : ∀ d, pcall ⟨lookT tys, ctrOf C_i_clone, kindOf C_i_clone, 3, 4⟩ 0 Q_i_clone Tryz.f91 .plain (mkA P_i_clone d) = (T_i_clone d.1).run fun r => some (O_i_clone r) := fun d => by kernel_rfl
theorem fn_i_clone : Fn Tryz.prog 91 .plain F_i_clone := fn_of (cfgOk_of mixed tys_ok (show FnsOk Tryz.prog C_i_clone from trivial)) Tryz.func91 (by kernel_rfl) (by kernel_rfl) (fun cx b hp hb => all_of (by kernel_rfl : loopsOf (Tryz.f91.body.getD .skip) = []) trivial b hb) (R := (YBs)) (T := fun (d : aden P_i_clone) => T_i_clone d.1) e_i_clone
def P_i_PathsNew : List (Bool × List Sh) := [(true, [.int .i64, .int .i64])]
def O_i_PathsNew (r : (YPaths)) : List RV × List RV := ([rv (true, h_7) r], [])
def C_i_PathsNew : Fns := []
def F_i_PathsNew : Fun1 := funV P_i_PathsNew (fun d => (T_i_PathsNew d.1).val) O_i_PathsNew
def Q_i_PathsNew : Loops := fun _ _ => .fail
theorem e_i_PathsNew : ∀ d, pcall ⟨lookT tys, ctrOf C_i_PathsNew, kindOf C_i_PathsNew, 3, 4⟩ 0 Q_i_PathsNew Tryz.f92 .plain (mkA P_i_PathsNew d) = (T_i_PathsNew d.1).run fun r => some (O_i_PathsNew r) := fun d => by kernel_rfl
theorem fn_i_PathsNew : Fn Tryz.prog 92 .plain F_i_PathsNew := fn_of (cfgOk_of mixed tys_ok (show FnsOk Tryz.prog C_i_PathsNew from trivial)) Tryz.func92 (by kernel_rfl) (by kernel_rfl) (fun cx b hp hb => all_of (by kernel_rfl : loopsOf (Tryz.f92.body.getD .skip) = []) trivial b hb) (R := (YPaths)) (T := fun (d : aden P_i_PathsNew) => T_i_PathsNew d.1) e_i_PathsNew
def P_i_joined : List (Bool × List Sh) := [(false, [.sl 25 [.sl 5 [.int .u8]]])]
def O_i_joined (r : (YBs)) : List RV × List RV := ([rv (false, [.sl 5 [.int .u8]]) r], [])
def C_i_joined : Fns := []
def F_i_joined : Fun1 := funV P_i_joined (fun d => (T_i_joined d.1).val) O_i_joined
def K_i_joined_3 : Sk := ⟨[(3, .v false [(.sl 5 [.int .u8], (.own 4000000))]), (7, .v false [(.sl 25 [.sl 5 [.int .u8]], .ro)]), (8, .v false [(.int .i64, .nil)]), (9, .v false [(.int .i64, .nil)])], [], [4000000]⟩
def X_i_joined_3 : List (Ex × Sk) := [((.exit 0), ⟨[(3, .v false [(.sl 5 [.int .u8], (.own 4000000))])], [], [4000000]⟩)]
def Q_i_joined : Loops := fun i st => cond (Nat.beq i 3) (lam K_i_joined_3 4000000 X_i_joined_3 B_i_joined_3 st) <| .fail
theorem lp_i_joined_3 : ∀ d, bod ⟨lookT tys, ctrOf C_i_joined, kindOf C_i_joined, 3, 4⟩ 0 Tryz.f208.ntmps Q_i_joined (nthLoop Tryz.f208 0) K_i_joined_3 4000000 X_i_joined_3 d = B_i_joined_3 d := fun d => by kernel_rfl
theorem lo_i_joined_3 (cx : Cx) (hp : cx.pin.length ≤ 0) : LoopOk Tryz.prog cx Tryz.f208.ntmps Q_i_joined (nthLoop Tryz.f208 0) := loop_of (cfgOk_of mixed tys_ok (show FnsOk Tryz.prog C_i_joined from trivial)) hp (all_of (by kernel_rfl : loopsOf (nthLoop Tryz.f208 0) = []) trivial) (by kernel_rfl) lp_i_joined_3
theorem e_i_joined : ∀ d, pcall ⟨lookT tys, ctrOf C_i_joined, kindOf C_i_joined, 3, 4⟩ 0 Q_i_joined Tryz.f208 .plain (mkA P_i_joined d) = (T_i_joined d.1).run fun r => some (O_i_joined r) := fun d => by kernel_rfl
theorem fn_i_joined : Fn Tryz.prog 208 .plain F_i_joined := fn_of (cfgOk_of mixed tys_ok (show FnsOk Tryz.prog C_i_joined from trivial)) Tryz.func208 (by kernel_rfl) (by kernel_rfl) (fun cx b hp hb => all_of (by kernel_rfl : loopsOf (Tryz.f208.body.getD .skip) = [nthLoop Tryz.f208 0]) ⟨lo_i_joined_3 cx hp, trivial⟩ b hb) (R := (YBs)) (T := fun (d : aden P_i_joined) => T_i_joined d.1) e_i_joined
def P_i_Start : List (Bool × List Sh) := []
def O_i_Start (r : ((List YI) × Unit)) : List RV × List RV := ([rv (false, [.sl 3 [.int .i64]]) r], [])
def C_i_Start : Fns := []
def F_i_Start : Fun1 := funV P_i_Start (fun d => (T_i_Start ).val) O_i_Start
def Q_i_Start : Loops := fun _ _ => .fail
theorem e_i_Start : ∀ d, pcall ⟨lookT tys, ctrOf C_i_Start, kindOf C_i_Start, 3, 4⟩ 0 Q_i_Start Tryz.f248 .plain (mkA P_i_Start d) = (T_i_Start ).run fun r => some (O_i_Start r) := fun d => by kernel_rfl
theorem fn_i_Start : Fn Tryz.prog 248 .plain F_i_Start := fn_of (cfgOk_of mixed tys_ok (show FnsOk Tryz.prog C_i_Start from trivial)) Tryz.func248 (by kernel_rfl) (by kernel_rfl) (fun cx b hp hb => all_of (by kernel_rfl : loopsOf (Tryz.f248.body.getD .skip) = []) trivial b hb) (R := ((List YI) × Unit)) (T := fun (d : aden P_i_Start) => T_i_Start ) e_i_Start
def P_i_HashNew : List (Bool × List Sh) := []
def O_i_HashNew (r : (YHash)) : List RV × List RV := ([rv (true, h_3) r], [])
def C_i_HashNew : Fns := [(248, .plain, F_i_Start)]
def F_i_HashNew : Fun1 := funV P_i_HashNew (fun d => (T_i_HashNew ).val) O_i_HashNew
def Q_i_HashNew : Loops := fun _ _ => .fail
theorem e_i_HashNew : ∀ d, pcall ⟨lookT tys, ctrOf C_i_HashNew, kindOf C_i_HashNew, 3, 4⟩ 0 Q_i_HashNew Tryz.f239 .plain (mkA P_i_HashNew d) = (T_i_HashNew ).run fun r => some (O_i_HashNew r) := fun d => by kernel_rfl
theorem fn_i_HashNew : Fn Tryz.prog 239 .plain F_i_HashNew := fn_of (cfgOk_of mixed tys_ok (show FnsOk Tryz.prog C_i_HashNew from ⟨fn_i_Start, trivial⟩)) Tryz.func239 (by kernel_rfl) (by kernel_rfl) (fun cx b hp hb => all_of (by kernel_rfl : loopsOf (Tryz.f239.body.getD .skip) = []) trivial b hb) (R := (YHash)) (T := fun (d : aden P_i_HashNew) => T_i_HashNew ) e_i_HashNew
def P_i_areWords : List (Bool × List Sh) := [(false, [.sl 3 [.int .i64]]), (false, [.int .i64])]
def O_i_areWords (r : (Bool × Unit)) : List RV × List RV := ([rv (false, [.bool]) r], [])
def C_i_areWords : Fns := [(88, .plain, F_i_within)]
def F_i_areWords : Fun1 := funV P_i_areWords (fun d => (T_i_areWords d.1 d.2.1).val) O_i_areWords
def K_i_areWords_2 : Sk := ⟨[(0, .v false [(.sl 3 [.int .i64], .ro)]), (1, .v false [(.int .i64, .nil)]), (7, .v false [(.sl 3 [.int .i64], .ro)]), (8, .v false [(.int .i64, .nil)]), (9, .v false [(.int .i64, .nil)])], [], []⟩
def X_i_areWords_2 : List (Ex × Sk) := [(.ret, ⟨[(4, .v false [(.bool, .nil)])], [], []⟩), ((.exit 0), ⟨[(0, .v false [(.sl 3 [.int .i64], .ro)]), (1, .v false [(.int .i64, .nil)])], [], []⟩)]
def Q_i_areWords : Loops := fun i st => cond (Nat.beq i 2) (lam K_i_areWords_2 3000000 X_i_areWords_2 B_i_areWords_2 st) <| .fail
theorem lp_i_areWords_2 : ∀ d, bod ⟨lookT tys, ctrOf C_i_areWords, kindOf C_i_areWords, 3, 4⟩ 0 Tryz.f231.ntmps Q_i_areWords (nthLoop Tryz.f231 0) K_i_areWords_2 3000000 X_i_areWords_2 d = B_i_areWords_2 d := fun d => by kernel_rfl
theorem lo_i_areWords_2 (cx : Cx) (hp : cx.pin.length ≤ 0) : LoopOk Tryz.prog cx Tryz.f231.ntmps Q_i_areWords (nthLoop Tryz.f231 0) := loop_of (cfgOk_of mixed tys_ok (show FnsOk Tryz.prog C_i_areWords from ⟨fn_i_within, trivial⟩)) hp (all_of (by kernel_rfl : loopsOf (nthLoop Tryz.f231 0) = []) trivial) (by kernel_rfl) lp_i_areWords_2
theorem e_i_areWords : ∀ d, pcall ⟨lookT tys, ctrOf C_i_areWords, kindOf C_i_areWords, 3, 4⟩ 0 Q_i_areWords Tryz.f231 .plain (mkA P_i_areWords d) = (T_i_areWords d.1 d.2.1).run fun r => some (O_i_areWords r) := fun d => by kernel_rfl
theorem fn_i_areWords : Fn Tryz.prog 231 .plain F_i_areWords := fn_of (cfgOk_of mixed tys_ok (show FnsOk Tryz.prog C_i_areWords from ⟨fn_i_within, trivial⟩)) Tryz.func231 (by kernel_rfl) (by kernel_rfl) (fun cx b hp hb => all_of (by kernel_rfl : loopsOf (Tryz.f231.body.getD .skip) = [nthLoop Tryz.f231 0]) ⟨lo_i_areWords_2 cx hp, trivial⟩ b hb) (R := (Bool × Unit)) (T := fun (d : aden P_i_areWords) => T_i_areWords d.1 d.2.1) e_i_areWords
def P_i_HashOk : List (Bool × List Sh) := [(true, h_3)]
def O_i_HashOk (r : (Bool × Unit)) : List RV × List RV := ([rv (false, [.bool]) r], [])
def C_i_HashOk : Fns := [(231, .plain, F_i_areWords), (88, .plain, F_i_within)]
def F_i_HashOk : Fun1 := funV P_i_HashOk (fun d => (T_i_HashOk d.1).val) O_i_HashOk
def Q_i_HashOk : Loops := fun _ _ => .fail
theorem e_i_HashOk : ∀ d, pcall ⟨lookT tys, ctrOf C_i_HashOk, kindOf C_i_HashOk, 3, 4⟩ 0 Q_i_HashOk Tryz.f244 .plain (mkA P_i_HashOk d) = (T_i_HashOk d.1).run fun r => some (O_i_HashOk r) := fun d => by kernel_rfl
theorem fn_i_HashOk : Fn Tryz.prog 244 .plain F_i_HashOk := fn_of (cfgOk_of mixed tys_ok (show FnsOk Tryz.prog C_i_HashOk from ⟨fn_i_areWords, fn_i_within, trivial⟩)) Tryz.func244 (by kernel_rfl) (by kernel_rfl) (fun cx b hp hb => all_of (by kernel_rfl : loopsOf (Tryz.f244.body.getD .skip) = []) trivial b hb) (R := (Bool × Unit)) (T := fun (d : aden P_i_HashOk) => T_i_HashOk d.1) e_i_HashOk
def P_i_Cut : List (Bool × List Sh) := [(false, [.sl 5 [.int .u8]]), (false, [.int .i64]), (false, [.int .i64])]
def O_i_Cut (r : (YBs) × (Bool × Unit)) : List RV × List RV := ([rv (false, [.sl 5 [.int .u8]]) r.1, rv (false, [.bool]) r.2], [])
def C_i_Cut : Fns := []
def F_i_Cut : Fun1 := funV P_i_Cut (fun d => (T_i_Cut d.1 d.2.1 d.2.2.1).val) O_i_Cut
def Q_i_Cut : Loops := fun _ _ => .fail
theorem e_i_Cut : ∀ d, pcall ⟨lookT tys, ctrOf C_i_Cut, kindOf C_i_Cut, 3, 4⟩ 0 Q_i_Cut Tryz.f256 .plain (mkA P_i_Cut d) = (T_i_Cut d.1 d.2.1 d.2.2.1).run fun r => some (O_i_Cut r) := fun d => by kernel_rfl
theorem fn_i_Cut : Fn Tryz.prog 256 .plain F_i_Cut := fn_of (cfgOk_of mixed tys_ok (show FnsOk Tryz.prog C_i_Cut from trivial)) Tryz.func256 (by kernel_rfl) (by kernel_rfl) (fun cx b hp hb => all_of (by kernel_rfl : loopsOf (Tryz.f256.body.getD .skip) = []) trivial b hb) (R := (YBs) × (Bool × Unit)) (T := fun (d : aden P_i_Cut) => T_i_Cut d.1 d.2.1 d.2.2.1) e_i_Cut
def P_i_GetN : List (Bool × List Sh) := [(false, [.sl 5 [.int .u8]]), (false, [.int .i64]), (false, [.int .i64])]
def O_i_GetN (r : (YI) × (YI) × (Bool × Unit)) : List RV × List RV := ([rv (false, [.int .i64]) r.1, rv (false, [.int .i64]) r.2.1, rv (false, [.bool]) r.2.2], [])
def C_i_GetN : Fns := [(256, .plain, F_i_Cut)]
def F_i_GetN : Fun1 := funV P_i_GetN (fun d => (T_i_GetN d.1 d.2.1 d.2.2.1).val) O_i_GetN
def K_i_GetN_8 : Sk := ⟨[(1, .v false [(.int .i64, .nil)]), (2, .v false [(.int .i64, .nil)]), (11, .v false [(.int .i64, .nil)]), (29, .v false [(.sl 5 [.int .u8], (.own 9000000))]), (30, .v false [(.int .i64, .nil)]), (31, .v false [(.int .i64, .nil)])], [], [9000000]⟩
def X_i_GetN_8 : List (Ex × Sk) := [((.exit 0), ⟨[(1, .v false [(.int .i64, .nil)]), (2, .v false [(.int .i64, .nil)]), (11, .v false [(.int .i64, .nil)])], [], []⟩)]
def Q_i_GetN : Loops := fun i st => cond (Nat.beq i 8) (lam K_i_GetN_8 9000000 X_i_GetN_8 B_i_GetN_8 st) <| .fail
theorem lp_i_GetN_8 : ∀ d, bod ⟨lookT tys, ctrOf C_i_GetN, kindOf C_i_GetN, 3, 4⟩ 0 Tryz.f255.ntmps Q_i_GetN (nthLoop Tryz.f255 0) K_i_GetN_8 9000000 X_i_GetN_8 d = B_i_GetN_8 d := fun d => by kernel_rfl
theorem lo_i_GetN_8 (cx : Cx) (hp : cx.pin.length ≤ 0) : LoopOk Tryz.prog cx Tryz.f255.ntmps Q_i_GetN (nthLoop Tryz.f255 0) := loop_of (cfgOk_of mixed tys_ok (show FnsOk Tryz.prog C_i_GetN from ⟨fn_i_Cut, trivial⟩)) hp (all_of (by kernel_rfl : loopsOf (nthLoop Tryz.f255 0) = []) trivial) (by kernel_rfl) lp_i_GetN_8
theorem e_i_GetN : ∀ d, pcall ⟨lookT tys, ctrOf C_i_GetN, kindOf C_i_GetN, 3, 4⟩ 0 Q_i_GetN Tryz.f255 .plain (mkA P_i_GetN d) = (T_i_GetN d.1 d.2.1 d.2.2.1).run fun r => some (O_i_GetN r) := fun d => by kernel_rfl
theorem fn_i_GetN : Fn Tryz.prog 255 .plain F_i_GetN := fn_of (cfgOk_of mixed tys_ok (show FnsOk Tryz.prog C_i_GetN from ⟨fn_i_Cut, trivial⟩)) Tryz.func255 (by kernel_rfl) (by kernel_rfl) (fun cx b hp hb => all_of (by kernel_rfl : loopsOf (Tryz.f255.body.getD .skip) = [nthLoop Tryz.f255 0]) ⟨lo_i_GetN_8 cx hp, trivial⟩ b hb) (R := (YI) × (YI) × (Bool × Unit)) (T := fun (d : aden P_i_GetN) => T_i_GetN d.1 d.2.1 d.2.2.1) e_i_GetN
def P_i_Rot : List (Bool × List Sh) := [(false, [.int .i64]), (false, [.int .i64])]
def O_i_Rot (r : (YI)) : List RV × List RV := ([rv (false, [.int .i64]) r], [])
def C_i_Rot : Fns := []
def F_i_Rot : Fun1 := funV P_i_Rot (fun d => (T_i_Rot d.1 d.2.1).val) O_i_Rot
def Q_i_Rot : Loops := fun _ _ => .fail
theorem e_i_Rot : ∀ d, pcall ⟨lookT tys, ctrOf C_i_Rot, kindOf C_i_Rot, 3, 4⟩ 0 Q_i_Rot Tryz.f252 .plain (mkA P_i_Rot d) = (T_i_Rot d.1 d.2.1).run fun r => some (O_i_Rot r) := fun d => by kernel_rfl
theorem fn_i_Rot : Fn Tryz.prog 252 .plain F_i_Rot := fn_of (cfgOk_of mixed tys_ok (show FnsOk Tryz.prog C_i_Rot from trivial)) Tryz.func252 (by kernel_rfl) (by kernel_rfl) (fun cx b hp hb => all_of (by kernel_rfl : loopsOf (Tryz.f252.body.getD .skip) = []) trivial b hb) (R := (YI)) (T := fun (d : aden P_i_Rot) => T_i_Rot d.1 d.2.1) e_i_Rot
def P_i_Schedule : List (Bool × List Sh) := [(false, [.sl 5 [.int .u8]])]
def O_i_Schedule (r : ((List YI) × Unit)) : List RV × List RV := ([rv (false, [.sl 3 [.int .i64]]) r], [])
def C_i_Schedule : Fns := [(255, .plain, F_i_GetN), (252, .plain, F_i_Rot)]
def F_i_Schedule : Fun1 := funV P_i_Schedule (fun d => (T_i_Schedule d.1).val) O_i_Schedule
def K_i_Schedule_9 : Sk := ⟨[(3, .v false [(.sl 3 [.int .i64], (.own 10000000))]), (5, .v false [(.int .i64, .nil)])], [], [10000000]⟩
def X_i_Schedule_9 : List (Ex × Sk) := [((.exit 2), ⟨[(3, .v false [(.sl 3 [.int .i64], (.own 10000000))])], [], [10000000]⟩)]
def K_i_Schedule_5 : Sk := ⟨[(0, .v false [(.sl 5 [.int .u8], .ro)]), (3, .v false [(.sl 3 [.int .i64], (.own 6000000))]), (4, .v false [(.int .i64, .nil)])], [], [6000000]⟩
def X_i_Schedule_5 : List (Ex × Sk) := [((.exit 0), ⟨[(3, .v false [(.sl 3 [.int .i64], (.own 6000000))])], [], [6000000]⟩)]
def Q_i_Schedule : Loops := fun i st => cond (Nat.beq i 5) (lam K_i_Schedule_5 6000000 X_i_Schedule_5 B_i_Schedule_5 st) <| cond (Nat.beq i 9) (lam K_i_Schedule_9 10000000 X_i_Schedule_9 B_i_Schedule_9 st) <| .fail
theorem lp_i_Schedule_5 : ∀ d, bod ⟨lookT tys, ctrOf C_i_Schedule, kindOf C_i_Schedule, 3, 4⟩ 0 Tryz.f251.ntmps Q_i_Schedule (nthLoop Tryz.f251 0) K_i_Schedule_5 6000000 X_i_Schedule_5 d = B_i_Schedule_5 d := fun d => by kernel_rfl
theorem lo_i_Schedule_5 (cx : Cx) (hp : cx.pin.length ≤ 0) : LoopOk Tryz.prog cx Tryz.f251.ntmps Q_i_Schedule (nthLoop Tryz.f251 0) := loop_of (cfgOk_of mixed tys_ok (show FnsOk Tryz.prog C_i_Schedule from ⟨fn_i_GetN, fn_i_Rot, trivial⟩)) hp (all_of (by kernel_rfl : loopsOf (nthLoop Tryz.f251 0) = []) trivial) (by kernel_rfl) lp_i_Schedule_5
theorem lp_i_Schedule_9 : ∀ d, bod ⟨lookT tys, ctrOf C_i_Schedule, kindOf C_i_Schedule, 3, 4⟩ 0 Tryz.f251.ntmps Q_i_Schedule (nthLoop Tryz.f251 1) K_i_Schedule_9 10000000 X_i_Schedule_9 d = B_i_Schedule_9 d := fun d => by kernel_rfl
theorem lo_i_Schedule_9 (cx : Cx) (hp : cx.pin.length ≤ 0) : LoopOk Tryz.prog cx Tryz.f251.ntmps Q_i_Schedule (nthLoop Tryz.f251 1) := loop_of (cfgOk_of mixed tys_ok (show FnsOk Tryz.prog C_i_Schedule from ⟨fn_i_GetN, fn_i_Rot, trivial⟩)) hp (all_of (by kernel_rfl : loopsOf (nthLoop Tryz.f251 1) = []) trivial) (by kernel_rfl) lp_i_Schedule_9
theorem e_i_Schedule : ∀ d, pcall ⟨lookT tys, ctrOf C_i_Schedule, kindOf C_i_Schedule, 3, 4⟩ 0 Q_i_Schedule Tryz.f251 .plain (mkA P_i_Schedule d) = (T_i_Schedule d.1).run fun r => some (O_i_Schedule r) := fun d => by kernel_rfl
theorem fn_i_Schedule : Fn Tryz.prog 251 .plain F_i_Schedule := fn_of (cfgOk_of mixed tys_ok (show FnsOk Tryz.prog C_i_Schedule from ⟨fn_i_GetN, fn_i_Rot, trivial⟩)) Tryz.func251 (by kernel_rfl) (by kernel_rfl) (fun cx b hp hb => all_of (by kernel_rfl : loopsOf (Tryz.f251.body.getD .skip) = [nthLoop Tryz.f251 0, nthLoop Tryz.f251 1]) ⟨lo_i_Schedule_5 cx hp, lo_i_Schedule_9 cx hp, trivial⟩ b hb) (R := ((List YI) × Unit)) (T := fun (d : aden P_i_Schedule) => T_i_Schedule d.1) e_i_Schedule
theorem round_any (n : Int) (w : World) (h0 : 0 ≤ n) (h1 : n ≤ 63) :
    Calls Tryz.prog 253 #[.int .i64 n] w (Ret w (.int .i64 (roundL[n.toNat]?.getD 0))) := by
  have hx : ∃ x, roundL[n.toNat]? = some x := ⟨_, List.getElem?_eq_getElem (by simp [roundL]; omega)⟩
  obtain ⟨x, hx⟩ := hx
  have hcell : (putRow 239 w roundC).cell? ⟨w.heap.size, n.toNat, none⟩ = some (.int .i64 x) := by
    rw [putRow_cell]; unfold roundC; rw [List.getElem?_toArray, List.getElem?_map, hx]; rfl
  rw [hx]
  go_enter Tryz.func253, Tryz.ntmps253
  go_wp2_with (first | (refine wpList_buildC rfl 239 _ rfl roundC (by kernel_rfl) ?_) | (refine wpList_allocC rfl 239 rfl _ _ zeroC (by kernel_rfl) (by kernel_rfl) (by kernel_rfl) ?_) | (refine wpList_storeC rfl 239 _ _ rfl roundC rfl rfl (by kernel_rfl) (by kernel_rfl) (by kernel_rfl) ?_))
  go_ret
  refine Ret.mk rfl ?_
  rw [putRow_eq]
  exact (Grew.refl _).alloc _
theorem round_out (n : Int) (w : World) (h0 : ¬ (0 ≤ n ∧ n ≤ 63)) :
    Calls Tryz.prog 253 #[.int .i64 n] w (Ret w (.int .i64 0)) := by
  by_cases h : n < 0
  · go_enter Tryz.func253, Tryz.ntmps253
    go_wp2_with fail
    go_ret
    exact Ret.mk rfl (Grew.refl _)
  · have h2 : 63 < n := by omega
    go_enter Tryz.func253, Tryz.ntmps253
    go_wp2_with fail
    go_ret
    exact Ret.mk rfl (Grew.refl _)
def P_i_RoundWord : List (Bool × List Sh) := [(false, [.int .i64])]
def O_i_RoundWord (r : YI) : List RV × List RV := ([rv (false, [.int .i64]) r], [])
def F_i_RoundWord : Fun1 := funV P_i_RoundWord (fun d => (T_i_RoundWord d.1).val) O_i_RoundWord
theorem fn_i_RoundWord : Fn Tryz.prog 253 .plain F_i_RoundWord := by
  refine ⟨?_, Tryz.f253, Tryz.func253, by kernel_rfl, by kernel_rfl⟩
  intro rs res vals w G hv hG hr
  obtain ⟨d, x, rfl, h1, h2⟩ := funV_val hv
  obtain ⟨⟨n, _⟩, _⟩ := d
  cases h1
  subst h2
  match vals, hr with
  | [v], hr =>
    have e : v = .int .i64 n := hr.1.1.1
    subst e
    refine (?_ : Calls Tryz.prog 253 #[.int .i64 n] w (Ret w (.int .i64 (roundW n)))).mono fun e w' h => gives_int (roundW_wf n) h
    unfold roundW
    by_cases h : 0 ≤ n ∧ n ≤ 63
    · rw [if_pos h]; exact round_any n w h.1 h.2
    · rw [if_neg h]; exact round_out n w h

def P_i_Add32 : List (Bool × List Sh) := [(false, [.int .i64]), (false, [.int .i64])]
def O_i_Add32 (r : (YI)) : List RV × List RV := ([rv (false, [.int .i64]) r], [])
def C_i_Add32 : Fns := []
def F_i_Add32 : Fun1 := funV P_i_Add32 (fun d => (T_i_Add32 d.1 d.2.1).val) O_i_Add32
def Q_i_Add32 : Loops := fun _ _ => .fail
theorem e_i_Add32 : ∀ d, pcall ⟨lookT tys, ctrOf C_i_Add32, kindOf C_i_Add32, 3, 4⟩ 0 Q_i_Add32 Tryz.f254 .plain (mkA P_i_Add32 d) = (T_i_Add32 d.1 d.2.1).run fun r => some (O_i_Add32 r) := fun d => by kernel_rfl
theorem fn_i_Add32 : Fn Tryz.prog 254 .plain F_i_Add32 := fn_of (cfgOk_of mixed tys_ok (show FnsOk Tryz.prog C_i_Add32 from trivial)) Tryz.func254 (by kernel_rfl) (by kernel_rfl) (fun cx b hp hb => all_of (by kernel_rfl : loopsOf (Tryz.f254.body.getD .skip) = []) trivial b hb) (R := (YI)) (T := fun (d : aden P_i_Add32) => T_i_Add32 d.1 d.2.1) e_i_Add32
def P_i_Compress : List (Bool × List Sh) := [(false, [.sl 3 [.int .i64]]), (false, [.sl 5 [.int .u8]])]
def O_i_Compress (r : ((List YI) × Unit)) : List RV × List RV := ([rv (false, [.sl 3 [.int .i64]]) r], [])
def C_i_Compress : Fns := [(231, .plain, F_i_areWords), (251, .plain, F_i_Schedule), (252, .plain, F_i_Rot), (253, .plain, F_i_RoundWord), (254, .plain, F_i_Add32)]
def F_i_Compress : Fun1 := funV P_i_Compress (fun d => (T_i_Compress d.1 d.2.1).val) O_i_Compress
def K_i_Compress_16 : Sk := ⟨[(0, .v false [(.sl 3 [.int .i64], .ro)]), (5, .v false [(.sl 3 [.int .i64], (.own 17000000))]), (133, .v false [(.sl 3 [.int .i64], (.own 17000001))]), (134, .v false [(.int .i64, .nil)]), (135, .v false [(.int .i64, .nil)])], [], [17000000, 17000001]⟩
def X_i_Compress_16 : List (Ex × Sk) := [((.exit 2), ⟨[(5, .v false [(.sl 3 [.int .i64], (.own 17000000))])], [], [17000000]⟩)]
def K_i_Compress_7 : Sk := ⟨[(0, .v false [(.sl 3 [.int .i64], .ro)]), (5, .v false [(.sl 3 [.int .i64], (.own 8000000))]), (6, .v false [(.sl 3 [.int .i64], (.own 8000001))]), (7, .v false [(.int .i64, .nil)]), (8, .v false [(.int .i64, .nil)]), (9, .v false [(.int .i64, .nil)]), (10, .v false [(.int .i64, .nil)]), (11, .v false [(.int .i64, .nil)]), (12, .v false [(.int .i64, .nil)]), (13, .v false [(.int .i64, .nil)]), (14, .v false [(.int .i64, .nil)]), (15, .v false [(.int .i64, .nil)])], [], [8000000, 8000001]⟩
def X_i_Compress_7 : List (Ex × Sk) := [((.exit 0), ⟨[(0, .v false [(.sl 3 [.int .i64], .ro)]), (5, .v false [(.sl 3 [.int .i64], (.own 8000000))]), (7, .v false [(.int .i64, .nil)]), (8, .v false [(.int .i64, .nil)]), (9, .v false [(.int .i64, .nil)]), (10, .v false [(.int .i64, .nil)]), (11, .v false [(.int .i64, .nil)]), (12, .v false [(.int .i64, .nil)]), (13, .v false [(.int .i64, .nil)]), (14, .v false [(.int .i64, .nil)])], [], [8000000]⟩)]
def Q_i_Compress : Loops := fun i st => cond (Nat.beq i 7) (lam K_i_Compress_7 8000000 X_i_Compress_7 B_i_Compress_7 st) <| cond (Nat.beq i 16) (lam K_i_Compress_16 17000000 X_i_Compress_16 B_i_Compress_16 st) <| .fail
theorem lp_i_Compress_7 : ∀ d, bod ⟨lookT tys, ctrOf C_i_Compress, kindOf C_i_Compress, 3, 4⟩ 0 Tryz.f250.ntmps Q_i_Compress (nthLoop Tryz.f250 0) K_i_Compress_7 8000000 X_i_Compress_7 d = B_i_Compress_7 d := fun d => by kernel_rfl
theorem lo_i_Compress_7 (cx : Cx) (hp : cx.pin.length ≤ 0) : LoopOk Tryz.prog cx Tryz.f250.ntmps Q_i_Compress (nthLoop Tryz.f250 0) := loop_of (cfgOk_of mixed tys_ok (show FnsOk Tryz.prog C_i_Compress from ⟨fn_i_areWords, fn_i_Schedule, fn_i_Rot, fn_i_RoundWord, fn_i_Add32, trivial⟩)) hp (all_of (by kernel_rfl : loopsOf (nthLoop Tryz.f250 0) = []) trivial) (by kernel_rfl) lp_i_Compress_7
theorem lp_i_Compress_16 : ∀ d, bod ⟨lookT tys, ctrOf C_i_Compress, kindOf C_i_Compress, 3, 4⟩ 0 Tryz.f250.ntmps Q_i_Compress (nthLoop Tryz.f250 1) K_i_Compress_16 17000000 X_i_Compress_16 d = B_i_Compress_16 d := fun d => by kernel_rfl
theorem lo_i_Compress_16 (cx : Cx) (hp : cx.pin.length ≤ 0) : LoopOk Tryz.prog cx Tryz.f250.ntmps Q_i_Compress (nthLoop Tryz.f250 1) := loop_of (cfgOk_of mixed tys_ok (show FnsOk Tryz.prog C_i_Compress from ⟨fn_i_areWords, fn_i_Schedule, fn_i_Rot, fn_i_RoundWord, fn_i_Add32, trivial⟩)) hp (all_of (by kernel_rfl : loopsOf (nthLoop Tryz.f250 1) = []) trivial) (by kernel_rfl) lp_i_Compress_16
theorem e_i_Compress : ∀ d, pcall ⟨lookT tys, ctrOf C_i_Compress, kindOf C_i_Compress, 3, 4⟩ 0 Q_i_Compress Tryz.f250 .plain (mkA P_i_Compress d) = (T_i_Compress d.1 d.2.1).run fun r => some (O_i_Compress r) := fun d => by kernel_rfl
theorem fn_i_Compress : Fn Tryz.prog 250 .plain F_i_Compress := fn_of (cfgOk_of mixed tys_ok (show FnsOk Tryz.prog C_i_Compress from ⟨fn_i_areWords, fn_i_Schedule, fn_i_Rot, fn_i_RoundWord, fn_i_Add32, trivial⟩)) Tryz.func250 (by kernel_rfl) (by kernel_rfl) (fun cx b hp hb => all_of (by kernel_rfl : loopsOf (Tryz.f250.body.getD .skip) = [nthLoop Tryz.f250 0, nthLoop Tryz.f250 1]) ⟨lo_i_Compress_7 cx hp, lo_i_Compress_16 cx hp, trivial⟩ b hb) (R := ((List YI) × Unit)) (T := fun (d : aden P_i_Compress) => T_i_Compress d.1 d.2.1) e_i_Compress
def P_i_compressAll : List (Bool × List Sh) := [(false, [.sl 3 [.int .i64]]), (false, [.sl 5 [.int .u8]])]
def O_i_compressAll (r : ((List YI) × Unit) × (YBs)) : List RV × List RV := ([rv (false, [.sl 3 [.int .i64]]) r.1, rv (false, [.sl 5 [.int .u8]]) r.2], [])
def C_i_compressAll : Fns := [(250, .plain, F_i_Compress)]
def F_i_compressAll : Fun1 := funV P_i_compressAll (fun d => (T_i_compressAll d.1 d.2.1).val) O_i_compressAll
def K_i_compressAll_1 : Sk := ⟨[(0, .v false [(.sl 3 [.int .i64], .rd)]), (1, .v false [(.sl 5 [.int .u8], .ro)])], [], []⟩
def X_i_compressAll_1 : List (Ex × Sk) := [((.exit 0), ⟨[(0, .v false [(.sl 3 [.int .i64], .rd)]), (1, .v false [(.sl 5 [.int .u8], .ro)])], [], []⟩)]
def Q_i_compressAll : Loops := fun i st => cond (Nat.beq i 1) (lam K_i_compressAll_1 2000000 X_i_compressAll_1 B_i_compressAll_1 st) <| .fail
theorem lp_i_compressAll_1 : ∀ d, bod ⟨lookT tys, ctrOf C_i_compressAll, kindOf C_i_compressAll, 3, 4⟩ 0 Tryz.f245.ntmps Q_i_compressAll (nthLoop Tryz.f245 0) K_i_compressAll_1 2000000 X_i_compressAll_1 d = B_i_compressAll_1 d := fun d => by kernel_rfl
theorem lo_i_compressAll_1 (cx : Cx) (hp : cx.pin.length ≤ 0) : LoopOk Tryz.prog cx Tryz.f245.ntmps Q_i_compressAll (nthLoop Tryz.f245 0) := loop_of (cfgOk_of mixed tys_ok (show FnsOk Tryz.prog C_i_compressAll from ⟨fn_i_Compress, trivial⟩)) hp (all_of (by kernel_rfl : loopsOf (nthLoop Tryz.f245 0) = []) trivial) (by kernel_rfl) lp_i_compressAll_1
theorem e_i_compressAll : ∀ d, pcall ⟨lookT tys, ctrOf C_i_compressAll, kindOf C_i_compressAll, 3, 4⟩ 0 Q_i_compressAll Tryz.f245 .view (mkA P_i_compressAll d) = (T_i_compressAll d.1 d.2.1).run fun r => some (O_i_compressAll r) := fun d => by kernel_rfl
theorem fn_i_compressAll : Fn Tryz.prog 245 .view F_i_compressAll := fn_of (cfgOk_of mixed tys_ok (show FnsOk Tryz.prog C_i_compressAll from ⟨fn_i_Compress, trivial⟩)) Tryz.func245 (by kernel_rfl) (by kernel_rfl) (fun cx b hp hb => all_of (by kernel_rfl : loopsOf (Tryz.f245.body.getD .skip) = [nthLoop Tryz.f245 0]) ⟨lo_i_compressAll_1 cx hp, trivial⟩ b hb) (R := ((List YI) × Unit) × (YBs)) (T := fun (d : aden P_i_compressAll) => T_i_compressAll d.1 d.2.1) e_i_compressAll
def P_i_HashAdd : List (Bool × List Sh) := [(true, h_3), (false, [.sl 5 [.int .u8]])]
def O_i_HashAdd (r : (YHash)) : List RV × List RV := ([rv (true, h_3) r], [])
def C_i_HashAdd : Fns := [(244, .plain, F_i_HashOk), (91, .plain, F_i_clone), (208, .plain, F_i_joined), (245, .view, F_i_compressAll)]
def F_i_HashAdd : Fun1 := funV P_i_HashAdd (fun d => (T_i_HashAdd d.1 d.2.1).val) O_i_HashAdd
def Q_i_HashAdd : Loops := fun _ _ => .fail
theorem e_i_HashAdd : ∀ d, pcall ⟨lookT tys, ctrOf C_i_HashAdd, kindOf C_i_HashAdd, 3, 4⟩ 0 Q_i_HashAdd Tryz.f238 .plain (mkA P_i_HashAdd d) = (T_i_HashAdd d.1 d.2.1).run fun r => some (O_i_HashAdd r) := fun d => by kernel_rfl
theorem fn_i_HashAdd : Fn Tryz.prog 238 .plain F_i_HashAdd := fn_of (cfgOk_of mixed tys_ok (show FnsOk Tryz.prog C_i_HashAdd from ⟨fn_i_HashOk, fn_i_clone, fn_i_joined, fn_i_compressAll, trivial⟩)) Tryz.func238 (by kernel_rfl) (by kernel_rfl) (fun cx b hp hb => all_of (by kernel_rfl : loopsOf (Tryz.f238.body.getD .skip) = []) trivial b hb) (R := (YHash)) (T := fun (d : aden P_i_HashAdd) => T_i_HashAdd d.1 d.2.1) e_i_HashAdd
def P_i_PutN : List (Bool × List Sh) := [(false, [.sl 5 [.int .u8]]), (false, [.int .i64]), (false, [.int .i64])]
def O_i_PutN (r : (YBs)) : List RV × List RV := ([rv (false, [.sl 5 [.int .u8]]) r], [])
def C_i_PutN : Fns := []
def F_i_PutN : Fun1 := funV P_i_PutN (fun d => (T_i_PutN d.1 d.2.1 d.2.2.1).val) O_i_PutN
def K_i_PutN_5 : Sk := ⟨[(1, .v false [(.int .i64, .nil)]), (7, .v false [(.sl 5 [.int .u8], (.own 6000000))]), (8, .v false [(.int .i64, .nil)])], [], [6000000]⟩
def X_i_PutN_5 : List (Ex × Sk) := [((.exit 0), ⟨[(7, .v false [(.sl 5 [.int .u8], (.own 6000000))])], [], [6000000]⟩)]
def Q_i_PutN : Loops := fun i st => cond (Nat.beq i 5) (lam K_i_PutN_5 6000000 X_i_PutN_5 B_i_PutN_5 st) <| .fail
theorem lp_i_PutN_5 : ∀ d, bod ⟨lookT tys, ctrOf C_i_PutN, kindOf C_i_PutN, 3, 4⟩ 0 Tryz.f214.ntmps Q_i_PutN (nthLoop Tryz.f214 0) K_i_PutN_5 6000000 X_i_PutN_5 d = B_i_PutN_5 d := fun d => by kernel_rfl
theorem lo_i_PutN_5 (cx : Cx) (hp : cx.pin.length ≤ 0) : LoopOk Tryz.prog cx Tryz.f214.ntmps Q_i_PutN (nthLoop Tryz.f214 0) := loop_of (cfgOk_of mixed tys_ok (show FnsOk Tryz.prog C_i_PutN from trivial)) hp (all_of (by kernel_rfl : loopsOf (nthLoop Tryz.f214 0) = []) trivial) (by kernel_rfl) lp_i_PutN_5
theorem e_i_PutN : ∀ d, pcall ⟨lookT tys, ctrOf C_i_PutN, kindOf C_i_PutN, 3, 4⟩ 0 Q_i_PutN Tryz.f214 .plain (mkA P_i_PutN d) = (T_i_PutN d.1 d.2.1 d.2.2.1).run fun r => some (O_i_PutN r) := fun d => by kernel_rfl
theorem fn_i_PutN : Fn Tryz.prog 214 .plain F_i_PutN := fn_of (cfgOk_of mixed tys_ok (show FnsOk Tryz.prog C_i_PutN from trivial)) Tryz.func214 (by kernel_rfl) (by kernel_rfl) (fun cx b hp hb => all_of (by kernel_rfl : loopsOf (Tryz.f214.body.getD .skip) = [nthLoop Tryz.f214 0]) ⟨lo_i_PutN_5 cx hp, trivial⟩ b hb) (R := (YBs)) (T := fun (d : aden P_i_PutN) => T_i_PutN d.1 d.2.1 d.2.2.1) e_i_PutN
def P_i_Pad : List (Bool × List Sh) := [(false, [.int .i64])]
def O_i_Pad (r : (YBs)) : List RV × List RV := ([rv (false, [.sl 5 [.int .u8]]) r], [])
def C_i_Pad : Fns := [(88, .plain, F_i_within), (214, .plain, F_i_PutN)]
def F_i_Pad : Fun1 := funV P_i_Pad (fun d => (T_i_Pad d.1).val) O_i_Pad
def K_i_Pad_4 : Sk := ⟨[(0, .v false [(.int .i64, .nil)]), (3, .v false [(.sl 5 [.int .u8], (.own 5000000))])], [], [5000000]⟩
def X_i_Pad_4 : List (Ex × Sk) := [((.exit 0), ⟨[(0, .v false [(.int .i64, .nil)]), (3, .v false [(.sl 5 [.int .u8], (.own 5000000))])], [], [5000000]⟩)]
def Q_i_Pad : Loops := fun i st => cond (Nat.beq i 4) (lam K_i_Pad_4 5000000 X_i_Pad_4 B_i_Pad_4 st) <| .fail
theorem lp_i_Pad_4 : ∀ d, bod ⟨lookT tys, ctrOf C_i_Pad, kindOf C_i_Pad, 3, 4⟩ 0 Tryz.f246.ntmps Q_i_Pad (nthLoop Tryz.f246 0) K_i_Pad_4 5000000 X_i_Pad_4 d = B_i_Pad_4 d := fun d => by kernel_rfl
theorem lo_i_Pad_4 (cx : Cx) (hp : cx.pin.length ≤ 0) : LoopOk Tryz.prog cx Tryz.f246.ntmps Q_i_Pad (nthLoop Tryz.f246 0) := loop_of (cfgOk_of mixed tys_ok (show FnsOk Tryz.prog C_i_Pad from ⟨fn_i_within, fn_i_PutN, trivial⟩)) hp (all_of (by kernel_rfl : loopsOf (nthLoop Tryz.f246 0) = []) trivial) (by kernel_rfl) lp_i_Pad_4
theorem e_i_Pad : ∀ d, pcall ⟨lookT tys, ctrOf C_i_Pad, kindOf C_i_Pad, 3, 4⟩ 0 Q_i_Pad Tryz.f246 .plain (mkA P_i_Pad d) = (T_i_Pad d.1).run fun r => some (O_i_Pad r) := fun d => by kernel_rfl
theorem fn_i_Pad : Fn Tryz.prog 246 .plain F_i_Pad := fn_of (cfgOk_of mixed tys_ok (show FnsOk Tryz.prog C_i_Pad from ⟨fn_i_within, fn_i_PutN, trivial⟩)) Tryz.func246 (by kernel_rfl) (by kernel_rfl) (fun cx b hp hb => all_of (by kernel_rfl : loopsOf (Tryz.f246.body.getD .skip) = [nthLoop Tryz.f246 0]) ⟨lo_i_Pad_4 cx hp, trivial⟩ b hb) (R := (YBs)) (T := fun (d : aden P_i_Pad) => T_i_Pad d.1) e_i_Pad
def P_i_wordBytes : List (Bool × List Sh) := [(false, [.sl 3 [.int .i64]])]
def O_i_wordBytes (r : (YBs)) : List RV × List RV := ([rv (false, [.sl 5 [.int .u8]]) r], [])
def C_i_wordBytes : Fns := [(214, .plain, F_i_PutN)]
def F_i_wordBytes : Fun1 := funV P_i_wordBytes (fun d => (T_i_wordBytes d.1).val) O_i_wordBytes
def K_i_wordBytes_3 : Sk := ⟨[(3, .v false [(.sl 5 [.int .u8], (.own 4000000))]), (7, .v false [(.sl 3 [.int .i64], .ro)]), (8, .v false [(.int .i64, .nil)]), (9, .v false [(.int .i64, .nil)])], [], [4000000]⟩
def X_i_wordBytes_3 : List (Ex × Sk) := [((.exit 0), ⟨[(3, .v false [(.sl 5 [.int .u8], (.own 4000000))])], [], [4000000]⟩)]
def Q_i_wordBytes : Loops := fun i st => cond (Nat.beq i 3) (lam K_i_wordBytes_3 4000000 X_i_wordBytes_3 B_i_wordBytes_3 st) <| .fail
theorem lp_i_wordBytes_3 : ∀ d, bod ⟨lookT tys, ctrOf C_i_wordBytes, kindOf C_i_wordBytes, 3, 4⟩ 0 Tryz.f247.ntmps Q_i_wordBytes (nthLoop Tryz.f247 0) K_i_wordBytes_3 4000000 X_i_wordBytes_3 d = B_i_wordBytes_3 d := fun d => by kernel_rfl
theorem lo_i_wordBytes_3 (cx : Cx) (hp : cx.pin.length ≤ 0) : LoopOk Tryz.prog cx Tryz.f247.ntmps Q_i_wordBytes (nthLoop Tryz.f247 0) := loop_of (cfgOk_of mixed tys_ok (show FnsOk Tryz.prog C_i_wordBytes from ⟨fn_i_PutN, trivial⟩)) hp (all_of (by kernel_rfl : loopsOf (nthLoop Tryz.f247 0) = []) trivial) (by kernel_rfl) lp_i_wordBytes_3
theorem e_i_wordBytes : ∀ d, pcall ⟨lookT tys, ctrOf C_i_wordBytes, kindOf C_i_wordBytes, 3, 4⟩ 0 Q_i_wordBytes Tryz.f247 .plain (mkA P_i_wordBytes d) = (T_i_wordBytes d.1).run fun r => some (O_i_wordBytes r) := fun d => by kernel_rfl
theorem fn_i_wordBytes : Fn Tryz.prog 247 .plain F_i_wordBytes := fn_of (cfgOk_of mixed tys_ok (show FnsOk Tryz.prog C_i_wordBytes from ⟨fn_i_PutN, trivial⟩)) Tryz.func247 (by kernel_rfl) (by kernel_rfl) (fun cx b hp hb => all_of (by kernel_rfl : loopsOf (Tryz.f247.body.getD .skip) = [nthLoop Tryz.f247 0]) ⟨lo_i_wordBytes_3 cx hp, trivial⟩ b hb) (R := (YBs)) (T := fun (d : aden P_i_wordBytes) => T_i_wordBytes d.1) e_i_wordBytes
def P_i_HashEnd : List (Bool × List Sh) := [(true, h_3)]
def O_i_HashEnd (r : (YBs)) : List RV × List RV := ([rv (false, [.sl 5 [.int .u8]]) r], [])
def C_i_HashEnd : Fns := [(244, .plain, F_i_HashOk), (246, .plain, F_i_Pad), (208, .plain, F_i_joined), (245, .view, F_i_compressAll), (247, .plain, F_i_wordBytes)]
def F_i_HashEnd : Fun1 := funV P_i_HashEnd (fun d => (T_i_HashEnd d.1).val) O_i_HashEnd
def Q_i_HashEnd : Loops := fun _ _ => .fail
theorem e_i_HashEnd : ∀ d, pcall ⟨lookT tys, ctrOf C_i_HashEnd, kindOf C_i_HashEnd, 3, 4⟩ 0 Q_i_HashEnd Tryz.f237 .plain (mkA P_i_HashEnd d) = (T_i_HashEnd d.1).run fun r => some (O_i_HashEnd r) := fun d => by kernel_rfl
theorem fn_i_HashEnd : Fn Tryz.prog 237 .plain F_i_HashEnd := fn_of (cfgOk_of mixed tys_ok (show FnsOk Tryz.prog C_i_HashEnd from ⟨fn_i_HashOk, fn_i_Pad, fn_i_joined, fn_i_compressAll, fn_i_wordBytes, trivial⟩)) Tryz.func237 (by kernel_rfl) (by kernel_rfl) (fun cx b hp hb => all_of (by kernel_rfl : loopsOf (Tryz.f237.body.getD .skip) = []) trivial b hb) (R := (YBs)) (T := fun (d : aden P_i_HashEnd) => T_i_HashEnd d.1) e_i_HashEnd
def P_i_Sha : List (Bool × List Sh) := [(false, [.sl 5 [.int .u8]])]
def O_i_Sha (r : (YBs)) : List RV × List RV := ([rv (false, [.sl 5 [.int .u8]]) r], [])
def C_i_Sha : Fns := [(239, .plain, F_i_HashNew), (238, .plain, F_i_HashAdd), (237, .plain, F_i_HashEnd)]
def F_i_Sha : Fun1 := funV P_i_Sha (fun d => (T_i_Sha d.1).val) O_i_Sha
def Q_i_Sha : Loops := fun _ _ => .fail
theorem e_i_Sha : ∀ d, pcall ⟨lookT tys, ctrOf C_i_Sha, kindOf C_i_Sha, 3, 4⟩ 0 Q_i_Sha Tryz.f228 .plain (mkA P_i_Sha d) = (T_i_Sha d.1).run fun r => some (O_i_Sha r) := fun d => by kernel_rfl
theorem fn_i_Sha : Fn Tryz.prog 228 .plain F_i_Sha := fn_of (cfgOk_of mixed tys_ok (show FnsOk Tryz.prog C_i_Sha from ⟨fn_i_HashNew, fn_i_HashAdd, fn_i_HashEnd, trivial⟩)) Tryz.func228 (by kernel_rfl) (by kernel_rfl) (fun cx b hp hb => all_of (by kernel_rfl : loopsOf (Tryz.f228.body.getD .skip) = []) trivial b hb) (R := (YBs)) (T := fun (d : aden P_i_Sha) => T_i_Sha d.1) e_i_Sha
def P_i_BlockKey : List (Bool × List Sh) := [(false, [.sl 5 [.int .u8]])]
def O_i_BlockKey (r : (YBs)) : List RV × List RV := ([rv (false, [.sl 5 [.int .u8]]) r], [])
def C_i_BlockKey : Fns := [(91, .plain, F_i_clone), (228, .plain, F_i_Sha)]
def F_i_BlockKey : Fun1 := funV P_i_BlockKey (fun d => (T_i_BlockKey d.1).val) O_i_BlockKey
def K_i_BlockKey_6 : Sk := ⟨[(3, .v false [(.sl 5 [.int .u8], (.own 7000000))])], [], [7000000]⟩
def X_i_BlockKey_6 : List (Ex × Sk) := [((.exit 0), ⟨[(3, .v false [(.sl 5 [.int .u8], (.own 7000000))])], [], [7000000]⟩)]
def Q_i_BlockKey : Loops := fun i st => cond (Nat.beq i 6) (lam K_i_BlockKey_6 7000000 X_i_BlockKey_6 B_i_BlockKey_6 st) <| .fail
theorem lp_i_BlockKey_6 : ∀ d, bod ⟨lookT tys, ctrOf C_i_BlockKey, kindOf C_i_BlockKey, 3, 4⟩ 0 Tryz.f227.ntmps Q_i_BlockKey (nthLoop Tryz.f227 0) K_i_BlockKey_6 7000000 X_i_BlockKey_6 d = B_i_BlockKey_6 d := fun d => by kernel_rfl
theorem lo_i_BlockKey_6 (cx : Cx) (hp : cx.pin.length ≤ 0) : LoopOk Tryz.prog cx Tryz.f227.ntmps Q_i_BlockKey (nthLoop Tryz.f227 0) := loop_of (cfgOk_of mixed tys_ok (show FnsOk Tryz.prog C_i_BlockKey from ⟨fn_i_clone, fn_i_Sha, trivial⟩)) hp (all_of (by kernel_rfl : loopsOf (nthLoop Tryz.f227 0) = []) trivial) (by kernel_rfl) lp_i_BlockKey_6
theorem e_i_BlockKey : ∀ d, pcall ⟨lookT tys, ctrOf C_i_BlockKey, kindOf C_i_BlockKey, 3, 4⟩ 0 Q_i_BlockKey Tryz.f227 .plain (mkA P_i_BlockKey d) = (T_i_BlockKey d.1).run fun r => some (O_i_BlockKey r) := fun d => by kernel_rfl
theorem fn_i_BlockKey : Fn Tryz.prog 227 .plain F_i_BlockKey := fn_of (cfgOk_of mixed tys_ok (show FnsOk Tryz.prog C_i_BlockKey from ⟨fn_i_clone, fn_i_Sha, trivial⟩)) Tryz.func227 (by kernel_rfl) (by kernel_rfl) (fun cx b hp hb => all_of (by kernel_rfl : loopsOf (Tryz.f227.body.getD .skip) = [nthLoop Tryz.f227 0]) ⟨lo_i_BlockKey_6 cx hp, trivial⟩ b hb) (R := (YBs)) (T := fun (d : aden P_i_BlockKey) => T_i_BlockKey d.1) e_i_BlockKey
def P_i_masked : List (Bool × List Sh) := [(false, [.sl 5 [.int .u8]]), (false, [.int .u8])]
def O_i_masked (r : (YBs)) : List RV × List RV := ([rv (false, [.sl 5 [.int .u8]]) r], [])
def C_i_masked : Fns := []
def F_i_masked : Fun1 := funV P_i_masked (fun d => (T_i_masked d.1 d.2.1).val) O_i_masked
def K_i_masked_3 : Sk := ⟨[(1, .v false [(.int .u8, .nil)]), (5, .v false [(.sl 5 [.int .u8], (.own 4000000))]), (9, .v false [(.sl 5 [.int .u8], .ro)]), (10, .v false [(.int .i64, .nil)]), (11, .v false [(.int .i64, .nil)])], [], [4000000]⟩
def X_i_masked_3 : List (Ex × Sk) := [((.exit 0), ⟨[(5, .v false [(.sl 5 [.int .u8], (.own 4000000))])], [], [4000000]⟩)]
def Q_i_masked : Loops := fun i st => cond (Nat.beq i 3) (lam K_i_masked_3 4000000 X_i_masked_3 B_i_masked_3 st) <| .fail
theorem lp_i_masked_3 : ∀ d, bod ⟨lookT tys, ctrOf C_i_masked, kindOf C_i_masked, 3, 4⟩ 0 Tryz.f229.ntmps Q_i_masked (nthLoop Tryz.f229 0) K_i_masked_3 4000000 X_i_masked_3 d = B_i_masked_3 d := fun d => by kernel_rfl
theorem lo_i_masked_3 (cx : Cx) (hp : cx.pin.length ≤ 0) : LoopOk Tryz.prog cx Tryz.f229.ntmps Q_i_masked (nthLoop Tryz.f229 0) := loop_of (cfgOk_of mixed tys_ok (show FnsOk Tryz.prog C_i_masked from trivial)) hp (all_of (by kernel_rfl : loopsOf (nthLoop Tryz.f229 0) = []) trivial) (by kernel_rfl) lp_i_masked_3
theorem e_i_masked : ∀ d, pcall ⟨lookT tys, ctrOf C_i_masked, kindOf C_i_masked, 3, 4⟩ 0 Q_i_masked Tryz.f229 .plain (mkA P_i_masked d) = (T_i_masked d.1 d.2.1).run fun r => some (O_i_masked r) := fun d => by kernel_rfl
theorem fn_i_masked : Fn Tryz.prog 229 .plain F_i_masked := fn_of (cfgOk_of mixed tys_ok (show FnsOk Tryz.prog C_i_masked from trivial)) Tryz.func229 (by kernel_rfl) (by kernel_rfl) (fun cx b hp hb => all_of (by kernel_rfl : loopsOf (Tryz.f229.body.getD .skip) = [nthLoop Tryz.f229 0]) ⟨lo_i_masked_3 cx hp, trivial⟩ b hb) (R := (YBs)) (T := fun (d : aden P_i_masked) => T_i_masked d.1 d.2.1) e_i_masked
def P_i_Hmac : List (Bool × List Sh) := [(false, [.sl 5 [.int .u8]]), (false, [.sl 5 [.int .u8]])]
def O_i_Hmac (r : (YBs)) : List RV × List RV := ([rv (false, [.sl 5 [.int .u8]]) r], [])
def C_i_Hmac : Fns := [(227, .plain, F_i_BlockKey), (229, .plain, F_i_masked), (208, .plain, F_i_joined), (228, .plain, F_i_Sha)]
def F_i_Hmac : Fun1 := funV P_i_Hmac (fun d => (T_i_Hmac d.1 d.2.1).val) O_i_Hmac
def Q_i_Hmac : Loops := fun _ _ => .fail
theorem e_i_Hmac : ∀ d, pcall ⟨lookT tys, ctrOf C_i_Hmac, kindOf C_i_Hmac, 3, 4⟩ 0 Q_i_Hmac Tryz.f213 .plain (mkA P_i_Hmac d) = (T_i_Hmac d.1 d.2.1).run fun r => some (O_i_Hmac r) := fun d => by kernel_rfl
theorem fn_i_Hmac : Fn Tryz.prog 213 .plain F_i_Hmac := fn_of (cfgOk_of mixed tys_ok (show FnsOk Tryz.prog C_i_Hmac from ⟨fn_i_BlockKey, fn_i_masked, fn_i_joined, fn_i_Sha, trivial⟩)) Tryz.func213 (by kernel_rfl) (by kernel_rfl) (fun cx b hp hb => all_of (by kernel_rfl : loopsOf (Tryz.f213.body.getD .skip) = []) trivial b hb) (R := (YBs)) (T := fun (d : aden P_i_Hmac) => T_i_Hmac d.1 d.2.1) e_i_Hmac
def P_i_Extract : List (Bool × List Sh) := [(false, [.sl 5 [.int .u8]]), (false, [.sl 5 [.int .u8]])]
def O_i_Extract (r : (YBs)) : List RV × List RV := ([rv (false, [.sl 5 [.int .u8]]) r], [])
def C_i_Extract : Fns := [(213, .plain, F_i_Hmac)]
def F_i_Extract : Fun1 := funV P_i_Extract (fun d => (T_i_Extract d.1 d.2.1).val) O_i_Extract
def Q_i_Extract : Loops := fun _ _ => .fail
theorem e_i_Extract : ∀ d, pcall ⟨lookT tys, ctrOf C_i_Extract, kindOf C_i_Extract, 3, 4⟩ 0 Q_i_Extract Tryz.f207 .plain (mkA P_i_Extract d) = (T_i_Extract d.1 d.2.1).run fun r => some (O_i_Extract r) := fun d => by kernel_rfl
theorem fn_i_Extract : Fn Tryz.prog 207 .plain F_i_Extract := fn_of (cfgOk_of mixed tys_ok (show FnsOk Tryz.prog C_i_Extract from ⟨fn_i_Hmac, trivial⟩)) Tryz.func207 (by kernel_rfl) (by kernel_rfl) (fun cx b hp hb => all_of (by kernel_rfl : loopsOf (Tryz.f207.body.getD .skip) = []) trivial b hb) (R := (YBs)) (T := fun (d : aden P_i_Extract) => T_i_Extract d.1 d.2.1) e_i_Extract
def P_i_RootKey : List (Bool × List Sh) := [(false, [.sl 5 [.int .u8]]), (false, [.sl 5 [.int .u8]]), (false, [.sl 5 [.int .u8]])]
def O_i_RootKey (r : (YBs)) : List RV × List RV := ([rv (false, [.sl 5 [.int .u8]]) r], [])
def C_i_RootKey : Fns := [(87, .plain, F_i_PskOk), (105, .plain, F_i_isNonce), (208, .plain, F_i_joined), (207, .plain, F_i_Extract)]
def F_i_RootKey : Fun1 := funV P_i_RootKey (fun d => (T_i_RootKey d.1 d.2.1 d.2.2.1).val) O_i_RootKey
def Q_i_RootKey : Loops := fun _ _ => .fail
theorem e_i_RootKey : ∀ d, pcall ⟨lookT tys, ctrOf C_i_RootKey, kindOf C_i_RootKey, 3, 4⟩ 0 Q_i_RootKey Tryz.f167 .plain (mkA P_i_RootKey d) = (T_i_RootKey d.1 d.2.1 d.2.2.1).run fun r => some (O_i_RootKey r) := fun d => by kernel_rfl
theorem fn_i_RootKey : Fn Tryz.prog 167 .plain F_i_RootKey := fn_of (cfgOk_of mixed tys_ok (show FnsOk Tryz.prog C_i_RootKey from ⟨fn_i_PskOk, fn_i_isNonce, fn_i_joined, fn_i_Extract, trivial⟩)) Tryz.func167 (by kernel_rfl) (by kernel_rfl) (fun cx b hp hb => all_of (by kernel_rfl : loopsOf (Tryz.f167.body.getD .skip) = []) trivial b hb) (R := (YBs)) (T := fun (d : aden P_i_RootKey) => T_i_RootKey d.1 d.2.1 d.2.2.1) e_i_RootKey
def P_i_Expand : List (Bool × List Sh) := [(false, [.sl 5 [.int .u8]]), (false, [.sl 5 [.int .u8]]), (false, [.int .i64])]
def O_i_Expand (r : (YBs) × (Bool × Unit)) : List RV × List RV := ([rv (false, [.sl 5 [.int .u8]]) r.1, rv (false, [.bool]) r.2], [])
def C_i_Expand : Fns := [(88, .plain, F_i_within), (208, .plain, F_i_joined), (213, .plain, F_i_Hmac), (91, .plain, F_i_clone)]
def F_i_Expand : Fun1 := funV P_i_Expand (fun d => (T_i_Expand d.1 d.2.1 d.2.2.1).val) O_i_Expand
def K_i_Expand_6 : Sk := ⟨[(0, .v false [(.sl 5 [.int .u8], .ro)]), (1, .v false [(.sl 5 [.int .u8], .ro)]), (2, .v false [(.int .i64, .nil)]), (8, .v false [(.sl 5 [.int .u8], (.own 7000000))]), (9, .v false [(.sl 5 [.int .u8], (.own 7000001))]), (10, .v false [(.int .i64, .nil)])], [], [7000000, 7000001]⟩
def X_i_Expand_6 : List (Ex × Sk) := [((.exit 0), ⟨[(2, .v false [(.int .i64, .nil)]), (8, .v false [(.sl 5 [.int .u8], (.own 7000000))])], [], [7000000]⟩)]
def Q_i_Expand : Loops := fun i st => cond (Nat.beq i 6) (lam K_i_Expand_6 7000000 X_i_Expand_6 B_i_Expand_6 st) <| .fail
theorem lp_i_Expand_6 : ∀ d, bod ⟨lookT tys, ctrOf C_i_Expand, kindOf C_i_Expand, 3, 4⟩ 0 Tryz.f215.ntmps Q_i_Expand (nthLoop Tryz.f215 0) K_i_Expand_6 7000000 X_i_Expand_6 d = B_i_Expand_6 d := fun d => by kernel_rfl
theorem lo_i_Expand_6 (cx : Cx) (hp : cx.pin.length ≤ 0) : LoopOk Tryz.prog cx Tryz.f215.ntmps Q_i_Expand (nthLoop Tryz.f215 0) := loop_of (cfgOk_of mixed tys_ok (show FnsOk Tryz.prog C_i_Expand from ⟨fn_i_within, fn_i_joined, fn_i_Hmac, fn_i_clone, trivial⟩)) hp (all_of (by kernel_rfl : loopsOf (nthLoop Tryz.f215 0) = []) trivial) (by kernel_rfl) lp_i_Expand_6
theorem e_i_Expand : ∀ d, pcall ⟨lookT tys, ctrOf C_i_Expand, kindOf C_i_Expand, 3, 4⟩ 0 Q_i_Expand Tryz.f215 .plain (mkA P_i_Expand d) = (T_i_Expand d.1 d.2.1 d.2.2.1).run fun r => some (O_i_Expand r) := fun d => by kernel_rfl
theorem fn_i_Expand : Fn Tryz.prog 215 .plain F_i_Expand := fn_of (cfgOk_of mixed tys_ok (show FnsOk Tryz.prog C_i_Expand from ⟨fn_i_within, fn_i_joined, fn_i_Hmac, fn_i_clone, trivial⟩)) Tryz.func215 (by kernel_rfl) (by kernel_rfl) (fun cx b hp hb => all_of (by kernel_rfl : loopsOf (Tryz.f215.body.getD .skip) = [nthLoop Tryz.f215 0]) ⟨lo_i_Expand_6 cx hp, trivial⟩ b hb) (R := (YBs) × (Bool × Unit)) (T := fun (d : aden P_i_Expand) => T_i_Expand d.1 d.2.1 d.2.2.1) e_i_Expand
def P_i_Derive : List (Bool × List Sh) := [(false, [.sl 5 [.int .u8]]), (false, [.str])]
def O_i_Derive (r : (YBs)) : List RV × List RV := ([rv (false, [.sl 5 [.int .u8]]) r], [])
def C_i_Derive : Fns := [(215, .plain, F_i_Expand)]
def F_i_Derive : Fun1 := funV P_i_Derive (fun d => (T_i_Derive d.1 d.2.1).val) O_i_Derive
def Q_i_Derive : Loops := fun _ _ => .fail
theorem e_i_Derive : ∀ d, pcall ⟨lookT tys, ctrOf C_i_Derive, kindOf C_i_Derive, 3, 4⟩ 0 Q_i_Derive Tryz.f184 .plain (mkA P_i_Derive d) = (T_i_Derive d.1 d.2.1).run fun r => some (O_i_Derive r) := fun d => by kernel_rfl
theorem fn_i_Derive : Fn Tryz.prog 184 .plain F_i_Derive := fn_of (cfgOk_of mixed tys_ok (show FnsOk Tryz.prog C_i_Derive from ⟨fn_i_Expand, trivial⟩)) Tryz.func184 (by kernel_rfl) (by kernel_rfl) (fun cx b hp hb => all_of (by kernel_rfl : loopsOf (Tryz.f184.body.getD .skip) = []) trivial b hb) (R := (YBs)) (T := fun (d : aden P_i_Derive) => T_i_Derive d.1 d.2.1) e_i_Derive
def P_i_FirstKey : List (Bool × List Sh) := [(false, [.sl 5 [.int .u8]])]
def O_i_FirstKey (r : (YBs)) : List RV × List RV := ([rv (false, [.sl 5 [.int .u8]]) r], [])
def C_i_FirstKey : Fns := [(184, .plain, F_i_Derive)]
def F_i_FirstKey : Fun1 := funV P_i_FirstKey (fun d => (T_i_FirstKey d.1).val) O_i_FirstKey
def Q_i_FirstKey : Loops := fun _ _ => .fail
theorem e_i_FirstKey : ∀ d, pcall ⟨lookT tys, ctrOf C_i_FirstKey, kindOf C_i_FirstKey, 3, 4⟩ 0 Q_i_FirstKey Tryz.f166 .plain (mkA P_i_FirstKey d) = (T_i_FirstKey d.1).run fun r => some (O_i_FirstKey r) := fun d => by kernel_rfl
theorem fn_i_FirstKey : Fn Tryz.prog 166 .plain F_i_FirstKey := fn_of (cfgOk_of mixed tys_ok (show FnsOk Tryz.prog C_i_FirstKey from ⟨fn_i_Derive, trivial⟩)) Tryz.func166 (by kernel_rfl) (by kernel_rfl) (fun cx b hp hb => all_of (by kernel_rfl : loopsOf (Tryz.f166.body.getD .skip) = []) trivial b hb) (R := (YBs)) (T := fun (d : aden P_i_FirstKey) => T_i_FirstKey d.1) e_i_FirstKey
def P_i_Chain : List (Bool × List Sh) := [(false, [.sl 5 [.int .u8]]), (false, [.int .i64])]
def O_i_Chain (r : (YBs)) : List RV × List RV := ([rv (false, [.sl 5 [.int .u8]]) r], [])
def C_i_Chain : Fns := [(88, .plain, F_i_within), (91, .plain, F_i_clone), (184, .plain, F_i_Derive)]
def F_i_Chain : Fun1 := funV P_i_Chain (fun d => (T_i_Chain d.1 d.2.1).val) O_i_Chain
def K_i_Chain_5 : Sk := ⟨[(1, .v false [(.int .i64, .nil)]), (5, .v false [(.sl 5 [.int .u8], (.own 6000000))]), (6, .v false [(.int .i64, .nil)])], [], [6000000]⟩
def X_i_Chain_5 : List (Ex × Sk) := [((.exit 0), ⟨[(5, .v false [(.sl 5 [.int .u8], (.own 6000000))])], [], [6000000]⟩)]
def Q_i_Chain : Loops := fun i st => cond (Nat.beq i 5) (lam K_i_Chain_5 6000000 X_i_Chain_5 B_i_Chain_5 st) <| .fail
theorem lp_i_Chain_5 : ∀ d, bod ⟨lookT tys, ctrOf C_i_Chain, kindOf C_i_Chain, 3, 4⟩ 0 Tryz.f168.ntmps Q_i_Chain (nthLoop Tryz.f168 0) K_i_Chain_5 6000000 X_i_Chain_5 d = B_i_Chain_5 d := fun d => by kernel_rfl
theorem lo_i_Chain_5 (cx : Cx) (hp : cx.pin.length ≤ 0) : LoopOk Tryz.prog cx Tryz.f168.ntmps Q_i_Chain (nthLoop Tryz.f168 0) := loop_of (cfgOk_of mixed tys_ok (show FnsOk Tryz.prog C_i_Chain from ⟨fn_i_within, fn_i_clone, fn_i_Derive, trivial⟩)) hp (all_of (by kernel_rfl : loopsOf (nthLoop Tryz.f168 0) = []) trivial) (by kernel_rfl) lp_i_Chain_5
theorem e_i_Chain : ∀ d, pcall ⟨lookT tys, ctrOf C_i_Chain, kindOf C_i_Chain, 3, 4⟩ 0 Q_i_Chain Tryz.f168 .plain (mkA P_i_Chain d) = (T_i_Chain d.1 d.2.1).run fun r => some (O_i_Chain r) := fun d => by kernel_rfl
theorem fn_i_Chain : Fn Tryz.prog 168 .plain F_i_Chain := fn_of (cfgOk_of mixed tys_ok (show FnsOk Tryz.prog C_i_Chain from ⟨fn_i_within, fn_i_clone, fn_i_Derive, trivial⟩)) Tryz.func168 (by kernel_rfl) (by kernel_rfl) (fun cx b hp hb => all_of (by kernel_rfl : loopsOf (Tryz.f168.body.getD .skip) = [nthLoop Tryz.f168 0]) ⟨lo_i_Chain_5 cx hp, trivial⟩ b hb) (R := (YBs)) (T := fun (d : aden P_i_Chain) => T_i_Chain d.1 d.2.1) e_i_Chain
def P_i_EpochKey : List (Bool × List Sh) := [(false, [.sl 5 [.int .u8]]), (false, [.sl 5 [.int .u8]]), (false, [.sl 5 [.int .u8]]), (false, [.int .i64])]
def O_i_EpochKey (r : (YBs)) : List RV × List RV := ([rv (false, [.sl 5 [.int .u8]]) r], [])
def C_i_EpochKey : Fns := [(167, .plain, F_i_RootKey), (166, .plain, F_i_FirstKey), (168, .plain, F_i_Chain)]
def F_i_EpochKey : Fun1 := funV P_i_EpochKey (fun d => (T_i_EpochKey d.1 d.2.1 d.2.2.1 d.2.2.2.1).val) O_i_EpochKey
def Q_i_EpochKey : Loops := fun _ _ => .fail
theorem e_i_EpochKey : ∀ d, pcall ⟨lookT tys, ctrOf C_i_EpochKey, kindOf C_i_EpochKey, 3, 4⟩ 0 Q_i_EpochKey Tryz.f94 .plain (mkA P_i_EpochKey d) = (T_i_EpochKey d.1 d.2.1 d.2.2.1 d.2.2.2.1).run fun r => some (O_i_EpochKey r) := fun d => by kernel_rfl
theorem fn_i_EpochKey : Fn Tryz.prog 94 .plain F_i_EpochKey := fn_of (cfgOk_of mixed tys_ok (show FnsOk Tryz.prog C_i_EpochKey from ⟨fn_i_RootKey, fn_i_FirstKey, fn_i_Chain, trivial⟩)) Tryz.func94 (by kernel_rfl) (by kernel_rfl) (fun cx b hp hb => all_of (by kernel_rfl : loopsOf (Tryz.f94.body.getD .skip) = []) trivial b hb) (R := (YBs)) (T := fun (d : aden P_i_EpochKey) => T_i_EpochKey d.1 d.2.1 d.2.2.1 d.2.2.2.1) e_i_EpochKey
def P_i_isRole : List (Bool × List Sh) := [(false, [.int .i64])]
def O_i_isRole (r : (Bool × Unit)) : List RV × List RV := ([rv (false, [.bool]) r], [])
def C_i_isRole : Fns := []
def F_i_isRole : Fun1 := funV P_i_isRole (fun d => (T_i_isRole d.1).val) O_i_isRole
def Q_i_isRole : Loops := fun _ _ => .fail
theorem e_i_isRole : ∀ d, pcall ⟨lookT tys, ctrOf C_i_isRole, kindOf C_i_isRole, 3, 4⟩ 0 Q_i_isRole Tryz.f164 .plain (mkA P_i_isRole d) = (T_i_isRole d.1).run fun r => some (O_i_isRole r) := fun d => by kernel_rfl
theorem fn_i_isRole : Fn Tryz.prog 164 .plain F_i_isRole := fn_of (cfgOk_of mixed tys_ok (show FnsOk Tryz.prog C_i_isRole from trivial)) Tryz.func164 (by kernel_rfl) (by kernel_rfl) (fun cx b hp hb => all_of (by kernel_rfl : loopsOf (Tryz.f164.body.getD .skip) = []) trivial b hb) (R := (Bool × Unit)) (T := fun (d : aden P_i_isRole) => T_i_isRole d.1) e_i_isRole
def P_i_WinNew : List (Bool × List Sh) := []
def O_i_WinNew (r : (YWin)) : List RV × List RV := ([rv (true, [.int .i64, .sl 3 [.int .i64]]) r], [])
def C_i_WinNew : Fns := []
def F_i_WinNew : Fun1 := funV P_i_WinNew (fun d => (T_i_WinNew ).val) O_i_WinNew
def Q_i_WinNew : Loops := fun _ _ => .fail
theorem e_i_WinNew : ∀ d, pcall ⟨lookT tys, ctrOf C_i_WinNew, kindOf C_i_WinNew, 3, 4⟩ 0 Q_i_WinNew Tryz.f206 .plain (mkA P_i_WinNew d) = (T_i_WinNew ).run fun r => some (O_i_WinNew r) := fun d => by kernel_rfl
theorem fn_i_WinNew : Fn Tryz.prog 206 .plain F_i_WinNew := fn_of (cfgOk_of mixed tys_ok (show FnsOk Tryz.prog C_i_WinNew from trivial)) Tryz.func206 (by kernel_rfl) (by kernel_rfl) (fun cx b hp hb => all_of (by kernel_rfl : loopsOf (Tryz.f206.body.getD .skip) = []) trivial b hb) (R := (YWin)) (T := fun (d : aden P_i_WinNew) => T_i_WinNew ) e_i_WinNew
def P_i_EpNew : List (Bool × List Sh) := [(false, [.int .i64]), (false, [.sl 5 [.int .u8]])]
def O_i_EpNew (r : (YEp)) : List RV × List RV := ([rv (true, h_5) r], [])
def C_i_EpNew : Fns := [(88, .plain, F_i_within), (91, .plain, F_i_clone), (206, .plain, F_i_WinNew)]
def F_i_EpNew : Fun1 := funV P_i_EpNew (fun d => (T_i_EpNew d.1 d.2.1).val) O_i_EpNew
def Q_i_EpNew : Loops := fun _ _ => .fail
theorem e_i_EpNew : ∀ d, pcall ⟨lookT tys, ctrOf C_i_EpNew, kindOf C_i_EpNew, 3, 4⟩ 0 Q_i_EpNew Tryz.f165 .plain (mkA P_i_EpNew d) = (T_i_EpNew d.1 d.2.1).run fun r => some (O_i_EpNew r) := fun d => by kernel_rfl
theorem fn_i_EpNew : Fn Tryz.prog 165 .plain F_i_EpNew := fn_of (cfgOk_of mixed tys_ok (show FnsOk Tryz.prog C_i_EpNew from ⟨fn_i_within, fn_i_clone, fn_i_WinNew, trivial⟩)) Tryz.func165 (by kernel_rfl) (by kernel_rfl) (fun cx b hp hb => all_of (by kernel_rfl : loopsOf (Tryz.f165.body.getD .skip) = []) trivial b hb) (R := (YEp)) (T := fun (d : aden P_i_EpNew) => T_i_EpNew d.1 d.2.1) e_i_EpNew
def P_i_ChanNew : List (Bool × List Sh) := [(false, [.int .i64]), (false, [.sl 5 [.int .u8]]), (false, [.sl 5 [.int .u8]])]
def O_i_ChanNew (r : (YChan)) : List RV × List RV := ([rv (true, h_10) r], [])
def C_i_ChanNew : Fns := [(164, .plain, F_i_isRole), (105, .plain, F_i_isNonce), (91, .plain, F_i_clone), (165, .plain, F_i_EpNew)]
def F_i_ChanNew : Fun1 := funV P_i_ChanNew (fun d => (T_i_ChanNew d.1 d.2.1 d.2.2.1).val) O_i_ChanNew
def Q_i_ChanNew : Loops := fun _ _ => .fail
theorem e_i_ChanNew : ∀ d, pcall ⟨lookT tys, ctrOf C_i_ChanNew, kindOf C_i_ChanNew, 3, 4⟩ 0 Q_i_ChanNew Tryz.f93 .plain (mkA P_i_ChanNew d) = (T_i_ChanNew d.1 d.2.1 d.2.2.1).run fun r => some (O_i_ChanNew r) := fun d => by kernel_rfl
theorem fn_i_ChanNew : Fn Tryz.prog 93 .plain F_i_ChanNew := fn_of (cfgOk_of mixed tys_ok (show FnsOk Tryz.prog C_i_ChanNew from ⟨fn_i_isRole, fn_i_isNonce, fn_i_clone, fn_i_EpNew, trivial⟩)) Tryz.func93 (by kernel_rfl) (by kernel_rfl) (fun cx b hp hb => all_of (by kernel_rfl : loopsOf (Tryz.f93.body.getD .skip) = []) trivial b hb) (R := (YChan)) (T := fun (d : aden P_i_ChanNew) => T_i_ChanNew d.1 d.2.1 d.2.2.1) e_i_ChanNew
def P_i_SessNew : List (Bool × List Sh) := [(false, [.sl 5 [.int .u8]]), (false, [.int .i64]), (true, [.int .i64, .int .i64]), (true, h_9)]
def O_i_SessNew (r : (YSess)) : List RV × List RV := ([rv (true, h_12) r], [])
def C_i_SessNew : Fns := [(87, .plain, F_i_PskOk), (88, .plain, F_i_within), (89, .plain, F_i_AddrOk), (90, .plain, F_i_FrameOk), (91, .plain, F_i_clone), (92, .plain, F_i_PathsNew), (94, .plain, F_i_EpochKey), (93, .plain, F_i_ChanNew)]
def F_i_SessNew : Fun1 := funV P_i_SessNew (fun d => (T_i_SessNew d.1 d.2.1 d.2.2.1 d.2.2.2.1).val) O_i_SessNew
def Q_i_SessNew : Loops := fun _ _ => .fail
theorem e_i_SessNew : ∀ d, pcall ⟨lookT tys, ctrOf C_i_SessNew, kindOf C_i_SessNew, 3, 4⟩ 0 Q_i_SessNew Tryz.f26 .plain (mkA P_i_SessNew d) = (T_i_SessNew d.1 d.2.1 d.2.2.1 d.2.2.2.1).run fun r => some (O_i_SessNew r) := fun d => by kernel_rfl
theorem fn_i_SessNew : Fn Tryz.prog 26 .plain F_i_SessNew := fn_of (cfgOk_of mixed tys_ok (show FnsOk Tryz.prog C_i_SessNew from ⟨fn_i_PskOk, fn_i_within, fn_i_AddrOk, fn_i_FrameOk, fn_i_clone, fn_i_PathsNew, fn_i_EpochKey, fn_i_ChanNew, trivial⟩)) Tryz.func26 (by kernel_rfl) (by kernel_rfl) (fun cx b hp hb => all_of (by kernel_rfl : loopsOf (Tryz.f26.body.getD .skip) = []) trivial b hb) (R := (YSess)) (T := fun (d : aden P_i_SessNew) => T_i_SessNew d.1 d.2.1 d.2.2.1 d.2.2.2.1) e_i_SessNew
def P_l_eqByteS : List (Bool × List Sh) := [(false, [.sl 5 [.int .u8]]), (false, [.sl 5 [.int .u8]])]
def O_l_eqByteS (r : (Bool × Unit)) : List RV × List RV := ([rv (false, [.bool]) r], [])
def C_l_eqByteS : Fns := []
def F_l_eqByteS : Fun1 := funV P_l_eqByteS (fun d => (T_l_eqByteS d.1 d.2.1).val) O_l_eqByteS
def K_l_eqByteS_4 : Sk := ⟨[(0, .v false [(.sl 5 [.int .u8], .ro)]), (1, .v false [(.sl 5 [.int .u8], .ro)]), (5, .v false [(.int .i64, .nil)])], [], []⟩
def X_l_eqByteS_4 : List (Ex × Sk) := [(.ret, ⟨[(4, .v false [(.bool, .nil)])], [], []⟩), ((.exit 0), ⟨[], [], []⟩)]
def Q_l_eqByteS : Loops := fun i st => cond (Nat.beq i 4) (lam K_l_eqByteS_4 5000000 X_l_eqByteS_4 B_l_eqByteS_4 st) <| .fail
theorem lp_l_eqByteS_4 : ∀ d, bod ⟨lookT tys, ctrOf C_l_eqByteS, kindOf C_l_eqByteS, 3, 4⟩ 0 Tryz.f27.ntmps Q_l_eqByteS (nthLoop Tryz.f27 0) K_l_eqByteS_4 5000000 X_l_eqByteS_4 d = B_l_eqByteS_4 d := fun d => by kernel_rfl
theorem lo_l_eqByteS_4 (cx : Cx) (hp : cx.pin.length ≤ 0) : LoopOk Tryz.prog cx Tryz.f27.ntmps Q_l_eqByteS (nthLoop Tryz.f27 0) := loop_of (cfgOk_of mixed tys_ok (show FnsOk Tryz.prog C_l_eqByteS from trivial)) hp (all_of (by kernel_rfl : loopsOf (nthLoop Tryz.f27 0) = []) trivial) (by kernel_rfl) lp_l_eqByteS_4
theorem e_l_eqByteS : ∀ d, pcall ⟨lookT tys, ctrOf C_l_eqByteS, kindOf C_l_eqByteS, 3, 4⟩ 0 Q_l_eqByteS Tryz.f27 .plain (mkA P_l_eqByteS d) = (T_l_eqByteS d.1 d.2.1).run fun r => some (O_l_eqByteS r) := fun d => by kernel_rfl
theorem fn_l_eqByteS : Fn Tryz.prog 27 .plain F_l_eqByteS := fn_of (cfgOk_of mixed tys_ok (show FnsOk Tryz.prog C_l_eqByteS from trivial)) Tryz.func27 (by kernel_rfl) (by kernel_rfl) (fun cx b hp hb => all_of (by kernel_rfl : loopsOf (Tryz.f27.body.getD .skip) = [nthLoop Tryz.f27 0]) ⟨lo_l_eqByteS_4 cx hp, trivial⟩ b hb) (R := (Bool × Unit)) (T := fun (d : aden P_l_eqByteS) => T_l_eqByteS d.1 d.2.1) e_l_eqByteS
def P_l_eqIntS : List (Bool × List Sh) := [(false, [.sl 3 [.int .i64]]), (false, [.sl 3 [.int .i64]])]
def O_l_eqIntS (r : (Bool × Unit)) : List RV × List RV := ([rv (false, [.bool]) r], [])
def C_l_eqIntS : Fns := []
def F_l_eqIntS : Fun1 := funV P_l_eqIntS (fun d => (T_l_eqIntS d.1 d.2.1).val) O_l_eqIntS
def K_l_eqIntS_4 : Sk := ⟨[(0, .v false [(.sl 3 [.int .i64], .ro)]), (1, .v false [(.sl 3 [.int .i64], .ro)]), (5, .v false [(.int .i64, .nil)])], [], []⟩
def X_l_eqIntS_4 : List (Ex × Sk) := [(.ret, ⟨[(4, .v false [(.bool, .nil)])], [], []⟩), ((.exit 0), ⟨[], [], []⟩)]
def Q_l_eqIntS : Loops := fun i st => cond (Nat.beq i 4) (lam K_l_eqIntS_4 5000000 X_l_eqIntS_4 B_l_eqIntS_4 st) <| .fail
theorem lp_l_eqIntS_4 : ∀ d, bod ⟨lookT tys, ctrOf C_l_eqIntS, kindOf C_l_eqIntS, 3, 4⟩ 0 Tryz.f221.ntmps Q_l_eqIntS (nthLoop Tryz.f221 0) K_l_eqIntS_4 5000000 X_l_eqIntS_4 d = B_l_eqIntS_4 d := fun d => by kernel_rfl
theorem lo_l_eqIntS_4 (cx : Cx) (hp : cx.pin.length ≤ 0) : LoopOk Tryz.prog cx Tryz.f221.ntmps Q_l_eqIntS (nthLoop Tryz.f221 0) := loop_of (cfgOk_of mixed tys_ok (show FnsOk Tryz.prog C_l_eqIntS from trivial)) hp (all_of (by kernel_rfl : loopsOf (nthLoop Tryz.f221 0) = []) trivial) (by kernel_rfl) lp_l_eqIntS_4
theorem e_l_eqIntS : ∀ d, pcall ⟨lookT tys, ctrOf C_l_eqIntS, kindOf C_l_eqIntS, 3, 4⟩ 0 Q_l_eqIntS Tryz.f221 .plain (mkA P_l_eqIntS d) = (T_l_eqIntS d.1 d.2.1).run fun r => some (O_l_eqIntS r) := fun d => by kernel_rfl
theorem fn_l_eqIntS : Fn Tryz.prog 221 .plain F_l_eqIntS := fn_of (cfgOk_of mixed tys_ok (show FnsOk Tryz.prog C_l_eqIntS from trivial)) Tryz.func221 (by kernel_rfl) (by kernel_rfl) (fun cx b hp hb => all_of (by kernel_rfl : loopsOf (Tryz.f221.body.getD .skip) = [nthLoop Tryz.f221 0]) ⟨lo_l_eqIntS_4 cx hp, trivial⟩ b hb) (R := (Bool × Unit)) (T := fun (d : aden P_l_eqIntS) => T_l_eqIntS d.1 d.2.1) e_l_eqIntS
def P_l_eqWin : List (Bool × List Sh) := [(true, [.int .i64, .sl 3 [.int .i64]]), (true, [.int .i64, .sl 3 [.int .i64]])]
def O_l_eqWin (r : (Bool × Unit)) : List RV × List RV := ([rv (false, [.bool]) r], [])
def C_l_eqWin : Fns := [(221, .plain, F_l_eqIntS)]
def F_l_eqWin : Fun1 := funV P_l_eqWin (fun d => (T_l_eqWin d.1 d.2.1).val) O_l_eqWin
def Q_l_eqWin : Loops := fun _ _ => .fail
theorem e_l_eqWin : ∀ d, pcall ⟨lookT tys, ctrOf C_l_eqWin, kindOf C_l_eqWin, 3, 4⟩ 0 Q_l_eqWin Tryz.f196 .plain (mkA P_l_eqWin d) = (T_l_eqWin d.1 d.2.1).run fun r => some (O_l_eqWin r) := fun d => by kernel_rfl
theorem fn_l_eqWin : Fn Tryz.prog 196 .plain F_l_eqWin := fn_of (cfgOk_of mixed tys_ok (show FnsOk Tryz.prog C_l_eqWin from ⟨fn_l_eqIntS, trivial⟩)) Tryz.func196 (by kernel_rfl) (by kernel_rfl) (fun cx b hp hb => all_of (by kernel_rfl : loopsOf (Tryz.f196.body.getD .skip) = []) trivial b hb) (R := (Bool × Unit)) (T := fun (d : aden P_l_eqWin) => T_l_eqWin d.1 d.2.1) e_l_eqWin
def P_l_eqEp : List (Bool × List Sh) := [(true, h_5), (true, h_5)]
def O_l_eqEp (r : (Bool × Unit)) : List RV × List RV := ([rv (false, [.bool]) r], [])
def C_l_eqEp : Fns := [(27, .plain, F_l_eqByteS), (196, .plain, F_l_eqWin)]
def F_l_eqEp : Fun1 := funV P_l_eqEp (fun d => (T_l_eqEp d.1 d.2.1).val) O_l_eqEp
def Q_l_eqEp : Loops := fun _ _ => .fail
theorem e_l_eqEp : ∀ d, pcall ⟨lookT tys, ctrOf C_l_eqEp, kindOf C_l_eqEp, 3, 4⟩ 0 Q_l_eqEp Tryz.f139 .plain (mkA P_l_eqEp d) = (T_l_eqEp d.1 d.2.1).run fun r => some (O_l_eqEp r) := fun d => by kernel_rfl
theorem fn_l_eqEp : Fn Tryz.prog 139 .plain F_l_eqEp := fn_of (cfgOk_of mixed tys_ok (show FnsOk Tryz.prog C_l_eqEp from ⟨fn_l_eqByteS, fn_l_eqWin, trivial⟩)) Tryz.func139 (by kernel_rfl) (by kernel_rfl) (fun cx b hp hb => all_of (by kernel_rfl : loopsOf (Tryz.f139.body.getD .skip) = []) trivial b hb) (R := (Bool × Unit)) (T := fun (d : aden P_l_eqEp) => T_l_eqEp d.1 d.2.1) e_l_eqEp
def P_l_eqChan : List (Bool × List Sh) := [(true, h_10), (true, h_10)]
def O_l_eqChan (r : (Bool × Unit)) : List RV × List RV := ([rv (false, [.bool]) r], [])
def C_l_eqChan : Fns := [(27, .plain, F_l_eqByteS), (139, .plain, F_l_eqEp)]
def F_l_eqChan : Fun1 := funV P_l_eqChan (fun d => (T_l_eqChan d.1 d.2.1).val) O_l_eqChan
def Q_l_eqChan : Loops := fun _ _ => .fail
theorem e_l_eqChan : ∀ d, pcall ⟨lookT tys, ctrOf C_l_eqChan, kindOf C_l_eqChan, 3, 4⟩ 0 Q_l_eqChan Tryz.f69 .plain (mkA P_l_eqChan d) = (T_l_eqChan d.1 d.2.1).run fun r => some (O_l_eqChan r) := fun d => by kernel_rfl
theorem fn_l_eqChan : Fn Tryz.prog 69 .plain F_l_eqChan := fn_of (cfgOk_of mixed tys_ok (show FnsOk Tryz.prog C_l_eqChan from ⟨fn_l_eqByteS, fn_l_eqEp, trivial⟩)) Tryz.func69 (by kernel_rfl) (by kernel_rfl) (fun cx b hp hb => all_of (by kernel_rfl : loopsOf (Tryz.f69.body.getD .skip) = []) trivial b hb) (R := (Bool × Unit)) (T := fun (d : aden P_l_eqChan) => T_l_eqChan d.1 d.2.1) e_l_eqChan
def P_l_eqAddr : List (Bool × List Sh) := [(true, [.int .i64, .int .i64]), (true, [.int .i64, .int .i64])]
def O_l_eqAddr (r : (Bool × Unit)) : List RV × List RV := ([rv (false, [.bool]) r], [])
def C_l_eqAddr : Fns := []
def F_l_eqAddr : Fun1 := funV P_l_eqAddr (fun d => (T_l_eqAddr d.1 d.2.1).val) O_l_eqAddr
def Q_l_eqAddr : Loops := fun _ _ => .fail
theorem e_l_eqAddr : ∀ d, pcall ⟨lookT tys, ctrOf C_l_eqAddr, kindOf C_l_eqAddr, 3, 4⟩ 0 Q_l_eqAddr Tryz.f108 .plain (mkA P_l_eqAddr d) = (T_l_eqAddr d.1 d.2.1).run fun r => some (O_l_eqAddr r) := fun d => by kernel_rfl
theorem fn_l_eqAddr : Fn Tryz.prog 108 .plain F_l_eqAddr := fn_of (cfgOk_of mixed tys_ok (show FnsOk Tryz.prog C_l_eqAddr from trivial)) Tryz.func108 (by kernel_rfl) (by kernel_rfl) (fun cx b hp hb => all_of (by kernel_rfl : loopsOf (Tryz.f108.body.getD .skip) = []) trivial b hb) (R := (Bool × Unit)) (T := fun (d : aden P_l_eqAddr) => T_l_eqAddr d.1 d.2.1) e_l_eqAddr
def P_l_eqCand : List (Bool × List Sh) := [(true, h_4), (true, h_4)]
def O_l_eqCand (r : (Bool × Unit)) : List RV × List RV := ([rv (false, [.bool]) r], [])
def C_l_eqCand : Fns := [(108, .plain, F_l_eqAddr), (27, .plain, F_l_eqByteS)]
def F_l_eqCand : Fun1 := funV P_l_eqCand (fun d => (T_l_eqCand d.1 d.2.1).val) O_l_eqCand
def Q_l_eqCand : Loops := fun _ _ => .fail
theorem e_l_eqCand : ∀ d, pcall ⟨lookT tys, ctrOf C_l_eqCand, kindOf C_l_eqCand, 3, 4⟩ 0 Q_l_eqCand Tryz.f197 .plain (mkA P_l_eqCand d) = (T_l_eqCand d.1 d.2.1).run fun r => some (O_l_eqCand r) := fun d => by kernel_rfl
theorem fn_l_eqCand : Fn Tryz.prog 197 .plain F_l_eqCand := fn_of (cfgOk_of mixed tys_ok (show FnsOk Tryz.prog C_l_eqCand from ⟨fn_l_eqAddr, fn_l_eqByteS, trivial⟩)) Tryz.func197 (by kernel_rfl) (by kernel_rfl) (fun cx b hp hb => all_of (by kernel_rfl : loopsOf (Tryz.f197.body.getD .skip) = []) trivial b hb) (R := (Bool × Unit)) (T := fun (d : aden P_l_eqCand) => T_l_eqCand d.1 d.2.1) e_l_eqCand
def P_l_eqCandS : List (Bool × List Sh) := [(false, [.sl 198 h_4]), (false, [.sl 198 h_4])]
def O_l_eqCandS (r : (Bool × Unit)) : List RV × List RV := ([rv (false, [.bool]) r], [])
def C_l_eqCandS : Fns := [(197, .plain, F_l_eqCand)]
def F_l_eqCandS : Fun1 := funV P_l_eqCandS (fun d => (T_l_eqCandS d.1 d.2.1).val) O_l_eqCandS
def K_l_eqCandS_4 : Sk := ⟨[(0, .v false [(.sl 198 h_4, .ro)]), (1, .v false [(.sl 198 h_4, .ro)]), (5, .v false [(.int .i64, .nil)])], [], []⟩
def X_l_eqCandS_4 : List (Ex × Sk) := [(.ret, ⟨[(4, .v false [(.bool, .nil)])], [], []⟩), ((.exit 0), ⟨[], [], []⟩)]
def Q_l_eqCandS : Loops := fun i st => cond (Nat.beq i 4) (lam K_l_eqCandS_4 5000000 X_l_eqCandS_4 B_l_eqCandS_4 st) <| .fail
theorem lp_l_eqCandS_4 : ∀ d, bod ⟨lookT tys, ctrOf C_l_eqCandS, kindOf C_l_eqCandS, 3, 4⟩ 0 Tryz.f140.ntmps Q_l_eqCandS (nthLoop Tryz.f140 0) K_l_eqCandS_4 5000000 X_l_eqCandS_4 d = B_l_eqCandS_4 d := fun d => by kernel_rfl
theorem lo_l_eqCandS_4 (cx : Cx) (hp : cx.pin.length ≤ 0) : LoopOk Tryz.prog cx Tryz.f140.ntmps Q_l_eqCandS (nthLoop Tryz.f140 0) := loop_of (cfgOk_of mixed tys_ok (show FnsOk Tryz.prog C_l_eqCandS from ⟨fn_l_eqCand, trivial⟩)) hp (all_of (by kernel_rfl : loopsOf (nthLoop Tryz.f140 0) = []) trivial) (by kernel_rfl) lp_l_eqCandS_4
theorem e_l_eqCandS : ∀ d, pcall ⟨lookT tys, ctrOf C_l_eqCandS, kindOf C_l_eqCandS, 3, 4⟩ 0 Q_l_eqCandS Tryz.f140 .plain (mkA P_l_eqCandS d) = (T_l_eqCandS d.1 d.2.1).run fun r => some (O_l_eqCandS r) := fun d => by kernel_rfl
theorem fn_l_eqCandS : Fn Tryz.prog 140 .plain F_l_eqCandS := fn_of (cfgOk_of mixed tys_ok (show FnsOk Tryz.prog C_l_eqCandS from ⟨fn_l_eqCand, trivial⟩)) Tryz.func140 (by kernel_rfl) (by kernel_rfl) (fun cx b hp hb => all_of (by kernel_rfl : loopsOf (Tryz.f140.body.getD .skip) = [nthLoop Tryz.f140 0]) ⟨lo_l_eqCandS_4 cx hp, trivial⟩ b hb) (R := (Bool × Unit)) (T := fun (d : aden P_l_eqCandS) => T_l_eqCandS d.1 d.2.1) e_l_eqCandS
def P_l_eqPaths : List (Bool × List Sh) := [(true, h_7), (true, h_7)]
def O_l_eqPaths (r : (Bool × Unit)) : List RV × List RV := ([rv (false, [.bool]) r], [])
def C_l_eqPaths : Fns := [(108, .plain, F_l_eqAddr), (140, .plain, F_l_eqCandS)]
def F_l_eqPaths : Fun1 := funV P_l_eqPaths (fun d => (T_l_eqPaths d.1 d.2.1).val) O_l_eqPaths
def Q_l_eqPaths : Loops := fun _ _ => .fail
theorem e_l_eqPaths : ∀ d, pcall ⟨lookT tys, ctrOf C_l_eqPaths, kindOf C_l_eqPaths, 3, 4⟩ 0 Q_l_eqPaths Tryz.f70 .plain (mkA P_l_eqPaths d) = (T_l_eqPaths d.1 d.2.1).run fun r => some (O_l_eqPaths r) := fun d => by kernel_rfl
theorem fn_l_eqPaths : Fn Tryz.prog 70 .plain F_l_eqPaths := fn_of (cfgOk_of mixed tys_ok (show FnsOk Tryz.prog C_l_eqPaths from ⟨fn_l_eqAddr, fn_l_eqCandS, trivial⟩)) Tryz.func70 (by kernel_rfl) (by kernel_rfl) (fun cx b hp hb => all_of (by kernel_rfl : loopsOf (Tryz.f70.body.getD .skip) = []) trivial b hb) (R := (Bool × Unit)) (T := fun (d : aden P_l_eqPaths) => T_l_eqPaths d.1 d.2.1) e_l_eqPaths
def P_l_eqSess : List (Bool × List Sh) := [(true, h_12), (true, h_12)]
def O_l_eqSess (r : (Bool × Unit)) : List RV × List RV := ([rv (false, [.bool]) r], [])
def C_l_eqSess : Fns := [(27, .plain, F_l_eqByteS), (69, .plain, F_l_eqChan), (70, .plain, F_l_eqPaths)]
def F_l_eqSess : Fun1 := funV P_l_eqSess (fun d => (T_l_eqSess d.1 d.2.1).val) O_l_eqSess
def Q_l_eqSess : Loops := fun _ _ => .fail
theorem e_l_eqSess : ∀ d, pcall ⟨lookT tys, ctrOf C_l_eqSess, kindOf C_l_eqSess, 3, 4⟩ 0 Q_l_eqSess Tryz.f15 .plain (mkA P_l_eqSess d) = (T_l_eqSess d.1 d.2.1).run fun r => some (O_l_eqSess r) := fun d => by kernel_rfl
theorem fn_l_eqSess : Fn Tryz.prog 15 .plain F_l_eqSess := fn_of (cfgOk_of mixed tys_ok (show FnsOk Tryz.prog C_l_eqSess from ⟨fn_l_eqByteS, fn_l_eqChan, fn_l_eqPaths, trivial⟩)) Tryz.func15 (by kernel_rfl) (by kernel_rfl) (fun cx b hp hb => all_of (by kernel_rfl : loopsOf (Tryz.f15.body.getD .skip) = []) trivial b hb) (R := (Bool × Unit)) (T := fun (d : aden P_l_eqSess) => T_l_eqSess d.1 d.2.1) e_l_eqSess
def P_l_eqFrame : List (Bool × List Sh) := [(true, h_9), (true, h_9)]
def O_l_eqFrame (r : (Bool × Unit)) : List RV × List RV := ([rv (false, [.bool]) r], [])
def C_l_eqFrame : Fns := [(27, .plain, F_l_eqByteS)]
def F_l_eqFrame : Fun1 := funV P_l_eqFrame (fun d => (T_l_eqFrame d.1 d.2.1).val) O_l_eqFrame
def Q_l_eqFrame : Loops := fun _ _ => .fail
theorem e_l_eqFrame : ∀ d, pcall ⟨lookT tys, ctrOf C_l_eqFrame, kindOf C_l_eqFrame, 3, 4⟩ 0 Q_l_eqFrame Tryz.f28 .plain (mkA P_l_eqFrame d) = (T_l_eqFrame d.1 d.2.1).run fun r => some (O_l_eqFrame r) := fun d => by kernel_rfl
theorem fn_l_eqFrame : Fn Tryz.prog 28 .plain F_l_eqFrame := fn_of (cfgOk_of mixed tys_ok (show FnsOk Tryz.prog C_l_eqFrame from ⟨fn_l_eqByteS, trivial⟩)) Tryz.func28 (by kernel_rfl) (by kernel_rfl) (fun cx b hp hb => all_of (by kernel_rfl : loopsOf (Tryz.f28.body.getD .skip) = []) trivial b hb) (R := (Bool × Unit)) (T := fun (d : aden P_l_eqFrame) => T_l_eqFrame d.1 d.2.1) e_l_eqFrame
def P_l_markByteS : List (Bool × List Sh) := [(false, [.sl 5 [.int .u8]]), (false, [.int .i64])]
def O_l_markByteS (r : (YI) × (YBs)) : List RV × List RV := ([rv (false, [.int .i64]) r.1], [rv (false, [.sl 5 [.int .u8]]) r.2])
def C_l_markByteS : Fns := []
def F_l_markByteS : Fun1 := funV P_l_markByteS (fun d => (T_l_markByteS d.1 d.2.1).val) O_l_markByteS
def K_l_markByteS_2 : Sk := ⟨[(0, .v false [(.sl 5 [.int .u8], (.own 3000000))]), (1, .v false [(.int .i64, .nil)]), (5, .v false [(.int .i64, .nil)])], [], [3000000]⟩
def X_l_markByteS_2 : List (Ex × Sk) := [((.exit 0), ⟨[(0, .v false [(.sl 5 [.int .u8], (.own 3000000))]), (1, .v false [(.int .i64, .nil)])], [], [3000000]⟩)]
def Q_l_markByteS : Loops := fun i st => cond (Nat.beq i 2) (lam K_l_markByteS_2 3000000 X_l_markByteS_2 B_l_markByteS_2 st) <| .fail
theorem lp_l_markByteS_2 : ∀ d, bod ⟨lookT tys, ctrOf C_l_markByteS, kindOf C_l_markByteS, 3, 4⟩ 1 Tryz.f29.ntmps Q_l_markByteS (nthLoop Tryz.f29 0) K_l_markByteS_2 3000000 X_l_markByteS_2 d = B_l_markByteS_2 d := fun d => by kernel_rfl
theorem lo_l_markByteS_2 (cx : Cx) (hp : cx.pin.length ≤ 1) : LoopOk Tryz.prog cx Tryz.f29.ntmps Q_l_markByteS (nthLoop Tryz.f29 0) := loop_of (cfgOk_of mixed tys_ok (show FnsOk Tryz.prog C_l_markByteS from trivial)) hp (all_of (by kernel_rfl : loopsOf (nthLoop Tryz.f29 0) = []) trivial) (by kernel_rfl) lp_l_markByteS_2
theorem e_l_markByteS : ∀ d, pcall ⟨lookT tys, ctrOf C_l_markByteS, kindOf C_l_markByteS, 3, 4⟩ 1 Q_l_markByteS Tryz.f29 (.lend [1]) (mkA P_l_markByteS d) = (T_l_markByteS d.1 d.2.1).run fun r => some (O_l_markByteS r) := fun d => by kernel_rfl
theorem fn_l_markByteS : Fn Tryz.prog 29 (.lend [1]) F_l_markByteS := fn_of (cfgOk_of mixed tys_ok (show FnsOk Tryz.prog C_l_markByteS from trivial)) Tryz.func29 (by kernel_rfl) (by kernel_rfl) (fun cx b hp hb => all_of (by kernel_rfl : loopsOf (Tryz.f29.body.getD .skip) = [nthLoop Tryz.f29 0]) ⟨lo_l_markByteS_2 cx hp, trivial⟩ b hb) (R := (YI) × (YBs)) (T := fun (d : aden P_l_markByteS) => T_l_markByteS d.1 d.2.1) e_l_markByteS
def P_l_markFrame : List (Bool × List Sh) := [(true, h_9), (false, [.int .i64])]
def O_l_markFrame (r : (YI) × (YFrame)) : List RV × List RV := ([rv (false, [.int .i64]) r.1], [rv (true, h_9) r.2])
def C_l_markFrame : Fns := [(29, (.lend [1]), F_l_markByteS)]
def F_l_markFrame : Fun1 := funV P_l_markFrame (fun d => (T_l_markFrame d.1 d.2.1).val) O_l_markFrame
def Q_l_markFrame : Loops := fun _ _ => .fail
theorem e_l_markFrame : ∀ d, pcall ⟨lookT tys, ctrOf C_l_markFrame, kindOf C_l_markFrame, 3, 4⟩ 1 Q_l_markFrame Tryz.f30 (.lend [1]) (mkA P_l_markFrame d) = (T_l_markFrame d.1 d.2.1).run fun r => some (O_l_markFrame r) := fun d => by kernel_rfl
theorem fn_l_markFrame : Fn Tryz.prog 30 (.lend [1]) F_l_markFrame := fn_of (cfgOk_of mixed tys_ok (show FnsOk Tryz.prog C_l_markFrame from ⟨fn_l_markByteS, trivial⟩)) Tryz.func30 (by kernel_rfl) (by kernel_rfl) (fun cx b hp hb => all_of (by kernel_rfl : loopsOf (Tryz.f30.body.getD .skip) = []) trivial b hb) (R := (YI) × (YFrame)) (T := fun (d : aden P_l_markFrame) => T_l_markFrame d.1 d.2.1) e_l_markFrame
def P_l_markIntS : List (Bool × List Sh) := [(false, [.sl 3 [.int .i64]]), (false, [.int .i64])]
def O_l_markIntS (r : (YI) × ((List YI) × Unit)) : List RV × List RV := ([rv (false, [.int .i64]) r.1], [rv (false, [.sl 3 [.int .i64]]) r.2])
def C_l_markIntS : Fns := []
def F_l_markIntS : Fun1 := funV P_l_markIntS (fun d => (T_l_markIntS d.1 d.2.1).val) O_l_markIntS
def K_l_markIntS_2 : Sk := ⟨[(0, .v false [(.sl 3 [.int .i64], (.own 3000000))]), (1, .v false [(.int .i64, .nil)]), (5, .v false [(.int .i64, .nil)])], [], [3000000]⟩
def X_l_markIntS_2 : List (Ex × Sk) := [((.exit 0), ⟨[(0, .v false [(.sl 3 [.int .i64], (.own 3000000))]), (1, .v false [(.int .i64, .nil)])], [], [3000000]⟩)]
def Q_l_markIntS : Loops := fun i st => cond (Nat.beq i 2) (lam K_l_markIntS_2 3000000 X_l_markIntS_2 B_l_markIntS_2 st) <| .fail
theorem lp_l_markIntS_2 : ∀ d, bod ⟨lookT tys, ctrOf C_l_markIntS, kindOf C_l_markIntS, 3, 4⟩ 1 Tryz.f141.ntmps Q_l_markIntS (nthLoop Tryz.f141 0) K_l_markIntS_2 3000000 X_l_markIntS_2 d = B_l_markIntS_2 d := fun d => by kernel_rfl
theorem lo_l_markIntS_2 (cx : Cx) (hp : cx.pin.length ≤ 1) : LoopOk Tryz.prog cx Tryz.f141.ntmps Q_l_markIntS (nthLoop Tryz.f141 0) := loop_of (cfgOk_of mixed tys_ok (show FnsOk Tryz.prog C_l_markIntS from trivial)) hp (all_of (by kernel_rfl : loopsOf (nthLoop Tryz.f141 0) = []) trivial) (by kernel_rfl) lp_l_markIntS_2
theorem e_l_markIntS : ∀ d, pcall ⟨lookT tys, ctrOf C_l_markIntS, kindOf C_l_markIntS, 3, 4⟩ 1 Q_l_markIntS Tryz.f141 (.lend [1]) (mkA P_l_markIntS d) = (T_l_markIntS d.1 d.2.1).run fun r => some (O_l_markIntS r) := fun d => by kernel_rfl
theorem fn_l_markIntS : Fn Tryz.prog 141 (.lend [1]) F_l_markIntS := fn_of (cfgOk_of mixed tys_ok (show FnsOk Tryz.prog C_l_markIntS from trivial)) Tryz.func141 (by kernel_rfl) (by kernel_rfl) (fun cx b hp hb => all_of (by kernel_rfl : loopsOf (Tryz.f141.body.getD .skip) = [nthLoop Tryz.f141 0]) ⟨lo_l_markIntS_2 cx hp, trivial⟩ b hb) (R := (YI) × ((List YI) × Unit)) (T := fun (d : aden P_l_markIntS) => T_l_markIntS d.1 d.2.1) e_l_markIntS
def P_l_markWin : List (Bool × List Sh) := [(true, [.int .i64, .sl 3 [.int .i64]]), (false, [.int .i64])]
def O_l_markWin (r : (YI) × (YWin)) : List RV × List RV := ([rv (false, [.int .i64]) r.1], [rv (true, [.int .i64, .sl 3 [.int .i64]]) r.2])
def C_l_markWin : Fns := [(141, (.lend [1]), F_l_markIntS)]
def F_l_markWin : Fun1 := funV P_l_markWin (fun d => (T_l_markWin d.1 d.2.1).val) O_l_markWin
def Q_l_markWin : Loops := fun _ _ => .fail
theorem e_l_markWin : ∀ d, pcall ⟨lookT tys, ctrOf C_l_markWin, kindOf C_l_markWin, 3, 4⟩ 1 Q_l_markWin Tryz.f198 (.lend [1]) (mkA P_l_markWin d) = (T_l_markWin d.1 d.2.1).run fun r => some (O_l_markWin r) := fun d => by kernel_rfl
theorem fn_l_markWin : Fn Tryz.prog 198 (.lend [1]) F_l_markWin := fn_of (cfgOk_of mixed tys_ok (show FnsOk Tryz.prog C_l_markWin from ⟨fn_l_markIntS, trivial⟩)) Tryz.func198 (by kernel_rfl) (by kernel_rfl) (fun cx b hp hb => all_of (by kernel_rfl : loopsOf (Tryz.f198.body.getD .skip) = []) trivial b hb) (R := (YI) × (YWin)) (T := fun (d : aden P_l_markWin) => T_l_markWin d.1 d.2.1) e_l_markWin
def P_l_markEp : List (Bool × List Sh) := [(true, h_5), (false, [.int .i64])]
def O_l_markEp (r : (YI) × (YEp)) : List RV × List RV := ([rv (false, [.int .i64]) r.1], [rv (true, h_5) r.2])
def C_l_markEp : Fns := [(29, (.lend [1]), F_l_markByteS), (198, (.lend [1]), F_l_markWin)]
def F_l_markEp : Fun1 := funV P_l_markEp (fun d => (T_l_markEp d.1 d.2.1).val) O_l_markEp
def Q_l_markEp : Loops := fun _ _ => .fail
theorem e_l_markEp : ∀ d, pcall ⟨lookT tys, ctrOf C_l_markEp, kindOf C_l_markEp, 3, 4⟩ 1 Q_l_markEp Tryz.f143 (.lend [1]) (mkA P_l_markEp d) = (T_l_markEp d.1 d.2.1).run fun r => some (O_l_markEp r) := fun d => by kernel_rfl
theorem fn_l_markEp : Fn Tryz.prog 143 (.lend [1]) F_l_markEp := fn_of (cfgOk_of mixed tys_ok (show FnsOk Tryz.prog C_l_markEp from ⟨fn_l_markByteS, fn_l_markWin, trivial⟩)) Tryz.func143 (by kernel_rfl) (by kernel_rfl) (fun cx b hp hb => all_of (by kernel_rfl : loopsOf (Tryz.f143.body.getD .skip) = []) trivial b hb) (R := (YI) × (YEp)) (T := fun (d : aden P_l_markEp) => T_l_markEp d.1 d.2.1) e_l_markEp
def P_l_markChan : List (Bool × List Sh) := [(true, h_10), (false, [.int .i64])]
def O_l_markChan (r : (YI) × (YChan)) : List RV × List RV := ([rv (false, [.int .i64]) r.1], [rv (true, h_10) r.2])
def C_l_markChan : Fns := [(29, (.lend [1]), F_l_markByteS), (143, (.lend [1]), F_l_markEp)]
def F_l_markChan : Fun1 := funV P_l_markChan (fun d => (T_l_markChan d.1 d.2.1).val) O_l_markChan
def Q_l_markChan : Loops := fun _ _ => .fail
theorem e_l_markChan : ∀ d, pcall ⟨lookT tys, ctrOf C_l_markChan, kindOf C_l_markChan, 3, 4⟩ 1 Q_l_markChan Tryz.f72 (.lend [1]) (mkA P_l_markChan d) = (T_l_markChan d.1 d.2.1).run fun r => some (O_l_markChan r) := fun d => by kernel_rfl
theorem fn_l_markChan : Fn Tryz.prog 72 (.lend [1]) F_l_markChan := fn_of (cfgOk_of mixed tys_ok (show FnsOk Tryz.prog C_l_markChan from ⟨fn_l_markByteS, fn_l_markEp, trivial⟩)) Tryz.func72 (by kernel_rfl) (by kernel_rfl) (fun cx b hp hb => all_of (by kernel_rfl : loopsOf (Tryz.f72.body.getD .skip) = []) trivial b hb) (R := (YI) × (YChan)) (T := fun (d : aden P_l_markChan) => T_l_markChan d.1 d.2.1) e_l_markChan
def P_l_markCandS : List (Bool × List Sh) := [(false, [.sl 198 h_4]), (false, [.int .i64])]
def O_l_markCandS (r : (YI) × ((List YCand) × Unit)) : List RV × List RV := ([rv (false, [.int .i64]) r.1], [rv (false, [.sl 198 h_4]) r.2])
def C_l_markCandS : Fns := [(29, (.lend [1]), F_l_markByteS)]
def F_l_markCandS : Fun1 := funV P_l_markCandS (fun d => (T_l_markCandS d.1 d.2.1).val) O_l_markCandS
def K_l_markCandS_2 : Sk := ⟨[(0, .v false [(.sl 198 h_4, (.own 3000000))]), (1, .v false [(.int .i64, .nil)]), (5, .v false [(.int .i64, .nil)])], [], [3000000]⟩
def X_l_markCandS_2 : List (Ex × Sk) := [((.exit 0), ⟨[(0, .v false [(.sl 198 h_4, (.own 3000000))]), (1, .v false [(.int .i64, .nil)])], [], [3000000]⟩)]
def Q_l_markCandS : Loops := fun i st => cond (Nat.beq i 2) (lam K_l_markCandS_2 3000000 X_l_markCandS_2 B_l_markCandS_2 st) <| .fail
theorem lp_l_markCandS_2 : ∀ d, bod ⟨lookT tys, ctrOf C_l_markCandS, kindOf C_l_markCandS, 3, 4⟩ 1 Tryz.f142.ntmps Q_l_markCandS (nthLoop Tryz.f142 0) K_l_markCandS_2 3000000 X_l_markCandS_2 d = B_l_markCandS_2 d := fun d => by kernel_rfl
theorem lo_l_markCandS_2 (cx : Cx) (hp : cx.pin.length ≤ 1) : LoopOk Tryz.prog cx Tryz.f142.ntmps Q_l_markCandS (nthLoop Tryz.f142 0) := loop_of (cfgOk_of mixed tys_ok (show FnsOk Tryz.prog C_l_markCandS from ⟨fn_l_markByteS, trivial⟩)) hp (all_of (by kernel_rfl : loopsOf (nthLoop Tryz.f142 0) = []) trivial) (by kernel_rfl) lp_l_markCandS_2
theorem e_l_markCandS : ∀ d, pcall ⟨lookT tys, ctrOf C_l_markCandS, kindOf C_l_markCandS, 3, 4⟩ 1 Q_l_markCandS Tryz.f142 (.lend [1]) (mkA P_l_markCandS d) = (T_l_markCandS d.1 d.2.1).run fun r => some (O_l_markCandS r) := fun d => by kernel_rfl
theorem fn_l_markCandS : Fn Tryz.prog 142 (.lend [1]) F_l_markCandS := fn_of (cfgOk_of mixed tys_ok (show FnsOk Tryz.prog C_l_markCandS from ⟨fn_l_markByteS, trivial⟩)) Tryz.func142 (by kernel_rfl) (by kernel_rfl) (fun cx b hp hb => all_of (by kernel_rfl : loopsOf (Tryz.f142.body.getD .skip) = [nthLoop Tryz.f142 0]) ⟨lo_l_markCandS_2 cx hp, trivial⟩ b hb) (R := (YI) × ((List YCand) × Unit)) (T := fun (d : aden P_l_markCandS) => T_l_markCandS d.1 d.2.1) e_l_markCandS
def P_l_markPaths : List (Bool × List Sh) := [(true, h_7), (false, [.int .i64])]
def O_l_markPaths (r : (YI) × (YPaths)) : List RV × List RV := ([rv (false, [.int .i64]) r.1], [rv (true, h_7) r.2])
def C_l_markPaths : Fns := [(142, (.lend [1]), F_l_markCandS)]
def F_l_markPaths : Fun1 := funV P_l_markPaths (fun d => (T_l_markPaths d.1 d.2.1).val) O_l_markPaths
def Q_l_markPaths : Loops := fun _ _ => .fail
theorem e_l_markPaths : ∀ d, pcall ⟨lookT tys, ctrOf C_l_markPaths, kindOf C_l_markPaths, 3, 4⟩ 1 Q_l_markPaths Tryz.f73 (.lend [1]) (mkA P_l_markPaths d) = (T_l_markPaths d.1 d.2.1).run fun r => some (O_l_markPaths r) := fun d => by kernel_rfl
theorem fn_l_markPaths : Fn Tryz.prog 73 (.lend [1]) F_l_markPaths := fn_of (cfgOk_of mixed tys_ok (show FnsOk Tryz.prog C_l_markPaths from ⟨fn_l_markCandS, trivial⟩)) Tryz.func73 (by kernel_rfl) (by kernel_rfl) (fun cx b hp hb => all_of (by kernel_rfl : loopsOf (Tryz.f73.body.getD .skip) = []) trivial b hb) (R := (YI) × (YPaths)) (T := fun (d : aden P_l_markPaths) => T_l_markPaths d.1 d.2.1) e_l_markPaths
def P_l_markSess : List (Bool × List Sh) := [(true, h_12), (false, [.int .i64])]
def O_l_markSess (r : (YI) × (YSess)) : List RV × List RV := ([rv (false, [.int .i64]) r.1], [rv (true, h_12) r.2])
def C_l_markSess : Fns := [(29, (.lend [1]), F_l_markByteS), (72, (.lend [1]), F_l_markChan), (73, (.lend [1]), F_l_markPaths)]
def F_l_markSess : Fun1 := funV P_l_markSess (fun d => (T_l_markSess d.1 d.2.1).val) O_l_markSess
def Q_l_markSess : Loops := fun _ _ => .fail
theorem e_l_markSess : ∀ d, pcall ⟨lookT tys, ctrOf C_l_markSess, kindOf C_l_markSess, 3, 4⟩ 1 Q_l_markSess Tryz.f17 (.lend [1]) (mkA P_l_markSess d) = (T_l_markSess d.1 d.2.1).run fun r => some (O_l_markSess r) := fun d => by kernel_rfl
theorem fn_l_markSess : Fn Tryz.prog 17 (.lend [1]) F_l_markSess := fn_of (cfgOk_of mixed tys_ok (show FnsOk Tryz.prog C_l_markSess from ⟨fn_l_markByteS, fn_l_markChan, fn_l_markPaths, trivial⟩)) Tryz.func17 (by kernel_rfl) (by kernel_rfl) (fun cx b hp hb => all_of (by kernel_rfl : loopsOf (Tryz.f17.body.getD .skip) = []) trivial b hb) (R := (YI) × (YSess)) (T := fun (d : aden P_l_markSess) => T_l_markSess d.1 d.2.1) e_l_markSess
def P_l_heldByteS : List (Bool × List Sh) := [(false, [.sl 5 [.int .u8]]), (false, [.int .i64])]
def O_l_heldByteS (r : (YI)) : List RV × List RV := ([rv (false, [.int .i64]) r], [])
def C_l_heldByteS : Fns := []
def F_l_heldByteS : Fun1 := funV P_l_heldByteS (fun d => (T_l_heldByteS d.1 d.2.1).val) O_l_heldByteS
def K_l_heldByteS_2 : Sk := ⟨[(0, .v false [(.sl 5 [.int .u8], .ro)]), (1, .v false [(.int .i64, .nil)]), (5, .v false [(.int .i64, .nil)])], [], []⟩
def X_l_heldByteS_2 : List (Ex × Sk) := [(.ret, ⟨[(4, .v false [(.int .i64, .nil)])], [], []⟩), ((.exit 0), ⟨[(1, .v false [(.int .i64, .nil)])], [], []⟩)]
def Q_l_heldByteS : Loops := fun i st => cond (Nat.beq i 2) (lam K_l_heldByteS_2 3000000 X_l_heldByteS_2 B_l_heldByteS_2 st) <| .fail
theorem lp_l_heldByteS_2 : ∀ d, bod ⟨lookT tys, ctrOf C_l_heldByteS, kindOf C_l_heldByteS, 3, 4⟩ 0 Tryz.f95.ntmps Q_l_heldByteS (nthLoop Tryz.f95 0) K_l_heldByteS_2 3000000 X_l_heldByteS_2 d = B_l_heldByteS_2 d := fun d => by kernel_rfl
theorem lo_l_heldByteS_2 (cx : Cx) (hp : cx.pin.length ≤ 0) : LoopOk Tryz.prog cx Tryz.f95.ntmps Q_l_heldByteS (nthLoop Tryz.f95 0) := loop_of (cfgOk_of mixed tys_ok (show FnsOk Tryz.prog C_l_heldByteS from trivial)) hp (all_of (by kernel_rfl : loopsOf (nthLoop Tryz.f95 0) = []) trivial) (by kernel_rfl) lp_l_heldByteS_2
theorem e_l_heldByteS : ∀ d, pcall ⟨lookT tys, ctrOf C_l_heldByteS, kindOf C_l_heldByteS, 3, 4⟩ 0 Q_l_heldByteS Tryz.f95 .plain (mkA P_l_heldByteS d) = (T_l_heldByteS d.1 d.2.1).run fun r => some (O_l_heldByteS r) := fun d => by kernel_rfl
theorem fn_l_heldByteS : Fn Tryz.prog 95 .plain F_l_heldByteS := fn_of (cfgOk_of mixed tys_ok (show FnsOk Tryz.prog C_l_heldByteS from trivial)) Tryz.func95 (by kernel_rfl) (by kernel_rfl) (fun cx b hp hb => all_of (by kernel_rfl : loopsOf (Tryz.f95.body.getD .skip) = [nthLoop Tryz.f95 0]) ⟨lo_l_heldByteS_2 cx hp, trivial⟩ b hb) (R := (YI)) (T := fun (d : aden P_l_heldByteS) => T_l_heldByteS d.1 d.2.1) e_l_heldByteS
def P_l_heldIntS : List (Bool × List Sh) := [(false, [.sl 3 [.int .i64]]), (false, [.int .i64])]
def O_l_heldIntS (r : (YI)) : List RV × List RV := ([rv (false, [.int .i64]) r], [])
def C_l_heldIntS : Fns := []
def F_l_heldIntS : Fun1 := funV P_l_heldIntS (fun d => (T_l_heldIntS d.1 d.2.1).val) O_l_heldIntS
def K_l_heldIntS_2 : Sk := ⟨[(0, .v false [(.sl 3 [.int .i64], .ro)]), (1, .v false [(.int .i64, .nil)]), (5, .v false [(.int .i64, .nil)])], [], []⟩
def X_l_heldIntS_2 : List (Ex × Sk) := [(.ret, ⟨[(4, .v false [(.int .i64, .nil)])], [], []⟩), ((.exit 0), ⟨[(1, .v false [(.int .i64, .nil)])], [], []⟩)]
def Q_l_heldIntS : Loops := fun i st => cond (Nat.beq i 2) (lam K_l_heldIntS_2 3000000 X_l_heldIntS_2 B_l_heldIntS_2 st) <| .fail
theorem lp_l_heldIntS_2 : ∀ d, bod ⟨lookT tys, ctrOf C_l_heldIntS, kindOf C_l_heldIntS, 3, 4⟩ 0 Tryz.f144.ntmps Q_l_heldIntS (nthLoop Tryz.f144 0) K_l_heldIntS_2 3000000 X_l_heldIntS_2 d = B_l_heldIntS_2 d := fun d => by kernel_rfl
theorem lo_l_heldIntS_2 (cx : Cx) (hp : cx.pin.length ≤ 0) : LoopOk Tryz.prog cx Tryz.f144.ntmps Q_l_heldIntS (nthLoop Tryz.f144 0) := loop_of (cfgOk_of mixed tys_ok (show FnsOk Tryz.prog C_l_heldIntS from trivial)) hp (all_of (by kernel_rfl : loopsOf (nthLoop Tryz.f144 0) = []) trivial) (by kernel_rfl) lp_l_heldIntS_2
theorem e_l_heldIntS : ∀ d, pcall ⟨lookT tys, ctrOf C_l_heldIntS, kindOf C_l_heldIntS, 3, 4⟩ 0 Q_l_heldIntS Tryz.f144 .plain (mkA P_l_heldIntS d) = (T_l_heldIntS d.1 d.2.1).run fun r => some (O_l_heldIntS r) := fun d => by kernel_rfl
theorem fn_l_heldIntS : Fn Tryz.prog 144 .plain F_l_heldIntS := fn_of (cfgOk_of mixed tys_ok (show FnsOk Tryz.prog C_l_heldIntS from trivial)) Tryz.func144 (by kernel_rfl) (by kernel_rfl) (fun cx b hp hb => all_of (by kernel_rfl : loopsOf (Tryz.f144.body.getD .skip) = [nthLoop Tryz.f144 0]) ⟨lo_l_heldIntS_2 cx hp, trivial⟩ b hb) (R := (YI)) (T := fun (d : aden P_l_heldIntS) => T_l_heldIntS d.1 d.2.1) e_l_heldIntS
def P_l_heldWin : List (Bool × List Sh) := [(true, [.int .i64, .sl 3 [.int .i64]]), (false, [.int .i64])]
def O_l_heldWin (r : (YI)) : List RV × List RV := ([rv (false, [.int .i64]) r], [])
def C_l_heldWin : Fns := [(144, .plain, F_l_heldIntS)]
def F_l_heldWin : Fun1 := funV P_l_heldWin (fun d => (T_l_heldWin d.1 d.2.1).val) O_l_heldWin
def Q_l_heldWin : Loops := fun _ _ => .fail
theorem e_l_heldWin : ∀ d, pcall ⟨lookT tys, ctrOf C_l_heldWin, kindOf C_l_heldWin, 3, 4⟩ 0 Q_l_heldWin Tryz.f209 .plain (mkA P_l_heldWin d) = (T_l_heldWin d.1 d.2.1).run fun r => some (O_l_heldWin r) := fun d => by kernel_rfl
theorem fn_l_heldWin : Fn Tryz.prog 209 .plain F_l_heldWin := fn_of (cfgOk_of mixed tys_ok (show FnsOk Tryz.prog C_l_heldWin from ⟨fn_l_heldIntS, trivial⟩)) Tryz.func209 (by kernel_rfl) (by kernel_rfl) (fun cx b hp hb => all_of (by kernel_rfl : loopsOf (Tryz.f209.body.getD .skip) = []) trivial b hb) (R := (YI)) (T := fun (d : aden P_l_heldWin) => T_l_heldWin d.1 d.2.1) e_l_heldWin
def P_l_heldEp : List (Bool × List Sh) := [(true, h_5), (false, [.int .i64])]
def O_l_heldEp (r : (YI)) : List RV × List RV := ([rv (false, [.int .i64]) r], [])
def C_l_heldEp : Fns := [(95, .plain, F_l_heldByteS), (209, .plain, F_l_heldWin)]
def F_l_heldEp : Fun1 := funV P_l_heldEp (fun d => (T_l_heldEp d.1 d.2.1).val) O_l_heldEp
def Q_l_heldEp : Loops := fun _ _ => .fail
theorem e_l_heldEp : ∀ d, pcall ⟨lookT tys, ctrOf C_l_heldEp, kindOf C_l_heldEp, 3, 4⟩ 0 Q_l_heldEp Tryz.f169 .plain (mkA P_l_heldEp d) = (T_l_heldEp d.1 d.2.1).run fun r => some (O_l_heldEp r) := fun d => by kernel_rfl
theorem fn_l_heldEp : Fn Tryz.prog 169 .plain F_l_heldEp := fn_of (cfgOk_of mixed tys_ok (show FnsOk Tryz.prog C_l_heldEp from ⟨fn_l_heldByteS, fn_l_heldWin, trivial⟩)) Tryz.func169 (by kernel_rfl) (by kernel_rfl) (fun cx b hp hb => all_of (by kernel_rfl : loopsOf (Tryz.f169.body.getD .skip) = []) trivial b hb) (R := (YI)) (T := fun (d : aden P_l_heldEp) => T_l_heldEp d.1 d.2.1) e_l_heldEp
def P_l_heldChan : List (Bool × List Sh) := [(true, h_10), (false, [.int .i64])]
def O_l_heldChan (r : (YI)) : List RV × List RV := ([rv (false, [.int .i64]) r], [])
def C_l_heldChan : Fns := [(95, .plain, F_l_heldByteS), (169, .plain, F_l_heldEp)]
def F_l_heldChan : Fun1 := funV P_l_heldChan (fun d => (T_l_heldChan d.1 d.2.1).val) O_l_heldChan
def Q_l_heldChan : Loops := fun _ _ => .fail
theorem e_l_heldChan : ∀ d, pcall ⟨lookT tys, ctrOf C_l_heldChan, kindOf C_l_heldChan, 3, 4⟩ 0 Q_l_heldChan Tryz.f96 .plain (mkA P_l_heldChan d) = (T_l_heldChan d.1 d.2.1).run fun r => some (O_l_heldChan r) := fun d => by kernel_rfl
theorem fn_l_heldChan : Fn Tryz.prog 96 .plain F_l_heldChan := fn_of (cfgOk_of mixed tys_ok (show FnsOk Tryz.prog C_l_heldChan from ⟨fn_l_heldByteS, fn_l_heldEp, trivial⟩)) Tryz.func96 (by kernel_rfl) (by kernel_rfl) (fun cx b hp hb => all_of (by kernel_rfl : loopsOf (Tryz.f96.body.getD .skip) = []) trivial b hb) (R := (YI)) (T := fun (d : aden P_l_heldChan) => T_l_heldChan d.1 d.2.1) e_l_heldChan
def P_l_heldCandS : List (Bool × List Sh) := [(false, [.sl 198 h_4]), (false, [.int .i64])]
def O_l_heldCandS (r : (YI)) : List RV × List RV := ([rv (false, [.int .i64]) r], [])
def C_l_heldCandS : Fns := [(95, .plain, F_l_heldByteS)]
def F_l_heldCandS : Fun1 := funV P_l_heldCandS (fun d => (T_l_heldCandS d.1 d.2.1).val) O_l_heldCandS
def K_l_heldCandS_2 : Sk := ⟨[(0, .v false [(.sl 198 h_4, .ro)]), (1, .v false [(.int .i64, .nil)]), (5, .v false [(.int .i64, .nil)])], [], []⟩
def X_l_heldCandS_2 : List (Ex × Sk) := [(.ret, ⟨[(4, .v false [(.int .i64, .nil)])], [], []⟩), ((.exit 0), ⟨[(1, .v false [(.int .i64, .nil)])], [], []⟩)]
def Q_l_heldCandS : Loops := fun i st => cond (Nat.beq i 2) (lam K_l_heldCandS_2 3000000 X_l_heldCandS_2 B_l_heldCandS_2 st) <| .fail
theorem lp_l_heldCandS_2 : ∀ d, bod ⟨lookT tys, ctrOf C_l_heldCandS, kindOf C_l_heldCandS, 3, 4⟩ 0 Tryz.f145.ntmps Q_l_heldCandS (nthLoop Tryz.f145 0) K_l_heldCandS_2 3000000 X_l_heldCandS_2 d = B_l_heldCandS_2 d := fun d => by kernel_rfl
theorem lo_l_heldCandS_2 (cx : Cx) (hp : cx.pin.length ≤ 0) : LoopOk Tryz.prog cx Tryz.f145.ntmps Q_l_heldCandS (nthLoop Tryz.f145 0) := loop_of (cfgOk_of mixed tys_ok (show FnsOk Tryz.prog C_l_heldCandS from ⟨fn_l_heldByteS, trivial⟩)) hp (all_of (by kernel_rfl : loopsOf (nthLoop Tryz.f145 0) = []) trivial) (by kernel_rfl) lp_l_heldCandS_2
theorem e_l_heldCandS : ∀ d, pcall ⟨lookT tys, ctrOf C_l_heldCandS, kindOf C_l_heldCandS, 3, 4⟩ 0 Q_l_heldCandS Tryz.f145 .plain (mkA P_l_heldCandS d) = (T_l_heldCandS d.1 d.2.1).run fun r => some (O_l_heldCandS r) := fun d => by kernel_rfl
theorem fn_l_heldCandS : Fn Tryz.prog 145 .plain F_l_heldCandS := fn_of (cfgOk_of mixed tys_ok (show FnsOk Tryz.prog C_l_heldCandS from ⟨fn_l_heldByteS, trivial⟩)) Tryz.func145 (by kernel_rfl) (by kernel_rfl) (fun cx b hp hb => all_of (by kernel_rfl : loopsOf (Tryz.f145.body.getD .skip) = [nthLoop Tryz.f145 0]) ⟨lo_l_heldCandS_2 cx hp, trivial⟩ b hb) (R := (YI)) (T := fun (d : aden P_l_heldCandS) => T_l_heldCandS d.1 d.2.1) e_l_heldCandS
def P_l_heldPaths : List (Bool × List Sh) := [(true, h_7), (false, [.int .i64])]
def O_l_heldPaths (r : (YI)) : List RV × List RV := ([rv (false, [.int .i64]) r], [])
def C_l_heldPaths : Fns := [(145, .plain, F_l_heldCandS)]
def F_l_heldPaths : Fun1 := funV P_l_heldPaths (fun d => (T_l_heldPaths d.1 d.2.1).val) O_l_heldPaths
def Q_l_heldPaths : Loops := fun _ _ => .fail
theorem e_l_heldPaths : ∀ d, pcall ⟨lookT tys, ctrOf C_l_heldPaths, kindOf C_l_heldPaths, 3, 4⟩ 0 Q_l_heldPaths Tryz.f97 .plain (mkA P_l_heldPaths d) = (T_l_heldPaths d.1 d.2.1).run fun r => some (O_l_heldPaths r) := fun d => by kernel_rfl
theorem fn_l_heldPaths : Fn Tryz.prog 97 .plain F_l_heldPaths := fn_of (cfgOk_of mixed tys_ok (show FnsOk Tryz.prog C_l_heldPaths from ⟨fn_l_heldCandS, trivial⟩)) Tryz.func97 (by kernel_rfl) (by kernel_rfl) (fun cx b hp hb => all_of (by kernel_rfl : loopsOf (Tryz.f97.body.getD .skip) = []) trivial b hb) (R := (YI)) (T := fun (d : aden P_l_heldPaths) => T_l_heldPaths d.1 d.2.1) e_l_heldPaths
def P_l_heldSess : List (Bool × List Sh) := [(true, h_12), (false, [.int .i64])]
def O_l_heldSess (r : (YI)) : List RV × List RV := ([rv (false, [.int .i64]) r], [])
def C_l_heldSess : Fns := [(95, .plain, F_l_heldByteS), (96, .plain, F_l_heldChan), (97, .plain, F_l_heldPaths)]
def F_l_heldSess : Fun1 := funV P_l_heldSess (fun d => (T_l_heldSess d.1 d.2.1).val) O_l_heldSess
def Q_l_heldSess : Loops := fun _ _ => .fail
theorem e_l_heldSess : ∀ d, pcall ⟨lookT tys, ctrOf C_l_heldSess, kindOf C_l_heldSess, 3, 4⟩ 0 Q_l_heldSess Tryz.f31 .plain (mkA P_l_heldSess d) = (T_l_heldSess d.1 d.2.1).run fun r => some (O_l_heldSess r) := fun d => by kernel_rfl
theorem fn_l_heldSess : Fn Tryz.prog 31 .plain F_l_heldSess := fn_of (cfgOk_of mixed tys_ok (show FnsOk Tryz.prog C_l_heldSess from ⟨fn_l_heldByteS, fn_l_heldChan, fn_l_heldPaths, trivial⟩)) Tryz.func31 (by kernel_rfl) (by kernel_rfl) (fun cx b hp hb => all_of (by kernel_rfl : loopsOf (Tryz.f31.body.getD .skip) = []) trivial b hb) (R := (YI)) (T := fun (d : aden P_l_heldSess) => T_l_heldSess d.1 d.2.1) e_l_heldSess
def P_l_FnExactSessNew : List (Bool × List Sh) := [(false, [.sl 5 [.int .u8]]), (false, [.int .i64]), (true, [.int .i64, .int .i64]), (true, h_9)]
def O_l_FnExactSessNew (r : (Bool × Unit)) : List RV × List RV := ([rv (false, [.bool]) r], [])
def C_l_FnExactSessNew : Fns := [(21, .plain, F_l_szFrame), (23, .plain, F_l_toByteS), (24, .plain, F_l_toAddr), (25, .plain, F_l_toFrame), (22, .plain, F_s_SessNew), (26, .plain, F_i_SessNew), (15, .plain, F_l_eqSess), (27, .plain, F_l_eqByteS), (28, .plain, F_l_eqFrame), (29, (.lend [1]), F_l_markByteS), (30, (.lend [1]), F_l_markFrame), (17, (.lend [1]), F_l_markSess), (31, .plain, F_l_heldSess)]
def F_l_FnExactSessNew : Fun1 := funV P_l_FnExactSessNew (fun d => (T_l_FnExactSessNew d.1 d.2.1 d.2.2.1 d.2.2.2.1).val) O_l_FnExactSessNew
def Q_l_FnExactSessNew : Loops := fun _ _ => .fail
theorem e_l_FnExactSessNew : ∀ d, pcall ⟨lookT tys, ctrOf C_l_FnExactSessNew, kindOf C_l_FnExactSessNew, 3, 4⟩ 0 Q_l_FnExactSessNew Tryz.f5 .plain (mkA P_l_FnExactSessNew d) = (T_l_FnExactSessNew d.1 d.2.1 d.2.2.1 d.2.2.2.1).run fun r => some (O_l_FnExactSessNew r) := fun d => by kernel_rfl
theorem fn_l_FnExactSessNew : Fn Tryz.prog 5 .plain F_l_FnExactSessNew := fn_of (cfgOk_of mixed tys_ok (show FnsOk Tryz.prog C_l_FnExactSessNew from ⟨fn_l_szFrame, fn_l_toByteS, fn_l_toAddr, fn_l_toFrame, fn_s_SessNew, fn_i_SessNew, fn_l_eqSess, fn_l_eqByteS, fn_l_eqFrame, fn_l_markByteS, fn_l_markFrame, fn_l_markSess, fn_l_heldSess, trivial⟩)) Tryz.func5 (by kernel_rfl) (by kernel_rfl) (fun cx b hp hb => all_of (by kernel_rfl : loopsOf (Tryz.f5.body.getD .skip) = []) trivial b hb) (R := (Bool × Unit)) (T := fun (d : aden P_l_FnExactSessNew) => T_l_FnExactSessNew d.1 d.2.1 d.2.2.1 d.2.2.2.1) e_l_FnExactSessNew
end
end Go.Proofs.YtfdfaefafbnceaaGreat

/-
  That the functions of the seat answer what the terms of text W say; nothing is assumed.
-/
import Derived.Test.YtndbndcibmfgdaaW
import Derived.Test.YtndbndcibmfgdaaProg
import Derived.KernelRfl
namespace Go.Proofs.Ytndbndcibmfgdaa
open Go.RowKit
set_option linter.unusedVariables false
set_option maxRecDepth 100000
set_option maxHeartbeats 4000000
noncomputable section
abbrev h_0 : List Sh := [.int .i64, .int .i64, .bool, .int .u8]
abbrev h_1 : List Sh := [.int .i64, .int .i64, .sl 5 [.int .u8], .int .i64]
abbrev h_2 : List Sh := [.int .i64, .int .i64, .int .i64, .int .i64, .sl 5 [.int .u8]]
abbrev h_3 : List Sh := [.int .i64, .sl 5 [.int .u8], .int .i64, .int .i64, .sl 3 [.int .i64]]
abbrev h_4 : List Sh := [.int .i64, .int .i64, .sl 96 h_1]
abbrev h_5 : List Sh := [.int .i64, .int .i64, .sl 108 h_1]
abbrev h_6 : List Sh := [.int .i64, .sl 5 [.int .u8], .int .i64, .sl 5 [.int .u8], .int .i64, .int .i64, .sl 3 [.int .i64], .int .i64, .sl 5 [.int .u8], .int .i64, .int .i64, .sl 3 [.int .i64], .bool, .int .i64, .sl 5 [.int .u8]]
abbrev h_7 : List Sh := [.int .i64, .sl 5 [.int .u8], .sl 5 [.int .u8], .int .i64, .sl 5 [.int .u8], .int .i64, .sl 5 [.int .u8], .int .i64, .int .i64, .sl 3 [.int .i64], .int .i64, .sl 5 [.int .u8], .int .i64, .int .i64, .sl 3 [.int .i64], .bool, .int .i64, .sl 5 [.int .u8], .int .i64, .int .i64, .sl 96 h_1, .int .i64, .int .i64, .bool]
abbrev h_8 : List Sh := [.int .i64, .sl 5 [.int .u8], .sl 5 [.int .u8], .int .i64, .sl 5 [.int .u8], .int .i64, .sl 5 [.int .u8], .int .i64, .int .i64, .sl 3 [.int .i64], .int .i64, .sl 5 [.int .u8], .int .i64, .int .i64, .sl 3 [.int .i64], .bool, .int .i64, .sl 5 [.int .u8], .int .i64, .int .i64, .sl 108 h_1, .int .i64, .int .i64, .bool]
def tys : List (Nat × Ty) := [(3, ⟨false, [.int .i64], [], false, []⟩),
  (4, ⟨false, [.bool], [], false, []⟩),
  (5, ⟨false, [.int .u8], [], false, []⟩),
  (9, ⟨false, [.str], [], false, []⟩),
  (22, ⟨false, [.sl 65 h_2], [], false, []⟩),
  (24, ⟨true, [.int .i64, .int .i64], [(0, 1), (1, 1)], true, []⟩),
  (26, ⟨false, [.sl 67 h_2], [], false, []⟩),
  (29, ⟨true, [.int .i64, .int .i64], [(0, 1), (1, 1)], true, []⟩),
  (34, ⟨false, [.sl 5 [.int .u8]], [], false, []⟩),
  (35, ⟨false, [.sl 3 [.int .i64]], [], false, []⟩),
  (37, ⟨true, [.int .i64, .sl 3 [.int .i64]], [(0, 1), (1, 1)], false, []⟩),
  (39, ⟨true, h_3, [(0, 1), (1, 1), (2, 1), (3, 2)], false, []⟩),
  (41, ⟨true, h_6, [(0, 1), (1, 1), (2, 5), (7, 5), (12, 1), (13, 1), (14, 1)], false, []⟩),
  (42, ⟨false, [.sl 108 h_1], [], false, []⟩),
  (44, ⟨true, h_5, [(0, 2), (2, 1)], false, []⟩),
  (46, ⟨true, h_8, [(0, 1), (1, 1), (2, 1), (3, 15), (18, 3), (21, 1), (22, 1), (23, 1)], false, []⟩),
  (48, ⟨true, [.int .i64, .sl 3 [.int .i64]], [(0, 1), (1, 1)], false, []⟩),
  (50, ⟨true, h_3, [(0, 1), (1, 1), (2, 1), (3, 2)], false, []⟩),
  (52, ⟨true, h_6, [(0, 1), (1, 1), (2, 5), (7, 5), (12, 1), (13, 1), (14, 1)], false, []⟩),
  (53, ⟨false, [.sl 96 h_1], [], false, []⟩),
  (55, ⟨true, h_4, [(0, 2), (2, 1)], false, [29, 53]⟩),
  (57, ⟨true, h_7, [(0, 1), (1, 1), (2, 1), (3, 15), (18, 3), (21, 1), (22, 1), (23, 1)], false, []⟩),
  (65, ⟨true, h_2, [(0, 2), (2, 2), (4, 1)], false, []⟩),
  (67, ⟨true, h_2, [(0, 2), (2, 2), (4, 1)], false, []⟩),
  (96, ⟨true, h_1, [(0, 2), (2, 1), (3, 1)], false, []⟩),
  (108, ⟨true, h_1, [(0, 2), (2, 1), (3, 1)], false, []⟩)]
theorem tys_ok : tysB Try.prog tys = true := by kernel_rfl
theorem mixed : Try.prog.follows .mixedOrders = true := by kernel_rfl
theorem mkF {f : FuncId} {fn : Func} {kd : Kind} {ps : List (Bool × List Sh)} {R : Type} {T : aden ps → Tree R} {rvs : R → List RV × List RV} (C : Fns) (hc : FnsOk Try.prog C) (hf : Try.prog.funcs[f]? = some fn) (hn : (fn.name == "runtime.NumGoroutine") = false) (hb : fn.body.isSome = true) (hl : loopsOf (fn.body.getD .skip) = []) (np : Nat)
    (he : ∀ d, pcall ⟨lookT tys, ctrOf C, kindOf C, 3, 4⟩ np (fun _ _ => .fail) fn kd (mkA ps d) = (T d).run fun r => some (rvs r)) : Fn Try.prog f kd (funV ps (fun d => (T d).val) rvs) :=
  fn_of (cfgOk_of mixed tys_ok hc) hf hn hb (fun cx b hp hbb => by rw [hl] at hbb; cases hbb) he
def P_l_szByteS : List (Bool × List Sh) := [(false, [.sl 5 [.int .u8]]), (false, [.int .i64])]
def O_l_szByteS (r : (YI)) : List RV × List RV := ([rv (false, [.int .i64]) r], [])
def C_l_szByteS : Fns := []
def F_l_szByteS : Fun1 := funV P_l_szByteS (fun d => (T_l_szByteS d.1 d.2.1).val) O_l_szByteS
def Q_l_szByteS : Loops := fun _ _ => .fail
theorem e_l_szByteS : ∀ d, pcall ⟨lookT tys, ctrOf C_l_szByteS, kindOf C_l_szByteS, 3, 4⟩ 0 Q_l_szByteS Try.f26 .plain (mkA P_l_szByteS d) = (T_l_szByteS d.1 d.2.1).run fun r => some (O_l_szByteS r) := fun d => by kernel_rfl
theorem fn_l_szByteS : Fn Try.prog 26 .plain F_l_szByteS := fn_of (cfgOk_of mixed tys_ok (show FnsOk Try.prog C_l_szByteS from trivial)) Try.func26 (by kernel_rfl) (by kernel_rfl) (fun cx b hp hb => all_of (by kernel_rfl : loopsOf (Try.f26.body.getD .skip) = []) trivial b hb) (R := (YI)) (T := fun (d : aden P_l_szByteS) => T_l_szByteS d.1 d.2.1) e_l_szByteS
def P_l_szWire : List (Bool × List Sh) := [(true, h_2), (false, [.int .i64])]
def O_l_szWire (r : (YI)) : List RV × List RV := ([rv (false, [.int .i64]) r], [])
def C_l_szWire : Fns := [(26, .plain, F_l_szByteS)]
def F_l_szWire : Fun1 := funV P_l_szWire (fun d => (T_l_szWire d.1 d.2.1).val) O_l_szWire
def Q_l_szWire : Loops := fun _ _ => .fail
theorem e_l_szWire : ∀ d, pcall ⟨lookT tys, ctrOf C_l_szWire, kindOf C_l_szWire, 3, 4⟩ 0 Q_l_szWire Try.f20 .plain (mkA P_l_szWire d) = (T_l_szWire d.1 d.2.1).run fun r => some (O_l_szWire r) := fun d => by kernel_rfl
theorem fn_l_szWire : Fn Try.prog 20 .plain F_l_szWire := fn_of (cfgOk_of mixed tys_ok (show FnsOk Try.prog C_l_szWire from ⟨fn_l_szByteS, trivial⟩)) Try.func20 (by kernel_rfl) (by kernel_rfl) (fun cx b hp hb => all_of (by kernel_rfl : loopsOf (Try.f20.body.getD .skip) = []) trivial b hb) (R := (YI)) (T := fun (d : aden P_l_szWire) => T_l_szWire d.1 d.2.1) e_l_szWire
def P_l_szWireS : List (Bool × List Sh) := [(false, [.sl 65 h_2]), (false, [.int .i64])]
def O_l_szWireS (r : (YI)) : List RV × List RV := ([rv (false, [.int .i64]) r], [])
def C_l_szWireS : Fns := [(20, .plain, F_l_szWire)]
def F_l_szWireS : Fun1 := funV P_l_szWireS (fun d => (T_l_szWireS d.1 d.2.1).val) O_l_szWireS
def K_l_szWireS_5 : Sk := ⟨[(0, .v false [(.sl 65 h_2, .ro)]), (1, .v false [(.int .i64, .nil)]), (5, .v false [(.int .i64, .nil)])], [], []⟩
def X_l_szWireS_5 : List (Ex × Sk) := [(.ret, ⟨[(4, .v false [(.int .i64, .nil)])], [], []⟩), ((.exit 0), ⟨[(1, .v false [(.int .i64, .nil)])], [], []⟩)]
def Q_l_szWireS : Loops := fun i st => cond (Nat.beq i 5) (lam K_l_szWireS_5 6000000 X_l_szWireS_5 B_l_szWireS_5 st) <| .fail
theorem lp_l_szWireS_5 : ∀ d, bod ⟨lookT tys, ctrOf C_l_szWireS, kindOf C_l_szWireS, 3, 4⟩ 0 Try.f5.ntmps Q_l_szWireS (nthLoop Try.f5 0) K_l_szWireS_5 6000000 X_l_szWireS_5 d = B_l_szWireS_5 d := fun d => by kernel_rfl
theorem lo_l_szWireS_5 (cx : Cx) (hp : cx.pin.length ≤ 0) : LoopOk Try.prog cx Try.f5.ntmps Q_l_szWireS (nthLoop Try.f5 0) := loop_of (cfgOk_of mixed tys_ok (show FnsOk Try.prog C_l_szWireS from ⟨fn_l_szWire, trivial⟩)) hp (all_of (by kernel_rfl : loopsOf (nthLoop Try.f5 0) = []) trivial) (by kernel_rfl) lp_l_szWireS_5
theorem e_l_szWireS : ∀ d, pcall ⟨lookT tys, ctrOf C_l_szWireS, kindOf C_l_szWireS, 3, 4⟩ 0 Q_l_szWireS Try.f5 .plain (mkA P_l_szWireS d) = (T_l_szWireS d.1 d.2.1).run fun r => some (O_l_szWireS r) := fun d => by kernel_rfl
theorem fn_l_szWireS : Fn Try.prog 5 .plain F_l_szWireS := fn_of (cfgOk_of mixed tys_ok (show FnsOk Try.prog C_l_szWireS from ⟨fn_l_szWire, trivial⟩)) Try.func5 (by kernel_rfl) (by kernel_rfl) (fun cx b hp hb => all_of (by kernel_rfl : loopsOf (Try.f5.body.getD .skip) = [nthLoop Try.f5 0]) ⟨lo_l_szWireS_5 cx hp, trivial⟩ b hb) (R := (YI)) (T := fun (d : aden P_l_szWireS) => T_l_szWireS d.1 d.2.1) e_l_szWireS
def P_l_toAddr : List (Bool × List Sh) := [(true, [.int .i64, .int .i64])]
def O_l_toAddr (r : (YAddr)) : List RV × List RV := ([rv (true, [.int .i64, .int .i64]) r], [])
def C_l_toAddr : Fns := []
def F_l_toAddr : Fun1 := funV P_l_toAddr (fun d => (T_l_toAddr d.1).val) O_l_toAddr
def Q_l_toAddr : Loops := fun _ _ => .fail
theorem e_l_toAddr : ∀ d, pcall ⟨lookT tys, ctrOf C_l_toAddr, kindOf C_l_toAddr, 3, 4⟩ 0 Q_l_toAddr Try.f8 .plain (mkA P_l_toAddr d) = (T_l_toAddr d.1).run fun r => some (O_l_toAddr r) := fun d => by kernel_rfl
theorem fn_l_toAddr : Fn Try.prog 8 .plain F_l_toAddr := fn_of (cfgOk_of mixed tys_ok (show FnsOk Try.prog C_l_toAddr from trivial)) Try.func8 (by kernel_rfl) (by kernel_rfl) (fun cx b hp hb => all_of (by kernel_rfl : loopsOf (Try.f8.body.getD .skip) = []) trivial b hb) (R := (YAddr)) (T := fun (d : aden P_l_toAddr) => T_l_toAddr d.1) e_l_toAddr
def P_l_toByteS : List (Bool × List Sh) := [(false, [.sl 5 [.int .u8]])]
def O_l_toByteS (r : (YBs)) : List RV × List RV := ([rv (false, [.sl 5 [.int .u8]]) r], [])
def C_l_toByteS : Fns := []
def F_l_toByteS : Fun1 := funV P_l_toByteS (fun d => (T_l_toByteS d.1).val) O_l_toByteS
def K_l_toByteS_3 : Sk := ⟨[(0, .v false [(.sl 5 [.int .u8], .ro)]), (3, .v false [(.sl 5 [.int .u8], (.own 4000000))]), (4, .v false [(.int .i64, .nil)])], [], [4000000]⟩
def X_l_toByteS_3 : List (Ex × Sk) := [((.exit 0), ⟨[(3, .v false [(.sl 5 [.int .u8], (.own 4000000))])], [], [4000000]⟩)]
def Q_l_toByteS : Loops := fun i st => cond (Nat.beq i 3) (lam K_l_toByteS_3 4000000 X_l_toByteS_3 B_l_toByteS_3 st) <| .fail
theorem lp_l_toByteS_3 : ∀ d, bod ⟨lookT tys, ctrOf C_l_toByteS, kindOf C_l_toByteS, 3, 4⟩ 0 Try.f35.ntmps Q_l_toByteS (nthLoop Try.f35 0) K_l_toByteS_3 4000000 X_l_toByteS_3 d = B_l_toByteS_3 d := fun d => by kernel_rfl
theorem lo_l_toByteS_3 (cx : Cx) (hp : cx.pin.length ≤ 0) : LoopOk Try.prog cx Try.f35.ntmps Q_l_toByteS (nthLoop Try.f35 0) := loop_of (cfgOk_of mixed tys_ok (show FnsOk Try.prog C_l_toByteS from trivial)) hp (all_of (by kernel_rfl : loopsOf (nthLoop Try.f35 0) = []) trivial) (by kernel_rfl) lp_l_toByteS_3
theorem e_l_toByteS : ∀ d, pcall ⟨lookT tys, ctrOf C_l_toByteS, kindOf C_l_toByteS, 3, 4⟩ 0 Q_l_toByteS Try.f35 .plain (mkA P_l_toByteS d) = (T_l_toByteS d.1).run fun r => some (O_l_toByteS r) := fun d => by kernel_rfl
theorem fn_l_toByteS : Fn Try.prog 35 .plain F_l_toByteS := fn_of (cfgOk_of mixed tys_ok (show FnsOk Try.prog C_l_toByteS from trivial)) Try.func35 (by kernel_rfl) (by kernel_rfl) (fun cx b hp hb => all_of (by kernel_rfl : loopsOf (Try.f35.body.getD .skip) = [nthLoop Try.f35 0]) ⟨lo_l_toByteS_3 cx hp, trivial⟩ b hb) (R := (YBs)) (T := fun (d : aden P_l_toByteS) => T_l_toByteS d.1) e_l_toByteS
def P_l_toWire : List (Bool × List Sh) := [(true, h_2)]
def O_l_toWire (r : (YWire)) : List RV × List RV := ([rv (true, h_2) r], [])
def C_l_toWire : Fns := [(8, .plain, F_l_toAddr), (35, .plain, F_l_toByteS)]
def F_l_toWire : Fun1 := funV P_l_toWire (fun d => (T_l_toWire d.1).val) O_l_toWire
def Q_l_toWire : Loops := fun _ _ => .fail
theorem e_l_toWire : ∀ d, pcall ⟨lookT tys, ctrOf C_l_toWire, kindOf C_l_toWire, 3, 4⟩ 0 Q_l_toWire Try.f21 .plain (mkA P_l_toWire d) = (T_l_toWire d.1).run fun r => some (O_l_toWire r) := fun d => by kernel_rfl
theorem fn_l_toWire : Fn Try.prog 21 .plain F_l_toWire := fn_of (cfgOk_of mixed tys_ok (show FnsOk Try.prog C_l_toWire from ⟨fn_l_toAddr, fn_l_toByteS, trivial⟩)) Try.func21 (by kernel_rfl) (by kernel_rfl) (fun cx b hp hb => all_of (by kernel_rfl : loopsOf (Try.f21.body.getD .skip) = []) trivial b hb) (R := (YWire)) (T := fun (d : aden P_l_toWire) => T_l_toWire d.1) e_l_toWire
def P_l_toWireS : List (Bool × List Sh) := [(false, [.sl 65 h_2])]
def O_l_toWireS (r : ((List YWire) × Unit)) : List RV × List RV := ([rv (false, [.sl 67 h_2]) r], [])
def C_l_toWireS : Fns := [(21, .plain, F_l_toWire)]
def F_l_toWireS : Fun1 := funV P_l_toWireS (fun d => (T_l_toWireS d.1).val) O_l_toWireS
def K_l_toWireS_3 : Sk := ⟨[(0, .v false [(.sl 65 h_2, .ro)]), (3, .v false [(.sl 67 h_2, (.own 4000000))]), (4, .v false [(.int .i64, .nil)])], [], [4000000]⟩
def X_l_toWireS_3 : List (Ex × Sk) := [((.exit 0), ⟨[(3, .v false [(.sl 67 h_2, (.own 4000000))])], [], [4000000]⟩)]
def Q_l_toWireS : Loops := fun i st => cond (Nat.beq i 3) (lam K_l_toWireS_3 4000000 X_l_toWireS_3 B_l_toWireS_3 st) <| .fail
theorem lp_l_toWireS_3 : ∀ d, bod ⟨lookT tys, ctrOf C_l_toWireS, kindOf C_l_toWireS, 3, 4⟩ 0 Try.f7.ntmps Q_l_toWireS (nthLoop Try.f7 0) K_l_toWireS_3 4000000 X_l_toWireS_3 d = B_l_toWireS_3 d := fun d => by kernel_rfl
theorem lo_l_toWireS_3 (cx : Cx) (hp : cx.pin.length ≤ 0) : LoopOk Try.prog cx Try.f7.ntmps Q_l_toWireS (nthLoop Try.f7 0) := loop_of (cfgOk_of mixed tys_ok (show FnsOk Try.prog C_l_toWireS from ⟨fn_l_toWire, trivial⟩)) hp (all_of (by kernel_rfl : loopsOf (nthLoop Try.f7 0) = []) trivial) (by kernel_rfl) lp_l_toWireS_3
theorem e_l_toWireS : ∀ d, pcall ⟨lookT tys, ctrOf C_l_toWireS, kindOf C_l_toWireS, 3, 4⟩ 0 Q_l_toWireS Try.f7 .plain (mkA P_l_toWireS d) = (T_l_toWireS d.1).run fun r => some (O_l_toWireS r) := fun d => by kernel_rfl
theorem fn_l_toWireS : Fn Try.prog 7 .plain F_l_toWireS := fn_of (cfgOk_of mixed tys_ok (show FnsOk Try.prog C_l_toWireS from ⟨fn_l_toWire, trivial⟩)) Try.func7 (by kernel_rfl) (by kernel_rfl) (fun cx b hp hb => all_of (by kernel_rfl : loopsOf (Try.f7.body.getD .skip) = [nthLoop Try.f7 0]) ⟨lo_l_toWireS_3 cx hp, trivial⟩ b hb) (R := ((List YWire) × Unit)) (T := fun (d : aden P_l_toWireS) => T_l_toWireS d.1) e_l_toWireS
def P_s_Between : List (Bool × List Sh) := [(false, [.sl 67 h_2]), (true, [.int .i64, .int .i64]), (true, [.int .i64, .int .i64])]
def O_s_Between (r : ((List YWire) × Unit)) : List RV × List RV := ([rv (false, [.sl 67 h_2]) r], [])
def C_s_Between : Fns := []
def F_s_Between : Fun1 := funV P_s_Between (fun d => (T_s_Between d.1 d.2.1 d.2.2.1).val) O_s_Between
def K_s_Between_3 : Sk := ⟨[(0, .v false [(.sl 67 h_2, .ro)]), (4, .box 4 0), (5, .box 5 0), (7, .v false [(.sl 67 h_2, (.own 4000000))]), (8, .v false [(.int .i64, .nil)])], [(4, [(.int .i64, .nil), (.int .i64, .nil)]), (5, [(.int .i64, .nil), (.int .i64, .nil)])], [4000000]⟩
def X_s_Between_3 : List (Ex × Sk) := [((.exit 0), ⟨[(7, .v false [(.sl 67 h_2, (.own 4000000))])], [], [4000000]⟩)]
def Q_s_Between : Loops := fun i st => cond (Nat.beq i 3) (lam K_s_Between_3 4000000 X_s_Between_3 B_s_Between_3 st) <| .fail
theorem lp_s_Between_3 : ∀ d, bod ⟨lookT tys, ctrOf C_s_Between, kindOf C_s_Between, 3, 4⟩ 0 Try.f6.ntmps Q_s_Between (nthLoop Try.f6 0) K_s_Between_3 4000000 X_s_Between_3 d = B_s_Between_3 d := fun d => by kernel_rfl
theorem lo_s_Between_3 (cx : Cx) (hp : cx.pin.length ≤ 0) : LoopOk Try.prog cx Try.f6.ntmps Q_s_Between (nthLoop Try.f6 0) := loop_of (cfgOk_of mixed tys_ok (show FnsOk Try.prog C_s_Between from trivial)) hp (all_of (by kernel_rfl : loopsOf (nthLoop Try.f6 0) = []) trivial) (by kernel_rfl) lp_s_Between_3
theorem e_s_Between : ∀ d, pcall ⟨lookT tys, ctrOf C_s_Between, kindOf C_s_Between, 3, 4⟩ 0 Q_s_Between Try.f6 .plain (mkA P_s_Between d) = (T_s_Between d.1 d.2.1 d.2.2.1).run fun r => some (O_s_Between r) := fun d => by kernel_rfl
theorem fn_s_Between : Fn Try.prog 6 .plain F_s_Between := fn_of (cfgOk_of mixed tys_ok (show FnsOk Try.prog C_s_Between from trivial)) Try.func6 (by kernel_rfl) (by kernel_rfl) (fun cx b hp hb => all_of (by kernel_rfl : loopsOf (Try.f6.body.getD .skip) = [nthLoop Try.f6 0]) ⟨lo_s_Between_3 cx hp, trivial⟩ b hb) (R := ((List YWire) × Unit)) (T := fun (d : aden P_s_Between) => T_s_Between d.1 d.2.1 d.2.2.1) e_s_Between
def P_i_clone : List (Bool × List Sh) := [(false, [.sl 5 [.int .u8]])]
def O_i_clone (r : (YBs)) : List RV × List RV := ([rv (false, [.sl 5 [.int .u8]]) r], [])
def C_i_clone : Fns := []
def F_i_clone : Fun1 := funV P_i_clone (fun d => (T_i_clone d.1).val) O_i_clone
def Q_i_clone : Loops := fun _ _ => .fail
theorem e_i_clone : ∀ d, pcall ⟨lookT tys, ctrOf C_i_clone, kindOf C_i_clone, 3, 4⟩ 0 Q_i_clone Try.f51 .plain (mkA P_i_clone d) = (T_i_clone d.1).run fun r => some (O_i_clone r) := fun d => by kernel_rfl
theorem fn_i_clone : Fn Try.prog 51 .plain F_i_clone := fn_of (cfgOk_of mixed tys_ok (show FnsOk Try.prog C_i_clone from trivial)) Try.func51 (by kernel_rfl) (by kernel_rfl) (fun cx b hp hb => all_of (by kernel_rfl : loopsOf (Try.f51.body.getD .skip) = []) trivial b hb) (R := (YBs)) (T := fun (d : aden P_i_clone) => T_i_clone d.1) e_i_clone
def P_i_copyWires : List (Bool × List Sh) := [(false, [.sl 67 h_2])]
def O_i_copyWires (r : ((List YWire) × Unit)) : List RV × List RV := ([rv (false, [.sl 67 h_2]) r], [])
def C_i_copyWires : Fns := [(51, .plain, F_i_clone)]
def F_i_copyWires : Fun1 := funV P_i_copyWires (fun d => (T_i_copyWires d.1).val) O_i_copyWires
def K_i_copyWires_3 : Sk := ⟨[(3, .v false [(.sl 67 h_2, (.own 4000000))]), (7, .v false [(.sl 67 h_2, .ro)]), (8, .v false [(.int .i64, .nil)]), (9, .v false [(.int .i64, .nil)])], [], [4000000]⟩
def X_i_copyWires_3 : List (Ex × Sk) := [((.exit 0), ⟨[(3, .v false [(.sl 67 h_2, (.own 4000000))])], [], [4000000]⟩)]
def Q_i_copyWires : Loops := fun i st => cond (Nat.beq i 3) (lam K_i_copyWires_3 4000000 X_i_copyWires_3 B_i_copyWires_3 st) <| .fail
theorem lp_i_copyWires_3 : ∀ d, bod ⟨lookT tys, ctrOf C_i_copyWires, kindOf C_i_copyWires, 3, 4⟩ 0 Try.f22.ntmps Q_i_copyWires (nthLoop Try.f22 0) K_i_copyWires_3 4000000 X_i_copyWires_3 d = B_i_copyWires_3 d := fun d => by kernel_rfl
theorem lo_i_copyWires_3 (cx : Cx) (hp : cx.pin.length ≤ 0) : LoopOk Try.prog cx Try.f22.ntmps Q_i_copyWires (nthLoop Try.f22 0) := loop_of (cfgOk_of mixed tys_ok (show FnsOk Try.prog C_i_copyWires from ⟨fn_i_clone, trivial⟩)) hp (all_of (by kernel_rfl : loopsOf (nthLoop Try.f22 0) = []) trivial) (by kernel_rfl) lp_i_copyWires_3
theorem e_i_copyWires : ∀ d, pcall ⟨lookT tys, ctrOf C_i_copyWires, kindOf C_i_copyWires, 3, 4⟩ 0 Q_i_copyWires Try.f22 .plain (mkA P_i_copyWires d) = (T_i_copyWires d.1).run fun r => some (O_i_copyWires r) := fun d => by kernel_rfl
theorem fn_i_copyWires : Fn Try.prog 22 .plain F_i_copyWires := fn_of (cfgOk_of mixed tys_ok (show FnsOk Try.prog C_i_copyWires from ⟨fn_i_clone, trivial⟩)) Try.func22 (by kernel_rfl) (by kernel_rfl) (fun cx b hp hb => all_of (by kernel_rfl : loopsOf (Try.f22.body.getD .skip) = [nthLoop Try.f22 0]) ⟨lo_i_copyWires_3 cx hp, trivial⟩ b hb) (R := ((List YWire) × Unit)) (T := fun (d : aden P_i_copyWires) => T_i_copyWires d.1) e_i_copyWires
def P_i_Between : List (Bool × List Sh) := [(false, [.sl 67 h_2]), (true, [.int .i64, .int .i64]), (true, [.int .i64, .int .i64])]
def O_i_Between (r : ((List YWire) × Unit)) : List RV × List RV := ([rv (false, [.sl 67 h_2]) r], [])
def C_i_Between : Fns := [(22, .plain, F_i_copyWires)]
def F_i_Between : Fun1 := funV P_i_Between (fun d => (T_i_Between d.1 d.2.1 d.2.2.1).val) O_i_Between
def K_i_Between_3 : Sk := ⟨[(4, .box 4 0), (5, .box 5 0), (7, .v false [(.sl 67 h_2, (.own 4000000))]), (12, .v false [(.sl 67 h_2, (.own 4000001))]), (13, .v false [(.int .i64, .nil)]), (14, .v false [(.int .i64, .nil)])], [(4, [(.int .i64, .nil), (.int .i64, .nil)]), (5, [(.int .i64, .nil), (.int .i64, .nil)])], [4000000, 4000001]⟩
def X_i_Between_3 : List (Ex × Sk) := [((.exit 0), ⟨[(7, .v false [(.sl 67 h_2, (.own 4000000))])], [], [4000000]⟩)]
def Q_i_Between : Loops := fun i st => cond (Nat.beq i 3) (lam K_i_Between_3 4000000 X_i_Between_3 B_i_Between_3 st) <| .fail
theorem lp_i_Between_3 : ∀ d, bod2 ⟨lookT tys, ctrOf C_i_Between, kindOf C_i_Between, 3, 4⟩ 0 Try.f9.ntmps Q_i_Between (nthLoop Try.f9 0) K_i_Between_3 4000000 X_i_Between_3 12 14 4500000 d = B_i_Between_3 d := fun d => by kernel_rfl
theorem lo_i_Between_3 (cx : Cx) (hp : cx.pin.length ≤ 0) : LoopOk Try.prog cx Try.f9.ntmps Q_i_Between (nthLoop Try.f9 0) := loop_of2 (cfgOk_of mixed tys_ok (show FnsOk Try.prog C_i_Between from ⟨fn_i_copyWires, trivial⟩)) hp (all_of (by kernel_rfl : loopsOf (nthLoop Try.f9 0) = []) trivial) 12 14 4500000 (by kernel_rfl) (by kernel_rfl) lp_i_Between_3
theorem e_i_Between : ∀ d, pcall ⟨lookT tys, ctrOf C_i_Between, kindOf C_i_Between, 3, 4⟩ 0 Q_i_Between Try.f9 .plain (mkA P_i_Between d) = (T_i_Between d.1 d.2.1 d.2.2.1).run fun r => some (O_i_Between r) := fun d => by kernel_rfl
theorem fn_i_Between : Fn Try.prog 9 .plain F_i_Between := fn_of (cfgOk_of mixed tys_ok (show FnsOk Try.prog C_i_Between from ⟨fn_i_copyWires, trivial⟩)) Try.func9 (by kernel_rfl) (by kernel_rfl) (fun cx b hp hb => all_of (by kernel_rfl : loopsOf (Try.f9.body.getD .skip) = [nthLoop Try.f9 0]) ⟨lo_i_Between_3 cx hp, trivial⟩ b hb) (R := ((List YWire) × Unit)) (T := fun (d : aden P_i_Between) => T_i_Between d.1 d.2.1 d.2.2.1) e_i_Between
def P_l_eqAddr : List (Bool × List Sh) := [(true, [.int .i64, .int .i64]), (true, [.int .i64, .int .i64])]
def O_l_eqAddr (r : (Bool × Unit)) : List RV × List RV := ([rv (false, [.bool]) r], [])
def C_l_eqAddr : Fns := []
def F_l_eqAddr : Fun1 := funV P_l_eqAddr (fun d => (T_l_eqAddr d.1 d.2.1).val) O_l_eqAddr
def Q_l_eqAddr : Loops := fun _ _ => .fail
theorem e_l_eqAddr : ∀ d, pcall ⟨lookT tys, ctrOf C_l_eqAddr, kindOf C_l_eqAddr, 3, 4⟩ 0 Q_l_eqAddr Try.f52 .plain (mkA P_l_eqAddr d) = (T_l_eqAddr d.1 d.2.1).run fun r => some (O_l_eqAddr r) := fun d => by kernel_rfl
theorem fn_l_eqAddr : Fn Try.prog 52 .plain F_l_eqAddr := fn_of (cfgOk_of mixed tys_ok (show FnsOk Try.prog C_l_eqAddr from trivial)) Try.func52 (by kernel_rfl) (by kernel_rfl) (fun cx b hp hb => all_of (by kernel_rfl : loopsOf (Try.f52.body.getD .skip) = []) trivial b hb) (R := (Bool × Unit)) (T := fun (d : aden P_l_eqAddr) => T_l_eqAddr d.1 d.2.1) e_l_eqAddr
def P_l_eqByteS : List (Bool × List Sh) := [(false, [.sl 5 [.int .u8]]), (false, [.sl 5 [.int .u8]])]
def O_l_eqByteS (r : (Bool × Unit)) : List RV × List RV := ([rv (false, [.bool]) r], [])
def C_l_eqByteS : Fns := []
def F_l_eqByteS : Fun1 := funV P_l_eqByteS (fun d => (T_l_eqByteS d.1 d.2.1).val) O_l_eqByteS
def K_l_eqByteS_4 : Sk := ⟨[(0, .v false [(.sl 5 [.int .u8], .ro)]), (1, .v false [(.sl 5 [.int .u8], .ro)]), (5, .v false [(.int .i64, .nil)])], [], []⟩
def X_l_eqByteS_4 : List (Ex × Sk) := [(.ret, ⟨[(4, .v false [(.bool, .nil)])], [], []⟩), ((.exit 0), ⟨[], [], []⟩)]
def Q_l_eqByteS : Loops := fun i st => cond (Nat.beq i 4) (lam K_l_eqByteS_4 5000000 X_l_eqByteS_4 B_l_eqByteS_4 st) <| .fail
theorem lp_l_eqByteS_4 : ∀ d, bod ⟨lookT tys, ctrOf C_l_eqByteS, kindOf C_l_eqByteS, 3, 4⟩ 0 Try.f44.ntmps Q_l_eqByteS (nthLoop Try.f44 0) K_l_eqByteS_4 5000000 X_l_eqByteS_4 d = B_l_eqByteS_4 d := fun d => by kernel_rfl
theorem lo_l_eqByteS_4 (cx : Cx) (hp : cx.pin.length ≤ 0) : LoopOk Try.prog cx Try.f44.ntmps Q_l_eqByteS (nthLoop Try.f44 0) := loop_of (cfgOk_of mixed tys_ok (show FnsOk Try.prog C_l_eqByteS from trivial)) hp (all_of (by kernel_rfl : loopsOf (nthLoop Try.f44 0) = []) trivial) (by kernel_rfl) lp_l_eqByteS_4
theorem e_l_eqByteS : ∀ d, pcall ⟨lookT tys, ctrOf C_l_eqByteS, kindOf C_l_eqByteS, 3, 4⟩ 0 Q_l_eqByteS Try.f44 .plain (mkA P_l_eqByteS d) = (T_l_eqByteS d.1 d.2.1).run fun r => some (O_l_eqByteS r) := fun d => by kernel_rfl
theorem fn_l_eqByteS : Fn Try.prog 44 .plain F_l_eqByteS := fn_of (cfgOk_of mixed tys_ok (show FnsOk Try.prog C_l_eqByteS from trivial)) Try.func44 (by kernel_rfl) (by kernel_rfl) (fun cx b hp hb => all_of (by kernel_rfl : loopsOf (Try.f44.body.getD .skip) = [nthLoop Try.f44 0]) ⟨lo_l_eqByteS_4 cx hp, trivial⟩ b hb) (R := (Bool × Unit)) (T := fun (d : aden P_l_eqByteS) => T_l_eqByteS d.1 d.2.1) e_l_eqByteS
def P_l_eqWire : List (Bool × List Sh) := [(true, h_2), (true, h_2)]
def O_l_eqWire (r : (Bool × Unit)) : List RV × List RV := ([rv (false, [.bool]) r], [])
def C_l_eqWire : Fns := [(52, .plain, F_l_eqAddr), (44, .plain, F_l_eqByteS)]
def F_l_eqWire : Fun1 := funV P_l_eqWire (fun d => (T_l_eqWire d.1 d.2.1).val) O_l_eqWire
def Q_l_eqWire : Loops := fun _ _ => .fail
theorem e_l_eqWire : ∀ d, pcall ⟨lookT tys, ctrOf C_l_eqWire, kindOf C_l_eqWire, 3, 4⟩ 0 Q_l_eqWire Try.f23 .plain (mkA P_l_eqWire d) = (T_l_eqWire d.1 d.2.1).run fun r => some (O_l_eqWire r) := fun d => by kernel_rfl
theorem fn_l_eqWire : Fn Try.prog 23 .plain F_l_eqWire := fn_of (cfgOk_of mixed tys_ok (show FnsOk Try.prog C_l_eqWire from ⟨fn_l_eqAddr, fn_l_eqByteS, trivial⟩)) Try.func23 (by kernel_rfl) (by kernel_rfl) (fun cx b hp hb => all_of (by kernel_rfl : loopsOf (Try.f23.body.getD .skip) = []) trivial b hb) (R := (Bool × Unit)) (T := fun (d : aden P_l_eqWire) => T_l_eqWire d.1 d.2.1) e_l_eqWire
def P_l_eqWireS : List (Bool × List Sh) := [(false, [.sl 67 h_2]), (false, [.sl 67 h_2])]
def O_l_eqWireS (r : (Bool × Unit)) : List RV × List RV := ([rv (false, [.bool]) r], [])
def C_l_eqWireS : Fns := [(23, .plain, F_l_eqWire)]
def F_l_eqWireS : Fun1 := funV P_l_eqWireS (fun d => (T_l_eqWireS d.1 d.2.1).val) O_l_eqWireS
def K_l_eqWireS_4 : Sk := ⟨[(0, .v false [(.sl 67 h_2, .ro)]), (1, .v false [(.sl 67 h_2, .ro)]), (5, .v false [(.int .i64, .nil)])], [], []⟩
def X_l_eqWireS_4 : List (Ex × Sk) := [(.ret, ⟨[(4, .v false [(.bool, .nil)])], [], []⟩), ((.exit 0), ⟨[], [], []⟩)]
def Q_l_eqWireS : Loops := fun i st => cond (Nat.beq i 4) (lam K_l_eqWireS_4 5000000 X_l_eqWireS_4 B_l_eqWireS_4 st) <| .fail
theorem lp_l_eqWireS_4 : ∀ d, bod ⟨lookT tys, ctrOf C_l_eqWireS, kindOf C_l_eqWireS, 3, 4⟩ 0 Try.f10.ntmps Q_l_eqWireS (nthLoop Try.f10 0) K_l_eqWireS_4 5000000 X_l_eqWireS_4 d = B_l_eqWireS_4 d := fun d => by kernel_rfl
theorem lo_l_eqWireS_4 (cx : Cx) (hp : cx.pin.length ≤ 0) : LoopOk Try.prog cx Try.f10.ntmps Q_l_eqWireS (nthLoop Try.f10 0) := loop_of (cfgOk_of mixed tys_ok (show FnsOk Try.prog C_l_eqWireS from ⟨fn_l_eqWire, trivial⟩)) hp (all_of (by kernel_rfl : loopsOf (nthLoop Try.f10 0) = []) trivial) (by kernel_rfl) lp_l_eqWireS_4
theorem e_l_eqWireS : ∀ d, pcall ⟨lookT tys, ctrOf C_l_eqWireS, kindOf C_l_eqWireS, 3, 4⟩ 0 Q_l_eqWireS Try.f10 .plain (mkA P_l_eqWireS d) = (T_l_eqWireS d.1 d.2.1).run fun r => some (O_l_eqWireS r) := fun d => by kernel_rfl
theorem fn_l_eqWireS : Fn Try.prog 10 .plain F_l_eqWireS := fn_of (cfgOk_of mixed tys_ok (show FnsOk Try.prog C_l_eqWireS from ⟨fn_l_eqWire, trivial⟩)) Try.func10 (by kernel_rfl) (by kernel_rfl) (fun cx b hp hb => all_of (by kernel_rfl : loopsOf (Try.f10.body.getD .skip) = [nthLoop Try.f10 0]) ⟨lo_l_eqWireS_4 cx hp, trivial⟩ b hb) (R := (Bool × Unit)) (T := fun (d : aden P_l_eqWireS) => T_l_eqWireS d.1 d.2.1) e_l_eqWireS
def P_l_markByteS : List (Bool × List Sh) := [(false, [.sl 5 [.int .u8]]), (false, [.int .i64])]
def O_l_markByteS (r : (YI) × (YBs)) : List RV × List RV := ([rv (false, [.int .i64]) r.1], [rv (false, [.sl 5 [.int .u8]]) r.2])
def C_l_markByteS : Fns := []
def F_l_markByteS : Fun1 := funV P_l_markByteS (fun d => (T_l_markByteS d.1 d.2.1).val) O_l_markByteS
def K_l_markByteS_2 : Sk := ⟨[(0, .v false [(.sl 5 [.int .u8], (.own 3000000))]), (1, .v false [(.int .i64, .nil)]), (5, .v false [(.int .i64, .nil)])], [], [3000000]⟩
def X_l_markByteS_2 : List (Ex × Sk) := [((.exit 0), ⟨[(0, .v false [(.sl 5 [.int .u8], (.own 3000000))]), (1, .v false [(.int .i64, .nil)])], [], [3000000]⟩)]
def Q_l_markByteS : Loops := fun i st => cond (Nat.beq i 2) (lam K_l_markByteS_2 3000000 X_l_markByteS_2 B_l_markByteS_2 st) <| .fail
theorem lp_l_markByteS_2 : ∀ d, bod ⟨lookT tys, ctrOf C_l_markByteS, kindOf C_l_markByteS, 3, 4⟩ 1 Try.f24.ntmps Q_l_markByteS (nthLoop Try.f24 0) K_l_markByteS_2 3000000 X_l_markByteS_2 d = B_l_markByteS_2 d := fun d => by kernel_rfl
theorem lo_l_markByteS_2 (cx : Cx) (hp : cx.pin.length ≤ 1) : LoopOk Try.prog cx Try.f24.ntmps Q_l_markByteS (nthLoop Try.f24 0) := loop_of (cfgOk_of mixed tys_ok (show FnsOk Try.prog C_l_markByteS from trivial)) hp (all_of (by kernel_rfl : loopsOf (nthLoop Try.f24 0) = []) trivial) (by kernel_rfl) lp_l_markByteS_2
theorem e_l_markByteS : ∀ d, pcall ⟨lookT tys, ctrOf C_l_markByteS, kindOf C_l_markByteS, 3, 4⟩ 1 Q_l_markByteS Try.f24 (.lend [1]) (mkA P_l_markByteS d) = (T_l_markByteS d.1 d.2.1).run fun r => some (O_l_markByteS r) := fun d => by kernel_rfl
theorem fn_l_markByteS : Fn Try.prog 24 (.lend [1]) F_l_markByteS := fn_of (cfgOk_of mixed tys_ok (show FnsOk Try.prog C_l_markByteS from trivial)) Try.func24 (by kernel_rfl) (by kernel_rfl) (fun cx b hp hb => all_of (by kernel_rfl : loopsOf (Try.f24.body.getD .skip) = [nthLoop Try.f24 0]) ⟨lo_l_markByteS_2 cx hp, trivial⟩ b hb) (R := (YI) × (YBs)) (T := fun (d : aden P_l_markByteS) => T_l_markByteS d.1 d.2.1) e_l_markByteS
def P_l_markWireS : List (Bool × List Sh) := [(false, [.sl 67 h_2]), (false, [.int .i64])]
def O_l_markWireS (r : (YI) × ((List YWire) × Unit)) : List RV × List RV := ([rv (false, [.int .i64]) r.1], [rv (false, [.sl 67 h_2]) r.2])
def C_l_markWireS : Fns := [(24, (.lend [1]), F_l_markByteS)]
def F_l_markWireS : Fun1 := funV P_l_markWireS (fun d => (T_l_markWireS d.1 d.2.1).val) O_l_markWireS
def K_l_markWireS_2 : Sk := ⟨[(0, .v false [(.sl 67 h_2, (.own 3000000))]), (1, .v false [(.int .i64, .nil)]), (5, .v false [(.int .i64, .nil)])], [], [3000000]⟩
def X_l_markWireS_2 : List (Ex × Sk) := [((.exit 0), ⟨[(0, .v false [(.sl 67 h_2, (.own 3000000))]), (1, .v false [(.int .i64, .nil)])], [], [3000000]⟩)]
def Q_l_markWireS : Loops := fun i st => cond (Nat.beq i 2) (lam K_l_markWireS_2 3000000 X_l_markWireS_2 B_l_markWireS_2 st) <| .fail
theorem lp_l_markWireS_2 : ∀ d, bod ⟨lookT tys, ctrOf C_l_markWireS, kindOf C_l_markWireS, 3, 4⟩ 1 Try.f11.ntmps Q_l_markWireS (nthLoop Try.f11 0) K_l_markWireS_2 3000000 X_l_markWireS_2 d = B_l_markWireS_2 d := fun d => by kernel_rfl
theorem lo_l_markWireS_2 (cx : Cx) (hp : cx.pin.length ≤ 1) : LoopOk Try.prog cx Try.f11.ntmps Q_l_markWireS (nthLoop Try.f11 0) := loop_of (cfgOk_of mixed tys_ok (show FnsOk Try.prog C_l_markWireS from ⟨fn_l_markByteS, trivial⟩)) hp (all_of (by kernel_rfl : loopsOf (nthLoop Try.f11 0) = []) trivial) (by kernel_rfl) lp_l_markWireS_2
theorem e_l_markWireS : ∀ d, pcall ⟨lookT tys, ctrOf C_l_markWireS, kindOf C_l_markWireS, 3, 4⟩ 1 Q_l_markWireS Try.f11 (.lend [1]) (mkA P_l_markWireS d) = (T_l_markWireS d.1 d.2.1).run fun r => some (O_l_markWireS r) := fun d => by kernel_rfl
theorem fn_l_markWireS : Fn Try.prog 11 (.lend [1]) F_l_markWireS := fn_of (cfgOk_of mixed tys_ok (show FnsOk Try.prog C_l_markWireS from ⟨fn_l_markByteS, trivial⟩)) Try.func11 (by kernel_rfl) (by kernel_rfl) (fun cx b hp hb => all_of (by kernel_rfl : loopsOf (Try.f11.body.getD .skip) = [nthLoop Try.f11 0]) ⟨lo_l_markWireS_2 cx hp, trivial⟩ b hb) (R := (YI) × ((List YWire) × Unit)) (T := fun (d : aden P_l_markWireS) => T_l_markWireS d.1 d.2.1) e_l_markWireS
def P_l_heldByteS : List (Bool × List Sh) := [(false, [.sl 5 [.int .u8]]), (false, [.int .i64])]
def O_l_heldByteS (r : (YI)) : List RV × List RV := ([rv (false, [.int .i64]) r], [])
def C_l_heldByteS : Fns := []
def F_l_heldByteS : Fun1 := funV P_l_heldByteS (fun d => (T_l_heldByteS d.1 d.2.1).val) O_l_heldByteS
def K_l_heldByteS_2 : Sk := ⟨[(0, .v false [(.sl 5 [.int .u8], .ro)]), (1, .v false [(.int .i64, .nil)]), (5, .v false [(.int .i64, .nil)])], [], []⟩
def X_l_heldByteS_2 : List (Ex × Sk) := [(.ret, ⟨[(4, .v false [(.int .i64, .nil)])], [], []⟩), ((.exit 0), ⟨[(1, .v false [(.int .i64, .nil)])], [], []⟩)]
def Q_l_heldByteS : Loops := fun i st => cond (Nat.beq i 2) (lam K_l_heldByteS_2 3000000 X_l_heldByteS_2 B_l_heldByteS_2 st) <| .fail
theorem lp_l_heldByteS_2 : ∀ d, bod ⟨lookT tys, ctrOf C_l_heldByteS, kindOf C_l_heldByteS, 3, 4⟩ 0 Try.f25.ntmps Q_l_heldByteS (nthLoop Try.f25 0) K_l_heldByteS_2 3000000 X_l_heldByteS_2 d = B_l_heldByteS_2 d := fun d => by kernel_rfl
theorem lo_l_heldByteS_2 (cx : Cx) (hp : cx.pin.length ≤ 0) : LoopOk Try.prog cx Try.f25.ntmps Q_l_heldByteS (nthLoop Try.f25 0) := loop_of (cfgOk_of mixed tys_ok (show FnsOk Try.prog C_l_heldByteS from trivial)) hp (all_of (by kernel_rfl : loopsOf (nthLoop Try.f25 0) = []) trivial) (by kernel_rfl) lp_l_heldByteS_2
theorem e_l_heldByteS : ∀ d, pcall ⟨lookT tys, ctrOf C_l_heldByteS, kindOf C_l_heldByteS, 3, 4⟩ 0 Q_l_heldByteS Try.f25 .plain (mkA P_l_heldByteS d) = (T_l_heldByteS d.1 d.2.1).run fun r => some (O_l_heldByteS r) := fun d => by kernel_rfl
theorem fn_l_heldByteS : Fn Try.prog 25 .plain F_l_heldByteS := fn_of (cfgOk_of mixed tys_ok (show FnsOk Try.prog C_l_heldByteS from trivial)) Try.func25 (by kernel_rfl) (by kernel_rfl) (fun cx b hp hb => all_of (by kernel_rfl : loopsOf (Try.f25.body.getD .skip) = [nthLoop Try.f25 0]) ⟨lo_l_heldByteS_2 cx hp, trivial⟩ b hb) (R := (YI)) (T := fun (d : aden P_l_heldByteS) => T_l_heldByteS d.1 d.2.1) e_l_heldByteS
def P_l_heldWireS : List (Bool × List Sh) := [(false, [.sl 67 h_2]), (false, [.int .i64])]
def O_l_heldWireS (r : (YI)) : List RV × List RV := ([rv (false, [.int .i64]) r], [])
def C_l_heldWireS : Fns := [(25, .plain, F_l_heldByteS)]
def F_l_heldWireS : Fun1 := funV P_l_heldWireS (fun d => (T_l_heldWireS d.1 d.2.1).val) O_l_heldWireS
def K_l_heldWireS_2 : Sk := ⟨[(0, .v false [(.sl 67 h_2, .ro)]), (1, .v false [(.int .i64, .nil)]), (5, .v false [(.int .i64, .nil)])], [], []⟩
def X_l_heldWireS_2 : List (Ex × Sk) := [(.ret, ⟨[(4, .v false [(.int .i64, .nil)])], [], []⟩), ((.exit 0), ⟨[(1, .v false [(.int .i64, .nil)])], [], []⟩)]
def Q_l_heldWireS : Loops := fun i st => cond (Nat.beq i 2) (lam K_l_heldWireS_2 3000000 X_l_heldWireS_2 B_l_heldWireS_2 st) <| .fail
theorem lp_l_heldWireS_2 : ∀ d, bod ⟨lookT tys, ctrOf C_l_heldWireS, kindOf C_l_heldWireS, 3, 4⟩ 0 Try.f12.ntmps Q_l_heldWireS (nthLoop Try.f12 0) K_l_heldWireS_2 3000000 X_l_heldWireS_2 d = B_l_heldWireS_2 d := fun d => by kernel_rfl
theorem lo_l_heldWireS_2 (cx : Cx) (hp : cx.pin.length ≤ 0) : LoopOk Try.prog cx Try.f12.ntmps Q_l_heldWireS (nthLoop Try.f12 0) := loop_of (cfgOk_of mixed tys_ok (show FnsOk Try.prog C_l_heldWireS from ⟨fn_l_heldByteS, trivial⟩)) hp (all_of (by kernel_rfl : loopsOf (nthLoop Try.f12 0) = []) trivial) (by kernel_rfl) lp_l_heldWireS_2
theorem e_l_heldWireS : ∀ d, pcall ⟨lookT tys, ctrOf C_l_heldWireS, kindOf C_l_heldWireS, 3, 4⟩ 0 Q_l_heldWireS Try.f12 .plain (mkA P_l_heldWireS d) = (T_l_heldWireS d.1 d.2.1).run fun r => some (O_l_heldWireS r) := fun d => by kernel_rfl
theorem fn_l_heldWireS : Fn Try.prog 12 .plain F_l_heldWireS := fn_of (cfgOk_of mixed tys_ok (show FnsOk Try.prog C_l_heldWireS from ⟨fn_l_heldByteS, trivial⟩)) Try.func12 (by kernel_rfl) (by kernel_rfl) (fun cx b hp hb => all_of (by kernel_rfl : loopsOf (Try.f12.body.getD .skip) = [nthLoop Try.f12 0]) ⟨lo_l_heldWireS_2 cx hp, trivial⟩ b hb) (R := (YI)) (T := fun (d : aden P_l_heldWireS) => T_l_heldWireS d.1 d.2.1) e_l_heldWireS
def P_l_FnExactBetween : List (Bool × List Sh) := [(false, [.sl 65 h_2]), (true, [.int .i64, .int .i64]), (true, [.int .i64, .int .i64])]
def O_l_FnExactBetween (r : (Bool × Unit)) : List RV × List RV := ([rv (false, [.bool]) r], [])
def C_l_FnExactBetween : Fns := [(5, .plain, F_l_szWireS), (7, .plain, F_l_toWireS), (8, .plain, F_l_toAddr), (6, .plain, F_s_Between), (9, .plain, F_i_Between), (10, .plain, F_l_eqWireS), (11, (.lend [1]), F_l_markWireS), (12, .plain, F_l_heldWireS)]
def F_l_FnExactBetween : Fun1 := funV P_l_FnExactBetween (fun d => (T_l_FnExactBetween d.1 d.2.1 d.2.2.1).val) O_l_FnExactBetween
def Q_l_FnExactBetween : Loops := fun _ _ => .fail
theorem e_l_FnExactBetween : ∀ d, pcall ⟨lookT tys, ctrOf C_l_FnExactBetween, kindOf C_l_FnExactBetween, 3, 4⟩ 0 Q_l_FnExactBetween Try.f3 .plain (mkA P_l_FnExactBetween d) = (T_l_FnExactBetween d.1 d.2.1 d.2.2.1).run fun r => some (O_l_FnExactBetween r) := fun d => by kernel_rfl
theorem fn_l_FnExactBetween : Fn Try.prog 3 .plain F_l_FnExactBetween := fn_of (cfgOk_of mixed tys_ok (show FnsOk Try.prog C_l_FnExactBetween from ⟨fn_l_szWireS, fn_l_toWireS, fn_l_toAddr, fn_s_Between, fn_i_Between, fn_l_eqWireS, fn_l_markWireS, fn_l_heldWireS, trivial⟩)) Try.func3 (by kernel_rfl) (by kernel_rfl) (fun cx b hp hb => all_of (by kernel_rfl : loopsOf (Try.f3.body.getD .skip) = []) trivial b hb) (R := (Bool × Unit)) (T := fun (d : aden P_l_FnExactBetween) => T_l_FnExactBetween d.1 d.2.1 d.2.2.1) e_l_FnExactBetween
def P_l_szIntS : List (Bool × List Sh) := [(false, [.sl 3 [.int .i64]]), (false, [.int .i64])]
def O_l_szIntS (r : (YI)) : List RV × List RV := ([rv (false, [.int .i64]) r], [])
def C_l_szIntS : Fns := []
def F_l_szIntS : Fun1 := funV P_l_szIntS (fun d => (T_l_szIntS d.1 d.2.1).val) O_l_szIntS
def Q_l_szIntS : Loops := fun _ _ => .fail
theorem e_l_szIntS : ∀ d, pcall ⟨lookT tys, ctrOf C_l_szIntS, kindOf C_l_szIntS, 3, 4⟩ 0 Q_l_szIntS Try.f98 .plain (mkA P_l_szIntS d) = (T_l_szIntS d.1 d.2.1).run fun r => some (O_l_szIntS r) := fun d => by kernel_rfl
theorem fn_l_szIntS : Fn Try.prog 98 .plain F_l_szIntS := fn_of (cfgOk_of mixed tys_ok (show FnsOk Try.prog C_l_szIntS from trivial)) Try.func98 (by kernel_rfl) (by kernel_rfl) (fun cx b hp hb => all_of (by kernel_rfl : loopsOf (Try.f98.body.getD .skip) = []) trivial b hb) (R := (YI)) (T := fun (d : aden P_l_szIntS) => T_l_szIntS d.1 d.2.1) e_l_szIntS
def P_l_szWin : List (Bool × List Sh) := [(true, [.int .i64, .sl 3 [.int .i64]]), (false, [.int .i64])]
def O_l_szWin (r : (YI)) : List RV × List RV := ([rv (false, [.int .i64]) r], [])
def C_l_szWin : Fns := [(98, .plain, F_l_szIntS)]
def F_l_szWin : Fun1 := funV P_l_szWin (fun d => (T_l_szWin d.1 d.2.1).val) O_l_szWin
def Q_l_szWin : Loops := fun _ _ => .fail
theorem e_l_szWin : ∀ d, pcall ⟨lookT tys, ctrOf C_l_szWin, kindOf C_l_szWin, 3, 4⟩ 0 Q_l_szWin Try.f79 .plain (mkA P_l_szWin d) = (T_l_szWin d.1 d.2.1).run fun r => some (O_l_szWin r) := fun d => by kernel_rfl
theorem fn_l_szWin : Fn Try.prog 79 .plain F_l_szWin := fn_of (cfgOk_of mixed tys_ok (show FnsOk Try.prog C_l_szWin from ⟨fn_l_szIntS, trivial⟩)) Try.func79 (by kernel_rfl) (by kernel_rfl) (fun cx b hp hb => all_of (by kernel_rfl : loopsOf (Try.f79.body.getD .skip) = []) trivial b hb) (R := (YI)) (T := fun (d : aden P_l_szWin) => T_l_szWin d.1 d.2.1) e_l_szWin
def P_l_szEp : List (Bool × List Sh) := [(true, h_3), (false, [.int .i64])]
def O_l_szEp (r : (YI)) : List RV × List RV := ([rv (false, [.int .i64]) r], [])
def C_l_szEp : Fns := [(26, .plain, F_l_szByteS), (79, .plain, F_l_szWin)]
def F_l_szEp : Fun1 := funV P_l_szEp (fun d => (T_l_szEp d.1 d.2.1).val) O_l_szEp
def Q_l_szEp : Loops := fun _ _ => .fail
theorem e_l_szEp : ∀ d, pcall ⟨lookT tys, ctrOf C_l_szEp, kindOf C_l_szEp, 3, 4⟩ 0 Q_l_szEp Try.f53 .plain (mkA P_l_szEp d) = (T_l_szEp d.1 d.2.1).run fun r => some (O_l_szEp r) := fun d => by kernel_rfl
theorem fn_l_szEp : Fn Try.prog 53 .plain F_l_szEp := fn_of (cfgOk_of mixed tys_ok (show FnsOk Try.prog C_l_szEp from ⟨fn_l_szByteS, fn_l_szWin, trivial⟩)) Try.func53 (by kernel_rfl) (by kernel_rfl) (fun cx b hp hb => all_of (by kernel_rfl : loopsOf (Try.f53.body.getD .skip) = []) trivial b hb) (R := (YI)) (T := fun (d : aden P_l_szEp) => T_l_szEp d.1 d.2.1) e_l_szEp
def P_l_szChan : List (Bool × List Sh) := [(true, h_6), (false, [.int .i64])]
def O_l_szChan (r : (YI)) : List RV × List RV := ([rv (false, [.int .i64]) r], [])
def C_l_szChan : Fns := [(26, .plain, F_l_szByteS), (53, .plain, F_l_szEp)]
def F_l_szChan : Fun1 := funV P_l_szChan (fun d => (T_l_szChan d.1 d.2.1).val) O_l_szChan
def Q_l_szChan : Loops := fun _ _ => .fail
theorem e_l_szChan : ∀ d, pcall ⟨lookT tys, ctrOf C_l_szChan, kindOf C_l_szChan, 3, 4⟩ 0 Q_l_szChan Try.f27 .plain (mkA P_l_szChan d) = (T_l_szChan d.1 d.2.1).run fun r => some (O_l_szChan r) := fun d => by kernel_rfl
theorem fn_l_szChan : Fn Try.prog 27 .plain F_l_szChan := fn_of (cfgOk_of mixed tys_ok (show FnsOk Try.prog C_l_szChan from ⟨fn_l_szByteS, fn_l_szEp, trivial⟩)) Try.func27 (by kernel_rfl) (by kernel_rfl) (fun cx b hp hb => all_of (by kernel_rfl : loopsOf (Try.f27.body.getD .skip) = []) trivial b hb) (R := (YI)) (T := fun (d : aden P_l_szChan) => T_l_szChan d.1 d.2.1) e_l_szChan
def P_l_szCand : List (Bool × List Sh) := [(true, h_1), (false, [.int .i64])]
def O_l_szCand (r : (YI)) : List RV × List RV := ([rv (false, [.int .i64]) r], [])
def C_l_szCand : Fns := [(26, .plain, F_l_szByteS)]
def F_l_szCand : Fun1 := funV P_l_szCand (fun d => (T_l_szCand d.1 d.2.1).val) O_l_szCand
def Q_l_szCand : Loops := fun _ _ => .fail
theorem e_l_szCand : ∀ d, pcall ⟨lookT tys, ctrOf C_l_szCand, kindOf C_l_szCand, 3, 4⟩ 0 Q_l_szCand Try.f80 .plain (mkA P_l_szCand d) = (T_l_szCand d.1 d.2.1).run fun r => some (O_l_szCand r) := fun d => by kernel_rfl
theorem fn_l_szCand : Fn Try.prog 80 .plain F_l_szCand := fn_of (cfgOk_of mixed tys_ok (show FnsOk Try.prog C_l_szCand from ⟨fn_l_szByteS, trivial⟩)) Try.func80 (by kernel_rfl) (by kernel_rfl) (fun cx b hp hb => all_of (by kernel_rfl : loopsOf (Try.f80.body.getD .skip) = []) trivial b hb) (R := (YI)) (T := fun (d : aden P_l_szCand) => T_l_szCand d.1 d.2.1) e_l_szCand
def P_l_szCandS : List (Bool × List Sh) := [(false, [.sl 108 h_1]), (false, [.int .i64])]
def O_l_szCandS (r : (YI)) : List RV × List RV := ([rv (false, [.int .i64]) r], [])
def C_l_szCandS : Fns := [(80, .plain, F_l_szCand)]
def F_l_szCandS : Fun1 := funV P_l_szCandS (fun d => (T_l_szCandS d.1 d.2.1).val) O_l_szCandS
def K_l_szCandS_5 : Sk := ⟨[(0, .v false [(.sl 108 h_1, .ro)]), (1, .v false [(.int .i64, .nil)]), (5, .v false [(.int .i64, .nil)])], [], []⟩
def X_l_szCandS_5 : List (Ex × Sk) := [(.ret, ⟨[(4, .v false [(.int .i64, .nil)])], [], []⟩), ((.exit 0), ⟨[(1, .v false [(.int .i64, .nil)])], [], []⟩)]
def Q_l_szCandS : Loops := fun i st => cond (Nat.beq i 5) (lam K_l_szCandS_5 6000000 X_l_szCandS_5 B_l_szCandS_5 st) <| .fail
theorem lp_l_szCandS_5 : ∀ d, bod ⟨lookT tys, ctrOf C_l_szCandS, kindOf C_l_szCandS, 3, 4⟩ 0 Try.f54.ntmps Q_l_szCandS (nthLoop Try.f54 0) K_l_szCandS_5 6000000 X_l_szCandS_5 d = B_l_szCandS_5 d := fun d => by kernel_rfl
theorem lo_l_szCandS_5 (cx : Cx) (hp : cx.pin.length ≤ 0) : LoopOk Try.prog cx Try.f54.ntmps Q_l_szCandS (nthLoop Try.f54 0) := loop_of (cfgOk_of mixed tys_ok (show FnsOk Try.prog C_l_szCandS from ⟨fn_l_szCand, trivial⟩)) hp (all_of (by kernel_rfl : loopsOf (nthLoop Try.f54 0) = []) trivial) (by kernel_rfl) lp_l_szCandS_5
theorem e_l_szCandS : ∀ d, pcall ⟨lookT tys, ctrOf C_l_szCandS, kindOf C_l_szCandS, 3, 4⟩ 0 Q_l_szCandS Try.f54 .plain (mkA P_l_szCandS d) = (T_l_szCandS d.1 d.2.1).run fun r => some (O_l_szCandS r) := fun d => by kernel_rfl
theorem fn_l_szCandS : Fn Try.prog 54 .plain F_l_szCandS := fn_of (cfgOk_of mixed tys_ok (show FnsOk Try.prog C_l_szCandS from ⟨fn_l_szCand, trivial⟩)) Try.func54 (by kernel_rfl) (by kernel_rfl) (fun cx b hp hb => all_of (by kernel_rfl : loopsOf (Try.f54.body.getD .skip) = [nthLoop Try.f54 0]) ⟨lo_l_szCandS_5 cx hp, trivial⟩ b hb) (R := (YI)) (T := fun (d : aden P_l_szCandS) => T_l_szCandS d.1 d.2.1) e_l_szCandS
def P_l_szPaths : List (Bool × List Sh) := [(true, h_5), (false, [.int .i64])]
def O_l_szPaths (r : (YI)) : List RV × List RV := ([rv (false, [.int .i64]) r], [])
def C_l_szPaths : Fns := [(54, .plain, F_l_szCandS)]
def F_l_szPaths : Fun1 := funV P_l_szPaths (fun d => (T_l_szPaths d.1 d.2.1).val) O_l_szPaths
def Q_l_szPaths : Loops := fun _ _ => .fail
theorem e_l_szPaths : ∀ d, pcall ⟨lookT tys, ctrOf C_l_szPaths, kindOf C_l_szPaths, 3, 4⟩ 0 Q_l_szPaths Try.f28 .plain (mkA P_l_szPaths d) = (T_l_szPaths d.1 d.2.1).run fun r => some (O_l_szPaths r) := fun d => by kernel_rfl
theorem fn_l_szPaths : Fn Try.prog 28 .plain F_l_szPaths := fn_of (cfgOk_of mixed tys_ok (show FnsOk Try.prog C_l_szPaths from ⟨fn_l_szCandS, trivial⟩)) Try.func28 (by kernel_rfl) (by kernel_rfl) (fun cx b hp hb => all_of (by kernel_rfl : loopsOf (Try.f28.body.getD .skip) = []) trivial b hb) (R := (YI)) (T := fun (d : aden P_l_szPaths) => T_l_szPaths d.1 d.2.1) e_l_szPaths
def P_l_szSess : List (Bool × List Sh) := [(true, h_8), (false, [.int .i64])]
def O_l_szSess (r : (YI)) : List RV × List RV := ([rv (false, [.int .i64]) r], [])
def C_l_szSess : Fns := [(26, .plain, F_l_szByteS), (27, .plain, F_l_szChan), (28, .plain, F_l_szPaths)]
def F_l_szSess : Fun1 := funV P_l_szSess (fun d => (T_l_szSess d.1 d.2.1).val) O_l_szSess
def Q_l_szSess : Loops := fun _ _ => .fail
theorem e_l_szSess : ∀ d, pcall ⟨lookT tys, ctrOf C_l_szSess, kindOf C_l_szSess, 3, 4⟩ 0 Q_l_szSess Try.f13 .plain (mkA P_l_szSess d) = (T_l_szSess d.1 d.2.1).run fun r => some (O_l_szSess r) := fun d => by kernel_rfl
theorem fn_l_szSess : Fn Try.prog 13 .plain F_l_szSess := fn_of (cfgOk_of mixed tys_ok (show FnsOk Try.prog C_l_szSess from ⟨fn_l_szByteS, fn_l_szChan, fn_l_szPaths, trivial⟩)) Try.func13 (by kernel_rfl) (by kernel_rfl) (fun cx b hp hb => all_of (by kernel_rfl : loopsOf (Try.f13.body.getD .skip) = []) trivial b hb) (R := (YI)) (T := fun (d : aden P_l_szSess) => T_l_szSess d.1 d.2.1) e_l_szSess
def P_l_toIntS : List (Bool × List Sh) := [(false, [.sl 3 [.int .i64]])]
def O_l_toIntS (r : ((List YI) × Unit)) : List RV × List RV := ([rv (false, [.sl 3 [.int .i64]]) r], [])
def C_l_toIntS : Fns := []
def F_l_toIntS : Fun1 := funV P_l_toIntS (fun d => (T_l_toIntS d.1).val) O_l_toIntS
def K_l_toIntS_3 : Sk := ⟨[(0, .v false [(.sl 3 [.int .i64], .ro)]), (3, .v false [(.sl 3 [.int .i64], (.own 4000000))]), (4, .v false [(.int .i64, .nil)])], [], [4000000]⟩
def X_l_toIntS_3 : List (Ex × Sk) := [((.exit 0), ⟨[(3, .v false [(.sl 3 [.int .i64], (.own 4000000))])], [], [4000000]⟩)]
def Q_l_toIntS : Loops := fun i st => cond (Nat.beq i 3) (lam K_l_toIntS_3 4000000 X_l_toIntS_3 B_l_toIntS_3 st) <| .fail
theorem lp_l_toIntS_3 : ∀ d, bod ⟨lookT tys, ctrOf C_l_toIntS, kindOf C_l_toIntS, 3, 4⟩ 0 Try.f101.ntmps Q_l_toIntS (nthLoop Try.f101 0) K_l_toIntS_3 4000000 X_l_toIntS_3 d = B_l_toIntS_3 d := fun d => by kernel_rfl
theorem lo_l_toIntS_3 (cx : Cx) (hp : cx.pin.length ≤ 0) : LoopOk Try.prog cx Try.f101.ntmps Q_l_toIntS (nthLoop Try.f101 0) := loop_of (cfgOk_of mixed tys_ok (show FnsOk Try.prog C_l_toIntS from trivial)) hp (all_of (by kernel_rfl : loopsOf (nthLoop Try.f101 0) = []) trivial) (by kernel_rfl) lp_l_toIntS_3
theorem e_l_toIntS : ∀ d, pcall ⟨lookT tys, ctrOf C_l_toIntS, kindOf C_l_toIntS, 3, 4⟩ 0 Q_l_toIntS Try.f101 .plain (mkA P_l_toIntS d) = (T_l_toIntS d.1).run fun r => some (O_l_toIntS r) := fun d => by kernel_rfl
theorem fn_l_toIntS : Fn Try.prog 101 .plain F_l_toIntS := fn_of (cfgOk_of mixed tys_ok (show FnsOk Try.prog C_l_toIntS from trivial)) Try.func101 (by kernel_rfl) (by kernel_rfl) (fun cx b hp hb => all_of (by kernel_rfl : loopsOf (Try.f101.body.getD .skip) = [nthLoop Try.f101 0]) ⟨lo_l_toIntS_3 cx hp, trivial⟩ b hb) (R := ((List YI) × Unit)) (T := fun (d : aden P_l_toIntS) => T_l_toIntS d.1) e_l_toIntS
def P_l_toWin : List (Bool × List Sh) := [(true, [.int .i64, .sl 3 [.int .i64]])]
def O_l_toWin (r : (YWin)) : List RV × List RV := ([rv (true, [.int .i64, .sl 3 [.int .i64]]) r], [])
def C_l_toWin : Fns := [(101, .plain, F_l_toIntS)]
def F_l_toWin : Fun1 := funV P_l_toWin (fun d => (T_l_toWin d.1).val) O_l_toWin
def Q_l_toWin : Loops := fun _ _ => .fail
theorem e_l_toWin : ∀ d, pcall ⟨lookT tys, ctrOf C_l_toWin, kindOf C_l_toWin, 3, 4⟩ 0 Q_l_toWin Try.f86 .plain (mkA P_l_toWin d) = (T_l_toWin d.1).run fun r => some (O_l_toWin r) := fun d => by kernel_rfl
theorem fn_l_toWin : Fn Try.prog 86 .plain F_l_toWin := fn_of (cfgOk_of mixed tys_ok (show FnsOk Try.prog C_l_toWin from ⟨fn_l_toIntS, trivial⟩)) Try.func86 (by kernel_rfl) (by kernel_rfl) (fun cx b hp hb => all_of (by kernel_rfl : loopsOf (Try.f86.body.getD .skip) = []) trivial b hb) (R := (YWin)) (T := fun (d : aden P_l_toWin) => T_l_toWin d.1) e_l_toWin
def P_l_toEp : List (Bool × List Sh) := [(true, h_3)]
def O_l_toEp (r : (YEp)) : List RV × List RV := ([rv (true, h_3) r], [])
def C_l_toEp : Fns := [(35, .plain, F_l_toByteS), (86, .plain, F_l_toWin)]
def F_l_toEp : Fun1 := funV P_l_toEp (fun d => (T_l_toEp d.1).val) O_l_toEp
def Q_l_toEp : Loops := fun _ _ => .fail
theorem e_l_toEp : ∀ d, pcall ⟨lookT tys, ctrOf C_l_toEp, kindOf C_l_toEp, 3, 4⟩ 0 Q_l_toEp Try.f63 .plain (mkA P_l_toEp d) = (T_l_toEp d.1).run fun r => some (O_l_toEp r) := fun d => by kernel_rfl
theorem fn_l_toEp : Fn Try.prog 63 .plain F_l_toEp := fn_of (cfgOk_of mixed tys_ok (show FnsOk Try.prog C_l_toEp from ⟨fn_l_toByteS, fn_l_toWin, trivial⟩)) Try.func63 (by kernel_rfl) (by kernel_rfl) (fun cx b hp hb => all_of (by kernel_rfl : loopsOf (Try.f63.body.getD .skip) = []) trivial b hb) (R := (YEp)) (T := fun (d : aden P_l_toEp) => T_l_toEp d.1) e_l_toEp
def P_l_toChan : List (Bool × List Sh) := [(true, h_6)]
def O_l_toChan (r : (YChan)) : List RV × List RV := ([rv (true, h_6) r], [])
def C_l_toChan : Fns := [(35, .plain, F_l_toByteS), (63, .plain, F_l_toEp)]
def F_l_toChan : Fun1 := funV P_l_toChan (fun d => (T_l_toChan d.1).val) O_l_toChan
def Q_l_toChan : Loops := fun _ _ => .fail
theorem e_l_toChan : ∀ d, pcall ⟨lookT tys, ctrOf C_l_toChan, kindOf C_l_toChan, 3, 4⟩ 0 Q_l_toChan Try.f36 .plain (mkA P_l_toChan d) = (T_l_toChan d.1).run fun r => some (O_l_toChan r) := fun d => by kernel_rfl
theorem fn_l_toChan : Fn Try.prog 36 .plain F_l_toChan := fn_of (cfgOk_of mixed tys_ok (show FnsOk Try.prog C_l_toChan from ⟨fn_l_toByteS, fn_l_toEp, trivial⟩)) Try.func36 (by kernel_rfl) (by kernel_rfl) (fun cx b hp hb => all_of (by kernel_rfl : loopsOf (Try.f36.body.getD .skip) = []) trivial b hb) (R := (YChan)) (T := fun (d : aden P_l_toChan) => T_l_toChan d.1) e_l_toChan
def P_l_toCand : List (Bool × List Sh) := [(true, h_1)]
def O_l_toCand (r : (YCand)) : List RV × List RV := ([rv (true, h_1) r], [])
def C_l_toCand : Fns := [(8, .plain, F_l_toAddr), (35, .plain, F_l_toByteS)]
def F_l_toCand : Fun1 := funV P_l_toCand (fun d => (T_l_toCand d.1).val) O_l_toCand
def Q_l_toCand : Loops := fun _ _ => .fail
theorem e_l_toCand : ∀ d, pcall ⟨lookT tys, ctrOf C_l_toCand, kindOf C_l_toCand, 3, 4⟩ 0 Q_l_toCand Try.f87 .plain (mkA P_l_toCand d) = (T_l_toCand d.1).run fun r => some (O_l_toCand r) := fun d => by kernel_rfl
theorem fn_l_toCand : Fn Try.prog 87 .plain F_l_toCand := fn_of (cfgOk_of mixed tys_ok (show FnsOk Try.prog C_l_toCand from ⟨fn_l_toAddr, fn_l_toByteS, trivial⟩)) Try.func87 (by kernel_rfl) (by kernel_rfl) (fun cx b hp hb => all_of (by kernel_rfl : loopsOf (Try.f87.body.getD .skip) = []) trivial b hb) (R := (YCand)) (T := fun (d : aden P_l_toCand) => T_l_toCand d.1) e_l_toCand
def P_l_toCandS : List (Bool × List Sh) := [(false, [.sl 108 h_1])]
def O_l_toCandS (r : ((List YCand) × Unit)) : List RV × List RV := ([rv (false, [.sl 96 h_1]) r], [])
def C_l_toCandS : Fns := [(87, .plain, F_l_toCand)]
def F_l_toCandS : Fun1 := funV P_l_toCandS (fun d => (T_l_toCandS d.1).val) O_l_toCandS
def K_l_toCandS_3 : Sk := ⟨[(0, .v false [(.sl 108 h_1, .ro)]), (3, .v false [(.sl 96 h_1, (.own 4000000))]), (4, .v false [(.int .i64, .nil)])], [], [4000000]⟩
def X_l_toCandS_3 : List (Ex × Sk) := [((.exit 0), ⟨[(3, .v false [(.sl 96 h_1, (.own 4000000))])], [], [4000000]⟩)]
def Q_l_toCandS : Loops := fun i st => cond (Nat.beq i 3) (lam K_l_toCandS_3 4000000 X_l_toCandS_3 B_l_toCandS_3 st) <| .fail
theorem lp_l_toCandS_3 : ∀ d, bod ⟨lookT tys, ctrOf C_l_toCandS, kindOf C_l_toCandS, 3, 4⟩ 0 Try.f64.ntmps Q_l_toCandS (nthLoop Try.f64 0) K_l_toCandS_3 4000000 X_l_toCandS_3 d = B_l_toCandS_3 d := fun d => by kernel_rfl
theorem lo_l_toCandS_3 (cx : Cx) (hp : cx.pin.length ≤ 0) : LoopOk Try.prog cx Try.f64.ntmps Q_l_toCandS (nthLoop Try.f64 0) := loop_of (cfgOk_of mixed tys_ok (show FnsOk Try.prog C_l_toCandS from ⟨fn_l_toCand, trivial⟩)) hp (all_of (by kernel_rfl : loopsOf (nthLoop Try.f64 0) = []) trivial) (by kernel_rfl) lp_l_toCandS_3
theorem e_l_toCandS : ∀ d, pcall ⟨lookT tys, ctrOf C_l_toCandS, kindOf C_l_toCandS, 3, 4⟩ 0 Q_l_toCandS Try.f64 .plain (mkA P_l_toCandS d) = (T_l_toCandS d.1).run fun r => some (O_l_toCandS r) := fun d => by kernel_rfl
theorem fn_l_toCandS : Fn Try.prog 64 .plain F_l_toCandS := fn_of (cfgOk_of mixed tys_ok (show FnsOk Try.prog C_l_toCandS from ⟨fn_l_toCand, trivial⟩)) Try.func64 (by kernel_rfl) (by kernel_rfl) (fun cx b hp hb => all_of (by kernel_rfl : loopsOf (Try.f64.body.getD .skip) = [nthLoop Try.f64 0]) ⟨lo_l_toCandS_3 cx hp, trivial⟩ b hb) (R := ((List YCand) × Unit)) (T := fun (d : aden P_l_toCandS) => T_l_toCandS d.1) e_l_toCandS
def P_l_toPaths : List (Bool × List Sh) := [(true, h_5)]
def O_l_toPaths (r : (YPaths)) : List RV × List RV := ([rv (true, h_4) r], [])
def C_l_toPaths : Fns := [(8, .plain, F_l_toAddr), (64, .plain, F_l_toCandS)]
def F_l_toPaths : Fun1 := funV P_l_toPaths (fun d => (T_l_toPaths d.1).val) O_l_toPaths
def Q_l_toPaths : Loops := fun _ _ => .fail
theorem e_l_toPaths : ∀ d, pcall ⟨lookT tys, ctrOf C_l_toPaths, kindOf C_l_toPaths, 3, 4⟩ 0 Q_l_toPaths Try.f37 .plain (mkA P_l_toPaths d) = (T_l_toPaths d.1).run fun r => some (O_l_toPaths r) := fun d => by kernel_rfl
theorem fn_l_toPaths : Fn Try.prog 37 .plain F_l_toPaths := fn_of (cfgOk_of mixed tys_ok (show FnsOk Try.prog C_l_toPaths from ⟨fn_l_toAddr, fn_l_toCandS, trivial⟩)) Try.func37 (by kernel_rfl) (by kernel_rfl) (fun cx b hp hb => all_of (by kernel_rfl : loopsOf (Try.f37.body.getD .skip) = []) trivial b hb) (R := (YPaths)) (T := fun (d : aden P_l_toPaths) => T_l_toPaths d.1) e_l_toPaths
def P_l_toSess : List (Bool × List Sh) := [(true, h_8)]
def O_l_toSess (r : (YSess)) : List RV × List RV := ([rv (true, h_7) r], [])
def C_l_toSess : Fns := [(35, .plain, F_l_toByteS), (36, .plain, F_l_toChan), (37, .plain, F_l_toPaths)]
def F_l_toSess : Fun1 := funV P_l_toSess (fun d => (T_l_toSess d.1).val) O_l_toSess
def Q_l_toSess : Loops := fun _ _ => .fail
theorem e_l_toSess : ∀ d, pcall ⟨lookT tys, ctrOf C_l_toSess, kindOf C_l_toSess, 3, 4⟩ 0 Q_l_toSess Try.f15 .plain (mkA P_l_toSess d) = (T_l_toSess d.1).run fun r => some (O_l_toSess r) := fun d => by kernel_rfl
theorem fn_l_toSess : Fn Try.prog 15 .plain F_l_toSess := fn_of (cfgOk_of mixed tys_ok (show FnsOk Try.prog C_l_toSess from ⟨fn_l_toByteS, fn_l_toChan, fn_l_toPaths, trivial⟩)) Try.func15 (by kernel_rfl) (by kernel_rfl) (fun cx b hp hb => all_of (by kernel_rfl : loopsOf (Try.f15.body.getD .skip) = []) trivial b hb) (R := (YSess)) (T := fun (d : aden P_l_toSess) => T_l_toSess d.1) e_l_toSess
def P_s_l8Copy : List (Bool × List Sh) := [(true, [.int .i64, .sl 3 [.int .i64]])]
def O_s_l8Copy (r : (YWin)) : List RV × List RV := ([rv (true, [.int .i64, .sl 3 [.int .i64]]) r], [])
def C_s_l8Copy : Fns := []
def F_s_l8Copy : Fun1 := funV P_s_l8Copy (fun d => (T_s_l8Copy d.1).val) O_s_l8Copy
def Q_s_l8Copy : Loops := fun _ _ => .fail
theorem e_s_l8Copy : ∀ d, pcall ⟨lookT tys, ctrOf C_s_l8Copy, kindOf C_s_l8Copy, 3, 4⟩ 0 Q_s_l8Copy Try.f99 .plain (mkA P_s_l8Copy d) = (T_s_l8Copy d.1).run fun r => some (O_s_l8Copy r) := fun d => by kernel_rfl
theorem fn_s_l8Copy : Fn Try.prog 99 .plain F_s_l8Copy := fn_of (cfgOk_of mixed tys_ok (show FnsOk Try.prog C_s_l8Copy from trivial)) Try.func99 (by kernel_rfl) (by kernel_rfl) (fun cx b hp hb => all_of (by kernel_rfl : loopsOf (Try.f99.body.getD .skip) = []) trivial b hb) (R := (YWin)) (T := fun (d : aden P_s_l8Copy) => T_s_l8Copy d.1) e_s_l8Copy
def P_s_l9Copy : List (Bool × List Sh) := [(true, h_3)]
def O_s_l9Copy (r : (YEp)) : List RV × List RV := ([rv (true, h_3) r], [])
def C_s_l9Copy : Fns := [(99, .plain, F_s_l8Copy)]
def F_s_l9Copy : Fun1 := funV P_s_l9Copy (fun d => (T_s_l9Copy d.1).val) O_s_l9Copy
def Q_s_l9Copy : Loops := fun _ _ => .fail
theorem e_s_l9Copy : ∀ d, pcall ⟨lookT tys, ctrOf C_s_l9Copy, kindOf C_s_l9Copy, 3, 4⟩ 0 Q_s_l9Copy Try.f81 .plain (mkA P_s_l9Copy d) = (T_s_l9Copy d.1).run fun r => some (O_s_l9Copy r) := fun d => by kernel_rfl
theorem fn_s_l9Copy : Fn Try.prog 81 .plain F_s_l9Copy := fn_of (cfgOk_of mixed tys_ok (show FnsOk Try.prog C_s_l9Copy from ⟨fn_s_l8Copy, trivial⟩)) Try.func81 (by kernel_rfl) (by kernel_rfl) (fun cx b hp hb => all_of (by kernel_rfl : loopsOf (Try.f81.body.getD .skip) = []) trivial b hb) (R := (YEp)) (T := fun (d : aden P_s_l9Copy) => T_s_l9Copy d.1) e_s_l9Copy
def P_s_l14Ep : List (Bool × List Sh) := [(true, h_3), (false, [.bool])]
def O_s_l14Ep (r : (YEp)) : List RV × List RV := ([rv (true, h_3) r], [])
def C_s_l14Ep : Fns := [(81, .plain, F_s_l9Copy)]
def F_s_l14Ep : Fun1 := funV P_s_l14Ep (fun d => (T_s_l14Ep d.1 d.2.1).val) O_s_l14Ep
def Q_s_l14Ep : Loops := fun _ _ => .fail
theorem e_s_l14Ep : ∀ d, pcall ⟨lookT tys, ctrOf C_s_l14Ep, kindOf C_s_l14Ep, 3, 4⟩ 0 Q_s_l14Ep Try.f82 .plain (mkA P_s_l14Ep d) = (T_s_l14Ep d.1 d.2.1).run fun r => some (O_s_l14Ep r) := fun d => by kernel_rfl
theorem fn_s_l14Ep : Fn Try.prog 82 .plain F_s_l14Ep := fn_of (cfgOk_of mixed tys_ok (show FnsOk Try.prog C_s_l14Ep from ⟨fn_s_l9Copy, trivial⟩)) Try.func82 (by kernel_rfl) (by kernel_rfl) (fun cx b hp hb => all_of (by kernel_rfl : loopsOf (Try.f82.body.getD .skip) = []) trivial b hb) (R := (YEp)) (T := fun (d : aden P_s_l14Ep) => T_s_l14Ep d.1 d.2.1) e_s_l14Ep
def P_s_l14Copy : List (Bool × List Sh) := [(true, h_6)]
def O_s_l14Copy (r : (YChan)) : List RV × List RV := ([rv (true, h_6) r], [])
def C_s_l14Copy : Fns := [(81, .plain, F_s_l9Copy), (82, .plain, F_s_l14Ep)]
def F_s_l14Copy : Fun1 := funV P_s_l14Copy (fun d => (T_s_l14Copy d.1).val) O_s_l14Copy
def Q_s_l14Copy : Loops := fun _ _ => .fail
theorem e_s_l14Copy : ∀ d, pcall ⟨lookT tys, ctrOf C_s_l14Copy, kindOf C_s_l14Copy, 3, 4⟩ 0 Q_s_l14Copy Try.f55 .plain (mkA P_s_l14Copy d) = (T_s_l14Copy d.1).run fun r => some (O_s_l14Copy r) := fun d => by kernel_rfl
theorem fn_s_l14Copy : Fn Try.prog 55 .plain F_s_l14Copy := fn_of (cfgOk_of mixed tys_ok (show FnsOk Try.prog C_s_l14Copy from ⟨fn_s_l9Copy, fn_s_l14Ep, trivial⟩)) Try.func55 (by kernel_rfl) (by kernel_rfl) (fun cx b hp hb => all_of (by kernel_rfl : loopsOf (Try.f55.body.getD .skip) = []) trivial b hb) (R := (YChan)) (T := fun (d : aden P_s_l14Copy) => T_s_l14Copy d.1) e_s_l14Copy
def P_s_l16Cand : List (Bool × List Sh) := [(true, h_1)]
def O_s_l16Cand (r : (YCand)) : List RV × List RV := ([rv (true, h_1) r], [])
def C_s_l16Cand : Fns := []
def F_s_l16Cand : Fun1 := funV P_s_l16Cand (fun d => (T_s_l16Cand d.1).val) O_s_l16Cand
def Q_s_l16Cand : Loops := fun _ _ => .fail
theorem e_s_l16Cand : ∀ d, pcall ⟨lookT tys, ctrOf C_s_l16Cand, kindOf C_s_l16Cand, 3, 4⟩ 0 Q_s_l16Cand Try.f62 .plain (mkA P_s_l16Cand d) = (T_s_l16Cand d.1).run fun r => some (O_s_l16Cand r) := fun d => by kernel_rfl
theorem fn_s_l16Cand : Fn Try.prog 62 .plain F_s_l16Cand := fn_of (cfgOk_of mixed tys_ok (show FnsOk Try.prog C_s_l16Cand from trivial)) Try.func62 (by kernel_rfl) (by kernel_rfl) (fun cx b hp hb => all_of (by kernel_rfl : loopsOf (Try.f62.body.getD .skip) = []) trivial b hb) (R := (YCand)) (T := fun (d : aden P_s_l16Cand) => T_s_l16Cand d.1) e_s_l16Cand
def P_s_l16Copy : List (Bool × List Sh) := [(true, h_4)]
def O_s_l16Copy (r : (YPaths)) : List RV × List RV := ([rv (true, h_4) r], [])
def C_s_l16Copy : Fns := [(62, .plain, F_s_l16Cand)]
def F_s_l16Copy : Fun1 := funV P_s_l16Copy (fun d => (T_s_l16Copy d.1).val) O_s_l16Copy
def K_s_l16Copy_3 : Sk := ⟨[(1, .box 1 0), (2, .box 2 0), (3, .box 3 0), (4, .v false [(.int .i64, .nil)])], [(1, [(.int .i64, .nil), (.int .i64, .nil), (.sl 96 h_1, .ro)]), (2, [(.int .i64, .nil), (.int .i64, .nil), (.sl 96 h_1, (.own 4000000))]), (3, [(.int .i64, .nil), (.int .i64, .nil), (.sl 96 h_1, (.own 4000001))])], [4000000, 4000001]⟩
def X_s_l16Copy_3 : List (Ex × Sk) := [((.exit 0), ⟨[(2, .box 2 0), (3, .box 3 0)], [(2, [(.int .i64, .nil), (.int .i64, .nil), (.sl 96 h_1, (.own 4000000))]), (3, [(.int .i64, .nil), (.int .i64, .nil), (.sl 96 h_1, (.own 4000001))])], [4000000, 4000001]⟩)]
def Q_s_l16Copy : Loops := fun i st => cond (Nat.beq i 3) (lam K_s_l16Copy_3 4000000 X_s_l16Copy_3 B_s_l16Copy_3 st) <| .fail
theorem lp_s_l16Copy_3 : ∀ d, bod ⟨lookT tys, ctrOf C_s_l16Copy, kindOf C_s_l16Copy, 3, 4⟩ 0 Try.f56.ntmps Q_s_l16Copy (nthLoop Try.f56 0) K_s_l16Copy_3 4000000 X_s_l16Copy_3 d = B_s_l16Copy_3 d := fun d => by kernel_rfl
theorem lo_s_l16Copy_3 (cx : Cx) (hp : cx.pin.length ≤ 0) : LoopOk Try.prog cx Try.f56.ntmps Q_s_l16Copy (nthLoop Try.f56 0) := loop_of (cfgOk_of mixed tys_ok (show FnsOk Try.prog C_s_l16Copy from ⟨fn_s_l16Cand, trivial⟩)) hp (all_of (by kernel_rfl : loopsOf (nthLoop Try.f56 0) = []) trivial) (by kernel_rfl) lp_s_l16Copy_3
theorem e_s_l16Copy : ∀ d, pcall ⟨lookT tys, ctrOf C_s_l16Copy, kindOf C_s_l16Copy, 3, 4⟩ 0 Q_s_l16Copy Try.f56 .plain (mkA P_s_l16Copy d) = (T_s_l16Copy d.1).run fun r => some (O_s_l16Copy r) := fun d => by kernel_rfl
theorem fn_s_l16Copy : Fn Try.prog 56 .plain F_s_l16Copy := fn_of (cfgOk_of mixed tys_ok (show FnsOk Try.prog C_s_l16Copy from ⟨fn_s_l16Cand, trivial⟩)) Try.func56 (by kernel_rfl) (by kernel_rfl) (fun cx b hp hb => all_of (by kernel_rfl : loopsOf (Try.f56.body.getD .skip) = [nthLoop Try.f56 0]) ⟨lo_s_l16Copy_3 cx hp, trivial⟩ b hb) (R := (YPaths)) (T := fun (d : aden P_s_l16Copy) => T_s_l16Copy d.1) e_s_l16Copy
def P_s_l20Copy : List (Bool × List Sh) := [(true, h_7)]
def O_s_l20Copy (r : (YSess)) : List RV × List RV := ([rv (true, h_7) r], [])
def C_s_l20Copy : Fns := [(55, .plain, F_s_l14Copy), (56, .plain, F_s_l16Copy)]
def F_s_l20Copy : Fun1 := funV P_s_l20Copy (fun d => (T_s_l20Copy d.1).val) O_s_l20Copy
def Q_s_l20Copy : Loops := fun _ _ => .fail
theorem e_s_l20Copy : ∀ d, pcall ⟨lookT tys, ctrOf C_s_l20Copy, kindOf C_s_l20Copy, 3, 4⟩ 0 Q_s_l20Copy Try.f29 .plain (mkA P_s_l20Copy d) = (T_s_l20Copy d.1).run fun r => some (O_s_l20Copy r) := fun d => by kernel_rfl
theorem fn_s_l20Copy : Fn Try.prog 29 .plain F_s_l20Copy := fn_of (cfgOk_of mixed tys_ok (show FnsOk Try.prog C_s_l20Copy from ⟨fn_s_l14Copy, fn_s_l16Copy, trivial⟩)) Try.func29 (by kernel_rfl) (by kernel_rfl) (fun cx b hp hb => all_of (by kernel_rfl : loopsOf (Try.f29.body.getD .skip) = []) trivial b hb) (R := (YSess)) (T := fun (d : aden P_s_l20Copy) => T_s_l20Copy d.1) e_s_l20Copy
def P_s_l1In : List (Bool × List Sh) := [(false, [.int .i64]), (false, [.int .i64]), (false, [.int .i64])]
def O_s_l1In (r : (Bool × Unit)) : List RV × List RV := ([rv (false, [.bool]) r], [])
def C_s_l1In : Fns := []
def F_s_l1In : Fun1 := funV P_s_l1In (fun d => (T_s_l1In d.1 d.2.1 d.2.2.1).val) O_s_l1In
def Q_s_l1In : Loops := fun _ _ => .fail
theorem e_s_l1In : ∀ d, pcall ⟨lookT tys, ctrOf C_s_l1In, kindOf C_s_l1In, 3, 4⟩ 0 Q_s_l1In Try.f31 .plain (mkA P_s_l1In d) = (T_s_l1In d.1 d.2.1 d.2.2.1).run fun r => some (O_s_l1In r) := fun d => by kernel_rfl
theorem fn_s_l1In : Fn Try.prog 31 .plain F_s_l1In := fn_of (cfgOk_of mixed tys_ok (show FnsOk Try.prog C_s_l1In from trivial)) Try.func31 (by kernel_rfl) (by kernel_rfl) (fun cx b hp hb => all_of (by kernel_rfl : loopsOf (Try.f31.body.getD .skip) = []) trivial b hb) (R := (Bool × Unit)) (T := fun (d : aden P_s_l1In) => T_s_l1In d.1 d.2.1 d.2.2.1) e_s_l1In
def P_s_l14None : List (Bool × List Sh) := [(true, h_3)]
def O_s_l14None (r : (Bool × Unit)) : List RV × List RV := ([rv (false, [.bool]) r], [])
def C_s_l14None : Fns := []
def F_s_l14None : Fun1 := funV P_s_l14None (fun d => (T_s_l14None d.1).val) O_s_l14None
def Q_s_l14None : Loops := fun _ _ => .fail
theorem e_s_l14None : ∀ d, pcall ⟨lookT tys, ctrOf C_s_l14None, kindOf C_s_l14None, 3, 4⟩ 0 Q_s_l14None Try.f83 .plain (mkA P_s_l14None d) = (T_s_l14None d.1).run fun r => some (O_s_l14None r) := fun d => by kernel_rfl
theorem fn_s_l14None : Fn Try.prog 83 .plain F_s_l14None := fn_of (cfgOk_of mixed tys_ok (show FnsOk Try.prog C_s_l14None from trivial)) Try.func83 (by kernel_rfl) (by kernel_rfl) (fun cx b hp hb => all_of (by kernel_rfl : loopsOf (Try.f83.body.getD .skip) = []) trivial b hb) (R := (Bool × Unit)) (T := fun (d : aden P_s_l14None) => T_s_l14None d.1) e_s_l14None
def P_s_l19NoChan : List (Bool × List Sh) := [(true, h_6)]
def O_s_l19NoChan (r : (Bool × Unit)) : List RV × List RV := ([rv (false, [.bool]) r], [])
def C_s_l19NoChan : Fns := [(83, .plain, F_s_l14None)]
def F_s_l19NoChan : Fun1 := funV P_s_l19NoChan (fun d => (T_s_l19NoChan d.1).val) O_s_l19NoChan
def Q_s_l19NoChan : Loops := fun _ _ => .fail
theorem e_s_l19NoChan : ∀ d, pcall ⟨lookT tys, ctrOf C_s_l19NoChan, kindOf C_s_l19NoChan, 3, 4⟩ 0 Q_s_l19NoChan Try.f57 .plain (mkA P_s_l19NoChan d) = (T_s_l19NoChan d.1).run fun r => some (O_s_l19NoChan r) := fun d => by kernel_rfl
theorem fn_s_l19NoChan : Fn Try.prog 57 .plain F_s_l19NoChan := fn_of (cfgOk_of mixed tys_ok (show FnsOk Try.prog C_s_l19NoChan from ⟨fn_s_l14None, trivial⟩)) Try.func57 (by kernel_rfl) (by kernel_rfl) (fun cx b hp hb => all_of (by kernel_rfl : loopsOf (Try.f57.body.getD .skip) = []) trivial b hb) (R := (Bool × Unit)) (T := fun (d : aden P_s_l19NoChan) => T_s_l19NoChan d.1) e_s_l19NoChan
def P_s_Near : List (Bool × List Sh) := [(false, [.int .i64])]
def O_s_Near (r : (YAddr)) : List RV × List RV := ([rv (true, [.int .i64, .int .i64]) r], [])
def C_s_Near : Fns := [(31, .plain, F_s_l1In)]
def F_s_Near : Fun1 := funV P_s_Near (fun d => (T_s_Near d.1).val) O_s_Near
def Q_s_Near : Loops := fun _ _ => .fail
theorem e_s_Near : ∀ d, pcall ⟨lookT tys, ctrOf C_s_Near, kindOf C_s_Near, 3, 4⟩ 0 Q_s_Near Try.f58 .plain (mkA P_s_Near d) = (T_s_Near d.1).run fun r => some (O_s_Near r) := fun d => by kernel_rfl
theorem fn_s_Near : Fn Try.prog 58 .plain F_s_Near := fn_of (cfgOk_of mixed tys_ok (show FnsOk Try.prog C_s_Near from ⟨fn_s_l1In, trivial⟩)) Try.func58 (by kernel_rfl) (by kernel_rfl) (fun cx b hp hb => all_of (by kernel_rfl : loopsOf (Try.f58.body.getD .skip) = []) trivial b hb) (R := (YAddr)) (T := fun (d : aden P_s_Near) => T_s_Near d.1) e_s_Near
def P_s_l8Bit : List (Bool × List Sh) := [(true, [.int .i64, .sl 3 [.int .i64]]), (false, [.int .i64])]
def O_s_l8Bit (r : (Bool × Unit)) : List RV × List RV := ([rv (false, [.bool]) r], [])
def C_s_l8Bit : Fns := []
def F_s_l8Bit : Fun1 := funV P_s_l8Bit (fun d => (T_s_l8Bit d.1 d.2.1).val) O_s_l8Bit
def Q_s_l8Bit : Loops := fun _ _ => .fail
theorem e_s_l8Bit : ∀ d, pcall ⟨lookT tys, ctrOf C_s_l8Bit, kindOf C_s_l8Bit, 3, 4⟩ 0 Q_s_l8Bit Try.f108 .plain (mkA P_s_l8Bit d) = (T_s_l8Bit d.1 d.2.1).run fun r => some (O_s_l8Bit r) := fun d => by kernel_rfl
theorem fn_s_l8Bit : Fn Try.prog 108 .plain F_s_l8Bit := fn_of (cfgOk_of mixed tys_ok (show FnsOk Try.prog C_s_l8Bit from trivial)) Try.func108 (by kernel_rfl) (by kernel_rfl) (fun cx b hp hb => all_of (by kernel_rfl : loopsOf (Try.f108.body.getD .skip) = []) trivial b hb) (R := (Bool × Unit)) (T := fun (d : aden P_s_l8Bit) => T_s_l8Bit d.1 d.2.1) e_s_l8Bit
def P_s_WinOk : List (Bool × List Sh) := [(true, [.int .i64, .sl 3 [.int .i64]])]
def O_s_WinOk (r : (Bool × Unit)) : List RV × List RV := ([rv (false, [.bool]) r], [])
def C_s_WinOk : Fns := [(31, .plain, F_s_l1In), (108, .plain, F_s_l8Bit)]
def F_s_WinOk : Fun1 := funV P_s_WinOk (fun d => (T_s_WinOk d.1).val) O_s_WinOk
def K_s_WinOk_11 : Sk := ⟨[(1, .box 1 0), (4, .v false [(.int .i64, .nil)])], [(1, [(.int .i64, .nil), (.sl 3 [.int .i64], .ro)])], []⟩
def X_s_WinOk_11 : List (Ex × Sk) := [(.ret, ⟨[(2, .v false [(.bool, .nil)])], [], []⟩), ((.exit 2), ⟨[], [], []⟩)]
def K_s_WinOk_4 : Sk := ⟨[(1, .box 1 0), (3, .v false [(.int .i64, .nil)])], [(1, [(.int .i64, .nil), (.sl 3 [.int .i64], .ro)])], []⟩
def X_s_WinOk_4 : List (Ex × Sk) := [(.ret, ⟨[(2, .v false [(.bool, .nil)])], [], []⟩), ((.exit 0), ⟨[(1, .box 1 0)], [(1, [(.int .i64, .nil), (.sl 3 [.int .i64], .ro)])], []⟩)]
def Q_s_WinOk : Loops := fun i st => cond (Nat.beq i 4) (lam K_s_WinOk_4 5000000 X_s_WinOk_4 B_s_WinOk_4 st) <| cond (Nat.beq i 11) (lam K_s_WinOk_11 12000000 X_s_WinOk_11 B_s_WinOk_11 st) <| .fail
theorem lp_s_WinOk_4 : ∀ d, bod ⟨lookT tys, ctrOf C_s_WinOk, kindOf C_s_WinOk, 3, 4⟩ 0 Try.f100.ntmps Q_s_WinOk (nthLoop Try.f100 0) K_s_WinOk_4 5000000 X_s_WinOk_4 d = B_s_WinOk_4 d := fun d => by kernel_rfl
theorem lo_s_WinOk_4 (cx : Cx) (hp : cx.pin.length ≤ 0) : LoopOk Try.prog cx Try.f100.ntmps Q_s_WinOk (nthLoop Try.f100 0) := loop_of (cfgOk_of mixed tys_ok (show FnsOk Try.prog C_s_WinOk from ⟨fn_s_l1In, fn_s_l8Bit, trivial⟩)) hp (all_of (by kernel_rfl : loopsOf (nthLoop Try.f100 0) = []) trivial) (by kernel_rfl) lp_s_WinOk_4
theorem lp_s_WinOk_11 : ∀ d, bod ⟨lookT tys, ctrOf C_s_WinOk, kindOf C_s_WinOk, 3, 4⟩ 0 Try.f100.ntmps Q_s_WinOk (nthLoop Try.f100 1) K_s_WinOk_11 12000000 X_s_WinOk_11 d = B_s_WinOk_11 d := fun d => by kernel_rfl
theorem lo_s_WinOk_11 (cx : Cx) (hp : cx.pin.length ≤ 0) : LoopOk Try.prog cx Try.f100.ntmps Q_s_WinOk (nthLoop Try.f100 1) := loop_of (cfgOk_of mixed tys_ok (show FnsOk Try.prog C_s_WinOk from ⟨fn_s_l1In, fn_s_l8Bit, trivial⟩)) hp (all_of (by kernel_rfl : loopsOf (nthLoop Try.f100 1) = []) trivial) (by kernel_rfl) lp_s_WinOk_11
theorem e_s_WinOk : ∀ d, pcall ⟨lookT tys, ctrOf C_s_WinOk, kindOf C_s_WinOk, 3, 4⟩ 0 Q_s_WinOk Try.f100 .plain (mkA P_s_WinOk d) = (T_s_WinOk d.1).run fun r => some (O_s_WinOk r) := fun d => by kernel_rfl
theorem fn_s_WinOk : Fn Try.prog 100 .plain F_s_WinOk := fn_of (cfgOk_of mixed tys_ok (show FnsOk Try.prog C_s_WinOk from ⟨fn_s_l1In, fn_s_l8Bit, trivial⟩)) Try.func100 (by kernel_rfl) (by kernel_rfl) (fun cx b hp hb => all_of (by kernel_rfl : loopsOf (Try.f100.body.getD .skip) = [nthLoop Try.f100 0, nthLoop Try.f100 1]) ⟨lo_s_WinOk_4 cx hp, lo_s_WinOk_11 cx hp, trivial⟩ b hb) (R := (Bool × Unit)) (T := fun (d : aden P_s_WinOk) => T_s_WinOk d.1) e_s_WinOk
def P_s_EpOk : List (Bool × List Sh) := [(true, h_3)]
def O_s_EpOk (r : (Bool × Unit)) : List RV × List RV := ([rv (false, [.bool]) r], [])
def C_s_EpOk : Fns := [(31, .plain, F_s_l1In), (100, .plain, F_s_WinOk)]
def F_s_EpOk : Fun1 := funV P_s_EpOk (fun d => (T_s_EpOk d.1).val) O_s_EpOk
def Q_s_EpOk : Loops := fun _ _ => .fail
theorem e_s_EpOk : ∀ d, pcall ⟨lookT tys, ctrOf C_s_EpOk, kindOf C_s_EpOk, 3, 4⟩ 0 Q_s_EpOk Try.f84 .plain (mkA P_s_EpOk d) = (T_s_EpOk d.1).run fun r => some (O_s_EpOk r) := fun d => by kernel_rfl
theorem fn_s_EpOk : Fn Try.prog 84 .plain F_s_EpOk := fn_of (cfgOk_of mixed tys_ok (show FnsOk Try.prog C_s_EpOk from ⟨fn_s_l1In, fn_s_WinOk, trivial⟩)) Try.func84 (by kernel_rfl) (by kernel_rfl) (fun cx b hp hb => all_of (by kernel_rfl : loopsOf (Try.f84.body.getD .skip) = []) trivial b hb) (R := (Bool × Unit)) (T := fun (d : aden P_s_EpOk) => T_s_EpOk d.1) e_s_EpOk
def P_s_ChanOk : List (Bool × List Sh) := [(true, h_6)]
def O_s_ChanOk (r : (Bool × Unit)) : List RV × List RV := ([rv (false, [.bool]) r], [])
def C_s_ChanOk : Fns := [(31, .plain, F_s_l1In), (84, .plain, F_s_EpOk), (83, .plain, F_s_l14None)]
def F_s_ChanOk : Fun1 := funV P_s_ChanOk (fun d => (T_s_ChanOk d.1).val) O_s_ChanOk
def Q_s_ChanOk : Loops := fun _ _ => .fail
theorem e_s_ChanOk : ∀ d, pcall ⟨lookT tys, ctrOf C_s_ChanOk, kindOf C_s_ChanOk, 3, 4⟩ 0 Q_s_ChanOk Try.f59 .plain (mkA P_s_ChanOk d) = (T_s_ChanOk d.1).run fun r => some (O_s_ChanOk r) := fun d => by kernel_rfl
theorem fn_s_ChanOk : Fn Try.prog 59 .plain F_s_ChanOk := fn_of (cfgOk_of mixed tys_ok (show FnsOk Try.prog C_s_ChanOk from ⟨fn_s_l1In, fn_s_EpOk, fn_s_l14None, trivial⟩)) Try.func59 (by kernel_rfl) (by kernel_rfl) (fun cx b hp hb => all_of (by kernel_rfl : loopsOf (Try.f59.body.getD .skip) = []) trivial b hb) (R := (Bool × Unit)) (T := fun (d : aden P_s_ChanOk) => T_s_ChanOk d.1) e_s_ChanOk
def P_s_l1Same : List (Bool × List Sh) := [(false, [.sl 5 [.int .u8]]), (false, [.sl 5 [.int .u8]])]
def O_s_l1Same (r : (Bool × Unit)) : List RV × List RV := ([rv (false, [.bool]) r], [])
def C_s_l1Same : Fns := []
def F_s_l1Same : Fun1 := funV P_s_l1Same (fun d => (T_s_l1Same d.1 d.2.1).val) O_s_l1Same
def Q_s_l1Same : Loops := fun _ _ => .fail
theorem e_s_l1Same : ∀ d, pcall ⟨lookT tys, ctrOf C_s_l1Same, kindOf C_s_l1Same, 3, 4⟩ 0 Q_s_l1Same Try.f60 .plain (mkA P_s_l1Same d) = (T_s_l1Same d.1 d.2.1).run fun r => some (O_s_l1Same r) := fun d => by kernel_rfl
theorem fn_s_l1Same : Fn Try.prog 60 .plain F_s_l1Same := fn_of (cfgOk_of mixed tys_ok (show FnsOk Try.prog C_s_l1Same from trivial)) Try.func60 (by kernel_rfl) (by kernel_rfl) (fun cx b hp hb => all_of (by kernel_rfl : loopsOf (Try.f60.body.getD .skip) = []) trivial b hb) (R := (Bool × Unit)) (T := fun (d : aden P_s_l1Same) => T_s_l1Same d.1 d.2.1) e_s_l1Same
def P_s_AddrOk : List (Bool × List Sh) := [(true, [.int .i64, .int .i64])]
def O_s_AddrOk (r : (Bool × Unit)) : List RV × List RV := ([rv (false, [.bool]) r], [])
def C_s_AddrOk : Fns := [(31, .plain, F_s_l1In)]
def F_s_AddrOk : Fun1 := funV P_s_AddrOk (fun d => (T_s_AddrOk d.1).val) O_s_AddrOk
def Q_s_AddrOk : Loops := fun _ _ => .fail
theorem e_s_AddrOk : ∀ d, pcall ⟨lookT tys, ctrOf C_s_AddrOk, kindOf C_s_AddrOk, 3, 4⟩ 0 Q_s_AddrOk Try.f85 .plain (mkA P_s_AddrOk d) = (T_s_AddrOk d.1).run fun r => some (O_s_AddrOk r) := fun d => by kernel_rfl
theorem fn_s_AddrOk : Fn Try.prog 85 .plain F_s_AddrOk := fn_of (cfgOk_of mixed tys_ok (show FnsOk Try.prog C_s_AddrOk from ⟨fn_s_l1In, trivial⟩)) Try.func85 (by kernel_rfl) (by kernel_rfl) (fun cx b hp hb => all_of (by kernel_rfl : loopsOf (Try.f85.body.getD .skip) = []) trivial b hb) (R := (Bool × Unit)) (T := fun (d : aden P_s_AddrOk) => T_s_AddrOk d.1) e_s_AddrOk
def P_s_PathsOk : List (Bool × List Sh) := [(true, h_4)]
def O_s_PathsOk (r : (Bool × Unit)) : List RV × List RV := ([rv (false, [.bool]) r], [])
def C_s_PathsOk : Fns := [(85, .plain, F_s_AddrOk), (31, .plain, F_s_l1In)]
def F_s_PathsOk : Fun1 := funV P_s_PathsOk (fun d => (T_s_PathsOk d.1).val) O_s_PathsOk
def K_s_PathsOk_4 : Sk := ⟨[(1, .box 1 0), (3, .v false [(.int .i64, .nil)])], [(1, [(.int .i64, .nil), (.int .i64, .nil), (.sl 96 h_1, .ro)])], []⟩
def X_s_PathsOk_4 : List (Ex × Sk) := [(.ret, ⟨[(2, .v false [(.bool, .nil)])], [], []⟩), ((.exit 0), ⟨[], [], []⟩)]
def K_s_PathsOk_10 : Sk := ⟨[(1, .box 1 0), (3, .v false [(.int .i64, .nil)]), (4, .box 4 0), (5, .v false [(.int .i64, .nil)])], [(1, [(.int .i64, .nil), (.int .i64, .nil), (.sl 96 h_1, .ro)]), (4, [(.int .i64, .nil), (.int .i64, .nil), (.sl 5 [.int .u8], .ro), (.int .i64, .nil)])], []⟩
def X_s_PathsOk_10 : List (Ex × Sk) := [(.ret, ⟨[(2, .v false [(.bool, .nil)])], [], []⟩), ((.exit 2), ⟨[(1, .box 1 0), (3, .v false [(.int .i64, .nil)])], [(1, [(.int .i64, .nil), (.int .i64, .nil), (.sl 96 h_1, .ro)])], []⟩)]
def Q_s_PathsOk : Loops := fun i st => cond (Nat.beq i 10) (lam K_s_PathsOk_10 11000000 X_s_PathsOk_10 B_s_PathsOk_10 st) <| cond (Nat.beq i 4) (lam K_s_PathsOk_4 5000000 X_s_PathsOk_4 B_s_PathsOk_4 st) <| .fail
theorem lp_s_PathsOk_10 : ∀ d, bod ⟨lookT tys, ctrOf C_s_PathsOk, kindOf C_s_PathsOk, 3, 4⟩ 0 Try.f61.ntmps Q_s_PathsOk (nthLoop Try.f61 1) K_s_PathsOk_10 11000000 X_s_PathsOk_10 d = B_s_PathsOk_10 d := fun d => by kernel_rfl
theorem lo_s_PathsOk_10 (cx : Cx) (hp : cx.pin.length ≤ 0) : LoopOk Try.prog cx Try.f61.ntmps Q_s_PathsOk (nthLoop Try.f61 1) := loop_of (cfgOk_of mixed tys_ok (show FnsOk Try.prog C_s_PathsOk from ⟨fn_s_AddrOk, fn_s_l1In, trivial⟩)) hp (all_of (by kernel_rfl : loopsOf (nthLoop Try.f61 1) = []) trivial) (by kernel_rfl) lp_s_PathsOk_10
theorem lp_s_PathsOk_4 : ∀ d, bod ⟨lookT tys, ctrOf C_s_PathsOk, kindOf C_s_PathsOk, 3, 4⟩ 0 Try.f61.ntmps Q_s_PathsOk (nthLoop Try.f61 0) K_s_PathsOk_4 5000000 X_s_PathsOk_4 d = B_s_PathsOk_4 d := fun d => by kernel_rfl
theorem lo_s_PathsOk_4 (cx : Cx) (hp : cx.pin.length ≤ 0) : LoopOk Try.prog cx Try.f61.ntmps Q_s_PathsOk (nthLoop Try.f61 0) := loop_of (cfgOk_of mixed tys_ok (show FnsOk Try.prog C_s_PathsOk from ⟨fn_s_AddrOk, fn_s_l1In, trivial⟩)) hp (all_of (by kernel_rfl : loopsOf (nthLoop Try.f61 0) = [nthLoop Try.f61 1]) ⟨lo_s_PathsOk_10 cx hp, trivial⟩) (by kernel_rfl) lp_s_PathsOk_4
theorem e_s_PathsOk : ∀ d, pcall ⟨lookT tys, ctrOf C_s_PathsOk, kindOf C_s_PathsOk, 3, 4⟩ 0 Q_s_PathsOk Try.f61 .plain (mkA P_s_PathsOk d) = (T_s_PathsOk d.1).run fun r => some (O_s_PathsOk r) := fun d => by kernel_rfl
theorem fn_s_PathsOk : Fn Try.prog 61 .plain F_s_PathsOk := fn_of (cfgOk_of mixed tys_ok (show FnsOk Try.prog C_s_PathsOk from ⟨fn_s_AddrOk, fn_s_l1In, trivial⟩)) Try.func61 (by kernel_rfl) (by kernel_rfl) (fun cx b hp hb => all_of (by kernel_rfl : loopsOf (Try.f61.body.getD .skip) = [nthLoop Try.f61 0]) ⟨lo_s_PathsOk_4 cx hp, trivial⟩ b hb) (R := (Bool × Unit)) (T := fun (d : aden P_s_PathsOk) => T_s_PathsOk d.1) e_s_PathsOk
def P_s_SessOk : List (Bool × List Sh) := [(true, h_7)]
def O_s_SessOk (r : (Bool × Unit)) : List RV × List RV := ([rv (false, [.bool]) r], [])
def C_s_SessOk : Fns := [(31, .plain, F_s_l1In), (57, .plain, F_s_l19NoChan), (58, .plain, F_s_Near), (59, .plain, F_s_ChanOk), (60, .plain, F_s_l1Same), (61, .plain, F_s_PathsOk)]
def F_s_SessOk : Fun1 := funV P_s_SessOk (fun d => (T_s_SessOk d.1).val) O_s_SessOk
def Q_s_SessOk : Loops := fun _ _ => .fail
theorem e_s_SessOk : ∀ d, pcall ⟨lookT tys, ctrOf C_s_SessOk, kindOf C_s_SessOk, 3, 4⟩ 0 Q_s_SessOk Try.f30 .plain (mkA P_s_SessOk d) = (T_s_SessOk d.1).run fun r => some (O_s_SessOk r) := fun d => by kernel_rfl
theorem fn_s_SessOk : Fn Try.prog 30 .plain F_s_SessOk := fn_of (cfgOk_of mixed tys_ok (show FnsOk Try.prog C_s_SessOk from ⟨fn_s_l1In, fn_s_l19NoChan, fn_s_Near, fn_s_ChanOk, fn_s_l1Same, fn_s_PathsOk, trivial⟩)) Try.func30 (by kernel_rfl) (by kernel_rfl) (fun cx b hp hb => all_of (by kernel_rfl : loopsOf (Try.f30.body.getD .skip) = []) trivial b hb) (R := (Bool × Unit)) (T := fun (d : aden P_s_SessOk) => T_s_SessOk d.1) e_s_SessOk
def P_s_Bury : List (Bool × List Sh) := [(true, h_7)]
def O_s_Bury (r : (YSess)) : List RV × List RV := ([rv (true, h_7) r], [])
def C_s_Bury : Fns := [(30, .plain, F_s_SessOk), (29, .plain, F_s_l20Copy)]
def F_s_Bury : Fun1 := funV P_s_Bury (fun d => (T_s_Bury d.1).val) O_s_Bury
def Q_s_Bury : Loops := fun _ _ => .fail
theorem e_s_Bury : ∀ d, pcall ⟨lookT tys, ctrOf C_s_Bury, kindOf C_s_Bury, 3, 4⟩ 0 Q_s_Bury Try.f32 .plain (mkA P_s_Bury d) = (T_s_Bury d.1).run fun r => some (O_s_Bury r) := fun d => by kernel_rfl
theorem fn_s_Bury : Fn Try.prog 32 .plain F_s_Bury := fn_of (cfgOk_of mixed tys_ok (show FnsOk Try.prog C_s_Bury from ⟨fn_s_SessOk, fn_s_l20Copy, trivial⟩)) Try.func32 (by kernel_rfl) (by kernel_rfl) (fun cx b hp hb => all_of (by kernel_rfl : loopsOf (Try.f32.body.getD .skip) = []) trivial b hb) (R := (YSess)) (T := fun (d : aden P_s_Bury) => T_s_Bury d.1) e_s_Bury
def P_s_ChanTick : List (Bool × List Sh) := [(true, h_6), (false, [.int .i64])]
def O_s_ChanTick (r : (YChan)) : List RV × List RV := ([rv (true, h_6) r], [])
def C_s_ChanTick : Fns := [(55, .plain, F_s_l14Copy), (59, .plain, F_s_ChanOk), (31, .plain, F_s_l1In)]
def F_s_ChanTick : Fun1 := funV P_s_ChanTick (fun d => (T_s_ChanTick d.1 d.2.1).val) O_s_ChanTick
def Q_s_ChanTick : Loops := fun _ _ => .fail
theorem e_s_ChanTick : ∀ d, pcall ⟨lookT tys, ctrOf C_s_ChanTick, kindOf C_s_ChanTick, 3, 4⟩ 0 Q_s_ChanTick Try.f33 .plain (mkA P_s_ChanTick d) = (T_s_ChanTick d.1 d.2.1).run fun r => some (O_s_ChanTick r) := fun d => by kernel_rfl
theorem fn_s_ChanTick : Fn Try.prog 33 .plain F_s_ChanTick := fn_of (cfgOk_of mixed tys_ok (show FnsOk Try.prog C_s_ChanTick from ⟨fn_s_l14Copy, fn_s_ChanOk, fn_s_l1In, trivial⟩)) Try.func33 (by kernel_rfl) (by kernel_rfl) (fun cx b hp hb => all_of (by kernel_rfl : loopsOf (Try.f33.body.getD .skip) = []) trivial b hb) (R := (YChan)) (T := fun (d : aden P_s_ChanTick) => T_s_ChanTick d.1 d.2.1) e_s_ChanTick
def P_s_PathTick : List (Bool × List Sh) := [(true, h_4), (false, [.int .i64])]
def O_s_PathTick (r : (YPaths)) : List RV × List RV := ([rv (true, h_4) r], [])
def C_s_PathTick : Fns := [(61, .plain, F_s_PathsOk), (31, .plain, F_s_l1In), (56, .plain, F_s_l16Copy), (62, .plain, F_s_l16Cand)]
def F_s_PathTick : Fun1 := funV P_s_PathTick (fun d => (T_s_PathTick d.1 d.2.1).val) O_s_PathTick
def K_s_PathTick_5 : Sk := ⟨[(1, .v false [(.int .i64, .nil)]), (2, .box 2 0), (4, .box 4 0), (5, .box 5 0), (6, .v false [(.int .i64, .nil)])], [(2, [(.int .i64, .nil), (.int .i64, .nil), (.sl 96 h_1, .ro)]), (4, [(.int .i64, .nil), (.int .i64, .nil), (.sl 96 h_1, (.own 6000000))]), (5, [(.int .i64, .nil), (.int .i64, .nil), (.sl 96 h_1, (.own 6000001))])], [6000000, 6000001]⟩
def X_s_PathTick_5 : List (Ex × Sk) := [((.exit 0), ⟨[(4, .box 4 0), (5, .box 5 0)], [(4, [(.int .i64, .nil), (.int .i64, .nil), (.sl 96 h_1, (.own 6000000))]), (5, [(.int .i64, .nil), (.int .i64, .nil), (.sl 96 h_1, (.own 6000001))])], [6000000, 6000001]⟩)]
def Q_s_PathTick : Loops := fun i st => cond (Nat.beq i 5) (lam K_s_PathTick_5 6000000 X_s_PathTick_5 B_s_PathTick_5 st) <| .fail
theorem lp_s_PathTick_5 : ∀ d, bod ⟨lookT tys, ctrOf C_s_PathTick, kindOf C_s_PathTick, 3, 4⟩ 0 Try.f34.ntmps Q_s_PathTick (nthLoop Try.f34 0) K_s_PathTick_5 6000000 X_s_PathTick_5 d = B_s_PathTick_5 d := fun d => by kernel_rfl
theorem lo_s_PathTick_5 (cx : Cx) (hp : cx.pin.length ≤ 0) : LoopOk Try.prog cx Try.f34.ntmps Q_s_PathTick (nthLoop Try.f34 0) := loop_of (cfgOk_of mixed tys_ok (show FnsOk Try.prog C_s_PathTick from ⟨fn_s_PathsOk, fn_s_l1In, fn_s_l16Copy, fn_s_l16Cand, trivial⟩)) hp (all_of (by kernel_rfl : loopsOf (nthLoop Try.f34 0) = []) trivial) (by kernel_rfl) lp_s_PathTick_5
theorem e_s_PathTick : ∀ d, pcall ⟨lookT tys, ctrOf C_s_PathTick, kindOf C_s_PathTick, 3, 4⟩ 0 Q_s_PathTick Try.f34 .plain (mkA P_s_PathTick d) = (T_s_PathTick d.1 d.2.1).run fun r => some (O_s_PathTick r) := fun d => by kernel_rfl
theorem fn_s_PathTick : Fn Try.prog 34 .plain F_s_PathTick := fn_of (cfgOk_of mixed tys_ok (show FnsOk Try.prog C_s_PathTick from ⟨fn_s_PathsOk, fn_s_l1In, fn_s_l16Copy, fn_s_l16Cand, trivial⟩)) Try.func34 (by kernel_rfl) (by kernel_rfl) (fun cx b hp hb => all_of (by kernel_rfl : loopsOf (Try.f34.body.getD .skip) = [nthLoop Try.f34 0]) ⟨lo_s_PathTick_5 cx hp, trivial⟩ b hb) (R := (YPaths)) (T := fun (d : aden P_s_PathTick) => T_s_PathTick d.1 d.2.1) e_s_PathTick
def P_s_SessTick : List (Bool × List Sh) := [(true, h_7), (false, [.int .i64])]
def O_s_SessTick (r : (YSess)) : List RV × List RV := ([rv (true, h_7) r], [])
def C_s_SessTick : Fns := [(29, .plain, F_s_l20Copy), (30, .plain, F_s_SessOk), (31, .plain, F_s_l1In), (32, .plain, F_s_Bury), (33, .plain, F_s_ChanTick), (34, .plain, F_s_PathTick)]
def F_s_SessTick : Fun1 := funV P_s_SessTick (fun d => (T_s_SessTick d.1 d.2.1).val) O_s_SessTick
def Q_s_SessTick : Loops := fun _ _ => .fail
theorem e_s_SessTick : ∀ d, pcall ⟨lookT tys, ctrOf C_s_SessTick, kindOf C_s_SessTick, 3, 4⟩ 0 Q_s_SessTick Try.f14 .plain (mkA P_s_SessTick d) = (T_s_SessTick d.1 d.2.1).run fun r => some (O_s_SessTick r) := fun d => by kernel_rfl
theorem fn_s_SessTick : Fn Try.prog 14 .plain F_s_SessTick := fn_of (cfgOk_of mixed tys_ok (show FnsOk Try.prog C_s_SessTick from ⟨fn_s_l20Copy, fn_s_SessOk, fn_s_l1In, fn_s_Bury, fn_s_ChanTick, fn_s_PathTick, trivial⟩)) Try.func14 (by kernel_rfl) (by kernel_rfl) (fun cx b hp hb => all_of (by kernel_rfl : loopsOf (Try.f14.body.getD .skip) = []) trivial b hb) (R := (YSess)) (T := fun (d : aden P_s_SessTick) => T_s_SessTick d.1 d.2.1) e_s_SessTick
def P_i_copyWin : List (Bool × List Sh) := [(true, [.int .i64, .sl 3 [.int .i64]])]
def O_i_copyWin (r : (YWin)) : List RV × List RV := ([rv (true, [.int .i64, .sl 3 [.int .i64]]) r], [])
def C_i_copyWin : Fns := []
def F_i_copyWin : Fun1 := funV P_i_copyWin (fun d => (T_i_copyWin d.1).val) O_i_copyWin
def Q_i_copyWin : Loops := fun _ _ => .fail
theorem e_i_copyWin : ∀ d, pcall ⟨lookT tys, ctrOf C_i_copyWin, kindOf C_i_copyWin, 3, 4⟩ 0 Q_i_copyWin Try.f102 .plain (mkA P_i_copyWin d) = (T_i_copyWin d.1).run fun r => some (O_i_copyWin r) := fun d => by kernel_rfl
theorem fn_i_copyWin : Fn Try.prog 102 .plain F_i_copyWin := fn_of (cfgOk_of mixed tys_ok (show FnsOk Try.prog C_i_copyWin from trivial)) Try.func102 (by kernel_rfl) (by kernel_rfl) (fun cx b hp hb => all_of (by kernel_rfl : loopsOf (Try.f102.body.getD .skip) = []) trivial b hb) (R := (YWin)) (T := fun (d : aden P_i_copyWin) => T_i_copyWin d.1) e_i_copyWin
def P_i_copyEp : List (Bool × List Sh) := [(true, h_3)]
def O_i_copyEp (r : (YEp)) : List RV × List RV := ([rv (true, h_3) r], [])
def C_i_copyEp : Fns := [(51, .plain, F_i_clone), (102, .plain, F_i_copyWin)]
def F_i_copyEp : Fun1 := funV P_i_copyEp (fun d => (T_i_copyEp d.1).val) O_i_copyEp
def Q_i_copyEp : Loops := fun _ _ => .fail
theorem e_i_copyEp : ∀ d, pcall ⟨lookT tys, ctrOf C_i_copyEp, kindOf C_i_copyEp, 3, 4⟩ 0 Q_i_copyEp Try.f88 .plain (mkA P_i_copyEp d) = (T_i_copyEp d.1).run fun r => some (O_i_copyEp r) := fun d => by kernel_rfl
theorem fn_i_copyEp : Fn Try.prog 88 .plain F_i_copyEp := fn_of (cfgOk_of mixed tys_ok (show FnsOk Try.prog C_i_copyEp from ⟨fn_i_clone, fn_i_copyWin, trivial⟩)) Try.func88 (by kernel_rfl) (by kernel_rfl) (fun cx b hp hb => all_of (by kernel_rfl : loopsOf (Try.f88.body.getD .skip) = []) trivial b hb) (R := (YEp)) (T := fun (d : aden P_i_copyEp) => T_i_copyEp d.1) e_i_copyEp
def P_i_copyChan : List (Bool × List Sh) := [(true, h_6)]
def O_i_copyChan (r : (YChan)) : List RV × List RV := ([rv (true, h_6) r], [])
def C_i_copyChan : Fns := [(51, .plain, F_i_clone), (88, .plain, F_i_copyEp)]
def F_i_copyChan : Fun1 := funV P_i_copyChan (fun d => (T_i_copyChan d.1).val) O_i_copyChan
def Q_i_copyChan : Loops := fun _ _ => .fail
theorem e_i_copyChan : ∀ d, pcall ⟨lookT tys, ctrOf C_i_copyChan, kindOf C_i_copyChan, 3, 4⟩ 0 Q_i_copyChan Try.f65 .plain (mkA P_i_copyChan d) = (T_i_copyChan d.1).run fun r => some (O_i_copyChan r) := fun d => by kernel_rfl
theorem fn_i_copyChan : Fn Try.prog 65 .plain F_i_copyChan := fn_of (cfgOk_of mixed tys_ok (show FnsOk Try.prog C_i_copyChan from ⟨fn_i_clone, fn_i_copyEp, trivial⟩)) Try.func65 (by kernel_rfl) (by kernel_rfl) (fun cx b hp hb => all_of (by kernel_rfl : loopsOf (Try.f65.body.getD .skip) = []) trivial b hb) (R := (YChan)) (T := fun (d : aden P_i_copyChan) => T_i_copyChan d.1) e_i_copyChan
def P_i_copyPaths : List (Bool × List Sh) := [(true, h_4)]
def O_i_copyPaths (r : (YPaths)) : List RV × List RV := ([rv (true, h_4) r], [])
def C_i_copyPaths : Fns := [(51, .plain, F_i_clone)]
def F_i_copyPaths : Fun1 := funV P_i_copyPaths (fun d => (T_i_copyPaths d.1).val) O_i_copyPaths
def K_i_copyPaths_3 : Sk := ⟨[(2, .box 2 0), (3, .box 3 0), (10, .v false [(.sl 96 h_1, .ro)]), (11, .v false [(.int .i64, .nil)]), (12, .v false [(.int .i64, .nil)])], [(2, [(.int .i64, .nil), (.int .i64, .nil), (.sl 96 h_1, (.own 4000000))]), (3, [(.int .i64, .nil), (.int .i64, .nil), (.sl 96 h_1, (.own 4000001))])], [4000000, 4000001]⟩
def X_i_copyPaths_3 : List (Ex × Sk) := [((.exit 0), ⟨[(2, .box 2 0), (3, .box 3 0)], [(2, [(.int .i64, .nil), (.int .i64, .nil), (.sl 96 h_1, (.own 4000000))]), (3, [(.int .i64, .nil), (.int .i64, .nil), (.sl 96 h_1, (.own 4000001))])], [4000000, 4000001]⟩)]
def Q_i_copyPaths : Loops := fun i st => cond (Nat.beq i 3) (lam K_i_copyPaths_3 4000000 X_i_copyPaths_3 B_i_copyPaths_3 st) <| .fail
theorem lp_i_copyPaths_3 : ∀ d, bod ⟨lookT tys, ctrOf C_i_copyPaths, kindOf C_i_copyPaths, 3, 4⟩ 0 Try.f66.ntmps Q_i_copyPaths (nthLoop Try.f66 0) K_i_copyPaths_3 4000000 X_i_copyPaths_3 d = B_i_copyPaths_3 d := fun d => by kernel_rfl
theorem lo_i_copyPaths_3 (cx : Cx) (hp : cx.pin.length ≤ 0) : LoopOk Try.prog cx Try.f66.ntmps Q_i_copyPaths (nthLoop Try.f66 0) := loop_of (cfgOk_of mixed tys_ok (show FnsOk Try.prog C_i_copyPaths from ⟨fn_i_clone, trivial⟩)) hp (all_of (by kernel_rfl : loopsOf (nthLoop Try.f66 0) = []) trivial) (by kernel_rfl) lp_i_copyPaths_3
theorem e_i_copyPaths : ∀ d, pcall ⟨lookT tys, ctrOf C_i_copyPaths, kindOf C_i_copyPaths, 3, 4⟩ 0 Q_i_copyPaths Try.f66 .plain (mkA P_i_copyPaths d) = (T_i_copyPaths d.1).run fun r => some (O_i_copyPaths r) := fun d => by kernel_rfl
theorem fn_i_copyPaths : Fn Try.prog 66 .plain F_i_copyPaths := fn_of (cfgOk_of mixed tys_ok (show FnsOk Try.prog C_i_copyPaths from ⟨fn_i_clone, trivial⟩)) Try.func66 (by kernel_rfl) (by kernel_rfl) (fun cx b hp hb => all_of (by kernel_rfl : loopsOf (Try.f66.body.getD .skip) = [nthLoop Try.f66 0]) ⟨lo_i_copyPaths_3 cx hp, trivial⟩ b hb) (R := (YPaths)) (T := fun (d : aden P_i_copyPaths) => T_i_copyPaths d.1) e_i_copyPaths
def P_i_copySess : List (Bool × List Sh) := [(true, h_7)]
def O_i_copySess (r : (YSess)) : List RV × List RV := ([rv (true, h_7) r], [])
def C_i_copySess : Fns := [(51, .plain, F_i_clone), (65, .plain, F_i_copyChan), (66, .plain, F_i_copyPaths)]
def F_i_copySess : Fun1 := funV P_i_copySess (fun d => (T_i_copySess d.1).val) O_i_copySess
def Q_i_copySess : Loops := fun _ _ => .fail
theorem e_i_copySess : ∀ d, pcall ⟨lookT tys, ctrOf C_i_copySess, kindOf C_i_copySess, 3, 4⟩ 0 Q_i_copySess Try.f38 .plain (mkA P_i_copySess d) = (T_i_copySess d.1).run fun r => some (O_i_copySess r) := fun d => by kernel_rfl
theorem fn_i_copySess : Fn Try.prog 38 .plain F_i_copySess := fn_of (cfgOk_of mixed tys_ok (show FnsOk Try.prog C_i_copySess from ⟨fn_i_clone, fn_i_copyChan, fn_i_copyPaths, trivial⟩)) Try.func38 (by kernel_rfl) (by kernel_rfl) (fun cx b hp hb => all_of (by kernel_rfl : loopsOf (Try.f38.body.getD .skip) = []) trivial b hb) (R := (YSess)) (T := fun (d : aden P_i_copySess) => T_i_copySess d.1) e_i_copySess
def P_i_within : List (Bool × List Sh) := [(false, [.int .i64]), (false, [.int .i64]), (false, [.int .i64])]
def O_i_within (r : (Bool × Unit)) : List RV × List RV := ([rv (false, [.bool]) r], [])
def C_i_within : Fns := []
def F_i_within : Fun1 := funV P_i_within (fun d => (T_i_within d.1 d.2.1 d.2.2.1).val) O_i_within
def Q_i_within : Loops := fun _ _ => .fail
theorem e_i_within : ∀ d, pcall ⟨lookT tys, ctrOf C_i_within, kindOf C_i_within, 3, 4⟩ 0 Q_i_within Try.f40 .plain (mkA P_i_within d) = (T_i_within d.1 d.2.1 d.2.2.1).run fun r => some (O_i_within r) := fun d => by kernel_rfl
theorem fn_i_within : Fn Try.prog 40 .plain F_i_within := fn_of (cfgOk_of mixed tys_ok (show FnsOk Try.prog C_i_within from trivial)) Try.func40 (by kernel_rfl) (by kernel_rfl) (fun cx b hp hb => all_of (by kernel_rfl : loopsOf (Try.f40.body.getD .skip) = []) trivial b hb) (R := (Bool × Unit)) (T := fun (d : aden P_i_within) => T_i_within d.1 d.2.1 d.2.2.1) e_i_within
def P_i_isNonce : List (Bool × List Sh) := [(false, [.sl 5 [.int .u8]])]
def O_i_isNonce (r : (Bool × Unit)) : List RV × List RV := ([rv (false, [.bool]) r], [])
def C_i_isNonce : Fns := []
def F_i_isNonce : Fun1 := funV P_i_isNonce (fun d => (T_i_isNonce d.1).val) O_i_isNonce
def Q_i_isNonce : Loops := fun _ _ => .fail
theorem e_i_isNonce : ∀ d, pcall ⟨lookT tys, ctrOf C_i_isNonce, kindOf C_i_isNonce, 3, 4⟩ 0 Q_i_isNonce Try.f67 .plain (mkA P_i_isNonce d) = (T_i_isNonce d.1).run fun r => some (O_i_isNonce r) := fun d => by kernel_rfl
theorem fn_i_isNonce : Fn Try.prog 67 .plain F_i_isNonce := fn_of (cfgOk_of mixed tys_ok (show FnsOk Try.prog C_i_isNonce from trivial)) Try.func67 (by kernel_rfl) (by kernel_rfl) (fun cx b hp hb => all_of (by kernel_rfl : loopsOf (Try.f67.body.getD .skip) = []) trivial b hb) (R := (Bool × Unit)) (T := fun (d : aden P_i_isNonce) => T_i_isNonce d.1) e_i_isNonce
def P_bytes_Equal : List (Bool × List Sh) := [(false, [.sl 5 [.int .u8]]), (false, [.sl 5 [.int .u8]])]
def O_bytes_Equal (r : (Bool × Unit)) : List RV × List RV := ([rv (false, [.bool]) r], [])
def C_bytes_Equal : Fns := []
def F_bytes_Equal : Fun1 := funV P_bytes_Equal (fun d => (T_bytes_Equal d.1 d.2.1).val) O_bytes_Equal
def Q_bytes_Equal : Loops := fun _ _ => .fail
theorem e_bytes_Equal : ∀ d, pcall ⟨lookT tys, ctrOf C_bytes_Equal, kindOf C_bytes_Equal, 3, 4⟩ 0 Q_bytes_Equal Try.f70 .plain (mkA P_bytes_Equal d) = (T_bytes_Equal d.1 d.2.1).run fun r => some (O_bytes_Equal r) := fun d => by kernel_rfl
theorem fn_bytes_Equal : Fn Try.prog 70 .plain F_bytes_Equal := fn_of (cfgOk_of mixed tys_ok (show FnsOk Try.prog C_bytes_Equal from trivial)) Try.func70 (by kernel_rfl) (by kernel_rfl) (fun cx b hp hb => all_of (by kernel_rfl : loopsOf (Try.f70.body.getD .skip) = []) trivial b hb) (R := (Bool × Unit)) (T := fun (d : aden P_bytes_Equal) => T_bytes_Equal d.1 d.2.1) e_bytes_Equal
def P_i_sameInts : List (Bool × List Sh) := [(false, [.sl 3 [.int .i64]]), (false, [.sl 3 [.int .i64]])]
def O_i_sameInts (r : (Bool × Unit)) : List RV × List RV := ([rv (false, [.bool]) r], [])
def C_i_sameInts : Fns := []
def F_i_sameInts : Fun1 := funV P_i_sameInts (fun d => (T_i_sameInts d.1 d.2.1).val) O_i_sameInts
def K_i_sameInts_4 : Sk := ⟨[(1, .v false [(.sl 3 [.int .i64], .ro)]), (12, .v false [(.sl 3 [.int .i64], .ro)]), (13, .v false [(.int .i64, .nil)]), (14, .v false [(.int .i64, .nil)])], [], []⟩
def X_i_sameInts_4 : List (Ex × Sk) := [(.ret, ⟨[(4, .v false [(.bool, .nil)])], [], []⟩), ((.exit 0), ⟨[], [], []⟩)]
def Q_i_sameInts : Loops := fun i st => cond (Nat.beq i 4) (lam K_i_sameInts_4 5000000 X_i_sameInts_4 B_i_sameInts_4 st) <| .fail
theorem lp_i_sameInts_4 : ∀ d, bod ⟨lookT tys, ctrOf C_i_sameInts, kindOf C_i_sameInts, 3, 4⟩ 0 Try.f103.ntmps Q_i_sameInts (nthLoop Try.f103 0) K_i_sameInts_4 5000000 X_i_sameInts_4 d = B_i_sameInts_4 d := fun d => by kernel_rfl
theorem lo_i_sameInts_4 (cx : Cx) (hp : cx.pin.length ≤ 0) : LoopOk Try.prog cx Try.f103.ntmps Q_i_sameInts (nthLoop Try.f103 0) := loop_of (cfgOk_of mixed tys_ok (show FnsOk Try.prog C_i_sameInts from trivial)) hp (all_of (by kernel_rfl : loopsOf (nthLoop Try.f103 0) = []) trivial) (by kernel_rfl) lp_i_sameInts_4
theorem e_i_sameInts : ∀ d, pcall ⟨lookT tys, ctrOf C_i_sameInts, kindOf C_i_sameInts, 3, 4⟩ 0 Q_i_sameInts Try.f103 .plain (mkA P_i_sameInts d) = (T_i_sameInts d.1 d.2.1).run fun r => some (O_i_sameInts r) := fun d => by kernel_rfl
theorem fn_i_sameInts : Fn Try.prog 103 .plain F_i_sameInts := fn_of (cfgOk_of mixed tys_ok (show FnsOk Try.prog C_i_sameInts from trivial)) Try.func103 (by kernel_rfl) (by kernel_rfl) (fun cx b hp hb => all_of (by kernel_rfl : loopsOf (Try.f103.body.getD .skip) = [nthLoop Try.f103 0]) ⟨lo_i_sameInts_4 cx hp, trivial⟩ b hb) (R := (Bool × Unit)) (T := fun (d : aden P_i_sameInts) => T_i_sameInts d.1 d.2.1) e_i_sameInts
def P_i_sameEp : List (Bool × List Sh) := [(true, h_3), (true, h_3)]
def O_i_sameEp (r : (Bool × Unit)) : List RV × List RV := ([rv (false, [.bool]) r], [])
def C_i_sameEp : Fns := [(70, .plain, F_bytes_Equal), (103, .plain, F_i_sameInts)]
def F_i_sameEp : Fun1 := funV P_i_sameEp (fun d => (T_i_sameEp d.1 d.2.1).val) O_i_sameEp
def Q_i_sameEp : Loops := fun _ _ => .fail
theorem e_i_sameEp : ∀ d, pcall ⟨lookT tys, ctrOf C_i_sameEp, kindOf C_i_sameEp, 3, 4⟩ 0 Q_i_sameEp Try.f89 .plain (mkA P_i_sameEp d) = (T_i_sameEp d.1 d.2.1).run fun r => some (O_i_sameEp r) := fun d => by kernel_rfl
theorem fn_i_sameEp : Fn Try.prog 89 .plain F_i_sameEp := fn_of (cfgOk_of mixed tys_ok (show FnsOk Try.prog C_i_sameEp from ⟨fn_bytes_Equal, fn_i_sameInts, trivial⟩)) Try.func89 (by kernel_rfl) (by kernel_rfl) (fun cx b hp hb => all_of (by kernel_rfl : loopsOf (Try.f89.body.getD .skip) = []) trivial b hb) (R := (Bool × Unit)) (T := fun (d : aden P_i_sameEp) => T_i_sameEp d.1 d.2.1) e_i_sameEp
def P_i_isZeroChan : List (Bool × List Sh) := [(true, h_6)]
def O_i_isZeroChan (r : (Bool × Unit)) : List RV × List RV := ([rv (false, [.bool]) r], [])
def C_i_isZeroChan : Fns := [(89, .plain, F_i_sameEp)]
def F_i_isZeroChan : Fun1 := funV P_i_isZeroChan (fun d => (T_i_isZeroChan d.1).val) O_i_isZeroChan
def Q_i_isZeroChan : Loops := fun _ _ => .fail
theorem e_i_isZeroChan : ∀ d, pcall ⟨lookT tys, ctrOf C_i_isZeroChan, kindOf C_i_isZeroChan, 3, 4⟩ 0 Q_i_isZeroChan Try.f68 .plain (mkA P_i_isZeroChan d) = (T_i_isZeroChan d.1).run fun r => some (O_i_isZeroChan r) := fun d => by kernel_rfl
theorem fn_i_isZeroChan : Fn Try.prog 68 .plain F_i_isZeroChan := fn_of (cfgOk_of mixed tys_ok (show FnsOk Try.prog C_i_isZeroChan from ⟨fn_i_sameEp, trivial⟩)) Try.func68 (by kernel_rfl) (by kernel_rfl) (fun cx b hp hb => all_of (by kernel_rfl : loopsOf (Try.f68.body.getD .skip) = []) trivial b hb) (R := (Bool × Unit)) (T := fun (d : aden P_i_isZeroChan) => T_i_isZeroChan d.1) e_i_isZeroChan
def P_i_isRole : List (Bool × List Sh) := [(false, [.int .i64])]
def O_i_isRole (r : (Bool × Unit)) : List RV × List RV := ([rv (false, [.bool]) r], [])
def C_i_isRole : Fns := []
def F_i_isRole : Fun1 := funV P_i_isRole (fun d => (T_i_isRole d.1).val) O_i_isRole
def Q_i_isRole : Loops := fun _ _ => .fail
theorem e_i_isRole : ∀ d, pcall ⟨lookT tys, ctrOf C_i_isRole, kindOf C_i_isRole, 3, 4⟩ 0 Q_i_isRole Try.f90 .plain (mkA P_i_isRole d) = (T_i_isRole d.1).run fun r => some (O_i_isRole r) := fun d => by kernel_rfl
theorem fn_i_isRole : Fn Try.prog 90 .plain F_i_isRole := fn_of (cfgOk_of mixed tys_ok (show FnsOk Try.prog C_i_isRole from trivial)) Try.func90 (by kernel_rfl) (by kernel_rfl) (fun cx b hp hb => all_of (by kernel_rfl : loopsOf (Try.f90.body.getD .skip) = []) trivial b hb) (R := (Bool × Unit)) (T := fun (d : aden P_i_isRole) => T_i_isRole d.1) e_i_isRole
def P_i_areWords : List (Bool × List Sh) := [(false, [.sl 3 [.int .i64]]), (false, [.int .i64])]
def O_i_areWords (r : (Bool × Unit)) : List RV × List RV := ([rv (false, [.bool]) r], [])
def C_i_areWords : Fns := [(40, .plain, F_i_within)]
def F_i_areWords : Fun1 := funV P_i_areWords (fun d => (T_i_areWords d.1 d.2.1).val) O_i_areWords
def K_i_areWords_2 : Sk := ⟨[(0, .v false [(.sl 3 [.int .i64], .ro)]), (1, .v false [(.int .i64, .nil)]), (7, .v false [(.sl 3 [.int .i64], .ro)]), (8, .v false [(.int .i64, .nil)]), (9, .v false [(.int .i64, .nil)])], [], []⟩
def X_i_areWords_2 : List (Ex × Sk) := [(.ret, ⟨[(4, .v false [(.bool, .nil)])], [], []⟩), ((.exit 0), ⟨[(0, .v false [(.sl 3 [.int .i64], .ro)]), (1, .v false [(.int .i64, .nil)])], [], []⟩)]
def Q_i_areWords : Loops := fun i st => cond (Nat.beq i 2) (lam K_i_areWords_2 3000000 X_i_areWords_2 B_i_areWords_2 st) <| .fail
theorem lp_i_areWords_2 : ∀ d, bod ⟨lookT tys, ctrOf C_i_areWords, kindOf C_i_areWords, 3, 4⟩ 0 Try.f109.ntmps Q_i_areWords (nthLoop Try.f109 0) K_i_areWords_2 3000000 X_i_areWords_2 d = B_i_areWords_2 d := fun d => by kernel_rfl
theorem lo_i_areWords_2 (cx : Cx) (hp : cx.pin.length ≤ 0) : LoopOk Try.prog cx Try.f109.ntmps Q_i_areWords (nthLoop Try.f109 0) := loop_of (cfgOk_of mixed tys_ok (show FnsOk Try.prog C_i_areWords from ⟨fn_i_within, trivial⟩)) hp (all_of (by kernel_rfl : loopsOf (nthLoop Try.f109 0) = []) trivial) (by kernel_rfl) lp_i_areWords_2
theorem e_i_areWords : ∀ d, pcall ⟨lookT tys, ctrOf C_i_areWords, kindOf C_i_areWords, 3, 4⟩ 0 Q_i_areWords Try.f109 .plain (mkA P_i_areWords d) = (T_i_areWords d.1 d.2.1).run fun r => some (O_i_areWords r) := fun d => by kernel_rfl
theorem fn_i_areWords : Fn Try.prog 109 .plain F_i_areWords := fn_of (cfgOk_of mixed tys_ok (show FnsOk Try.prog C_i_areWords from ⟨fn_i_within, trivial⟩)) Try.func109 (by kernel_rfl) (by kernel_rfl) (fun cx b hp hb => all_of (by kernel_rfl : loopsOf (Try.f109.body.getD .skip) = [nthLoop Try.f109 0]) ⟨lo_i_areWords_2 cx hp, trivial⟩ b hb) (R := (Bool × Unit)) (T := fun (d : aden P_i_areWords) => T_i_areWords d.1 d.2.1) e_i_areWords
def P_i_hasBit : List (Bool × List Sh) := [(true, [.int .i64, .sl 3 [.int .i64]]), (false, [.int .i64])]
def O_i_hasBit (r : (Bool × Unit)) : List RV × List RV := ([rv (false, [.bool]) r], [])
def C_i_hasBit : Fns := []
def F_i_hasBit : Fun1 := funV P_i_hasBit (fun d => (T_i_hasBit d.1 d.2.1).val) O_i_hasBit
def Q_i_hasBit : Loops := fun _ _ => .fail
theorem e_i_hasBit : ∀ d, pcall ⟨lookT tys, ctrOf C_i_hasBit, kindOf C_i_hasBit, 3, 4⟩ 0 Q_i_hasBit Try.f110 .plain (mkA P_i_hasBit d) = (T_i_hasBit d.1 d.2.1).run fun r => some (O_i_hasBit r) := fun d => by kernel_rfl
theorem fn_i_hasBit : Fn Try.prog 110 .plain F_i_hasBit := fn_of (cfgOk_of mixed tys_ok (show FnsOk Try.prog C_i_hasBit from trivial)) Try.func110 (by kernel_rfl) (by kernel_rfl) (fun cx b hp hb => all_of (by kernel_rfl : loopsOf (Try.f110.body.getD .skip) = []) trivial b hb) (R := (Bool × Unit)) (T := fun (d : aden P_i_hasBit) => T_i_hasBit d.1 d.2.1) e_i_hasBit
def P_i_WinOk : List (Bool × List Sh) := [(true, [.int .i64, .sl 3 [.int .i64]])]
def O_i_WinOk (r : (Bool × Unit)) : List RV × List RV := ([rv (false, [.bool]) r], [])
def C_i_WinOk : Fns := [(40, .plain, F_i_within), (109, .plain, F_i_areWords), (110, .plain, F_i_hasBit)]
def F_i_WinOk : Fun1 := funV P_i_WinOk (fun d => (T_i_WinOk d.1).val) O_i_WinOk
def K_i_WinOk_4 : Sk := ⟨[(1, .box 1 0), (3, .v false [(.int .i64, .nil)])], [(1, [(.int .i64, .nil), (.sl 3 [.int .i64], .ro)])], []⟩
def X_i_WinOk_4 : List (Ex × Sk) := [(.ret, ⟨[(2, .v false [(.bool, .nil)])], [], []⟩), ((.exit 0), ⟨[(1, .box 1 0)], [(1, [(.int .i64, .nil), (.sl 3 [.int .i64], .ro)])], []⟩)]
def Q_i_WinOk : Loops := fun i st => cond (Nat.beq i 4) (lam K_i_WinOk_4 5000000 X_i_WinOk_4 B_i_WinOk_4 st) <| .fail
theorem lp_i_WinOk_4 : ∀ d, bod ⟨lookT tys, ctrOf C_i_WinOk, kindOf C_i_WinOk, 3, 4⟩ 0 Try.f104.ntmps Q_i_WinOk (nthLoop Try.f104 0) K_i_WinOk_4 5000000 X_i_WinOk_4 d = B_i_WinOk_4 d := fun d => by kernel_rfl
theorem lo_i_WinOk_4 (cx : Cx) (hp : cx.pin.length ≤ 0) : LoopOk Try.prog cx Try.f104.ntmps Q_i_WinOk (nthLoop Try.f104 0) := loop_of (cfgOk_of mixed tys_ok (show FnsOk Try.prog C_i_WinOk from ⟨fn_i_within, fn_i_areWords, fn_i_hasBit, trivial⟩)) hp (all_of (by kernel_rfl : loopsOf (nthLoop Try.f104 0) = []) trivial) (by kernel_rfl) lp_i_WinOk_4
theorem e_i_WinOk : ∀ d, pcall ⟨lookT tys, ctrOf C_i_WinOk, kindOf C_i_WinOk, 3, 4⟩ 0 Q_i_WinOk Try.f104 .plain (mkA P_i_WinOk d) = (T_i_WinOk d.1).run fun r => some (O_i_WinOk r) := fun d => by kernel_rfl
theorem fn_i_WinOk : Fn Try.prog 104 .plain F_i_WinOk := fn_of (cfgOk_of mixed tys_ok (show FnsOk Try.prog C_i_WinOk from ⟨fn_i_within, fn_i_areWords, fn_i_hasBit, trivial⟩)) Try.func104 (by kernel_rfl) (by kernel_rfl) (fun cx b hp hb => all_of (by kernel_rfl : loopsOf (Try.f104.body.getD .skip) = [nthLoop Try.f104 0]) ⟨lo_i_WinOk_4 cx hp, trivial⟩ b hb) (R := (Bool × Unit)) (T := fun (d : aden P_i_WinOk) => T_i_WinOk d.1) e_i_WinOk
def P_i_EpOk : List (Bool × List Sh) := [(true, h_3)]
def O_i_EpOk (r : (Bool × Unit)) : List RV × List RV := ([rv (false, [.bool]) r], [])
def C_i_EpOk : Fns := [(40, .plain, F_i_within), (104, .plain, F_i_WinOk)]
def F_i_EpOk : Fun1 := funV P_i_EpOk (fun d => (T_i_EpOk d.1).val) O_i_EpOk
def Q_i_EpOk : Loops := fun _ _ => .fail
theorem e_i_EpOk : ∀ d, pcall ⟨lookT tys, ctrOf C_i_EpOk, kindOf C_i_EpOk, 3, 4⟩ 0 Q_i_EpOk Try.f91 .plain (mkA P_i_EpOk d) = (T_i_EpOk d.1).run fun r => some (O_i_EpOk r) := fun d => by kernel_rfl
theorem fn_i_EpOk : Fn Try.prog 91 .plain F_i_EpOk := fn_of (cfgOk_of mixed tys_ok (show FnsOk Try.prog C_i_EpOk from ⟨fn_i_within, fn_i_WinOk, trivial⟩)) Try.func91 (by kernel_rfl) (by kernel_rfl) (fun cx b hp hb => all_of (by kernel_rfl : loopsOf (Try.f91.body.getD .skip) = []) trivial b hb) (R := (Bool × Unit)) (T := fun (d : aden P_i_EpOk) => T_i_EpOk d.1) e_i_EpOk
def P_i_oldOk : List (Bool × List Sh) := [(true, h_6)]
def O_i_oldOk (r : (Bool × Unit)) : List RV × List RV := ([rv (false, [.bool]) r], [])
def C_i_oldOk : Fns := [(89, .plain, F_i_sameEp), (91, .plain, F_i_EpOk), (40, .plain, F_i_within)]
def F_i_oldOk : Fun1 := funV P_i_oldOk (fun d => (T_i_oldOk d.1).val) O_i_oldOk
def Q_i_oldOk : Loops := fun _ _ => .fail
theorem e_i_oldOk : ∀ d, pcall ⟨lookT tys, ctrOf C_i_oldOk, kindOf C_i_oldOk, 3, 4⟩ 0 Q_i_oldOk Try.f92 .plain (mkA P_i_oldOk d) = (T_i_oldOk d.1).run fun r => some (O_i_oldOk r) := fun d => by kernel_rfl
theorem fn_i_oldOk : Fn Try.prog 92 .plain F_i_oldOk := fn_of (cfgOk_of mixed tys_ok (show FnsOk Try.prog C_i_oldOk from ⟨fn_i_sameEp, fn_i_EpOk, fn_i_within, trivial⟩)) Try.func92 (by kernel_rfl) (by kernel_rfl) (fun cx b hp hb => all_of (by kernel_rfl : loopsOf (Try.f92.body.getD .skip) = []) trivial b hb) (R := (Bool × Unit)) (T := fun (d : aden P_i_oldOk) => T_i_oldOk d.1) e_i_oldOk
def P_i_ChanOk : List (Bool × List Sh) := [(true, h_6)]
def O_i_ChanOk (r : (Bool × Unit)) : List RV × List RV := ([rv (false, [.bool]) r], [])
def C_i_ChanOk : Fns := [(90, .plain, F_i_isRole), (67, .plain, F_i_isNonce), (91, .plain, F_i_EpOk), (92, .plain, F_i_oldOk)]
def F_i_ChanOk : Fun1 := funV P_i_ChanOk (fun d => (T_i_ChanOk d.1).val) O_i_ChanOk
def Q_i_ChanOk : Loops := fun _ _ => .fail
theorem e_i_ChanOk : ∀ d, pcall ⟨lookT tys, ctrOf C_i_ChanOk, kindOf C_i_ChanOk, 3, 4⟩ 0 Q_i_ChanOk Try.f69 .plain (mkA P_i_ChanOk d) = (T_i_ChanOk d.1).run fun r => some (O_i_ChanOk r) := fun d => by kernel_rfl
theorem fn_i_ChanOk : Fn Try.prog 69 .plain F_i_ChanOk := fn_of (cfgOk_of mixed tys_ok (show FnsOk Try.prog C_i_ChanOk from ⟨fn_i_isRole, fn_i_isNonce, fn_i_EpOk, fn_i_oldOk, trivial⟩)) Try.func69 (by kernel_rfl) (by kernel_rfl) (fun cx b hp hb => all_of (by kernel_rfl : loopsOf (Try.f69.body.getD .skip) = []) trivial b hb) (R := (Bool × Unit)) (T := fun (d : aden P_i_ChanOk) => T_i_ChanOk d.1) e_i_ChanOk
def P_i_AddrOk : List (Bool × List Sh) := [(true, [.int .i64, .int .i64])]
def O_i_AddrOk (r : (Bool × Unit)) : List RV × List RV := ([rv (false, [.bool]) r], [])
def C_i_AddrOk : Fns := [(40, .plain, F_i_within)]
def F_i_AddrOk : Fun1 := funV P_i_AddrOk (fun d => (T_i_AddrOk d.1).val) O_i_AddrOk
def Q_i_AddrOk : Loops := fun _ _ => .fail
theorem e_i_AddrOk : ∀ d, pcall ⟨lookT tys, ctrOf C_i_AddrOk, kindOf C_i_AddrOk, 3, 4⟩ 0 Q_i_AddrOk Try.f93 .plain (mkA P_i_AddrOk d) = (T_i_AddrOk d.1).run fun r => some (O_i_AddrOk r) := fun d => by kernel_rfl
theorem fn_i_AddrOk : Fn Try.prog 93 .plain F_i_AddrOk := fn_of (cfgOk_of mixed tys_ok (show FnsOk Try.prog C_i_AddrOk from ⟨fn_i_within, trivial⟩)) Try.func93 (by kernel_rfl) (by kernel_rfl) (fun cx b hp hb => all_of (by kernel_rfl : loopsOf (Try.f93.body.getD .skip) = []) trivial b hb) (R := (Bool × Unit)) (T := fun (d : aden P_i_AddrOk) => T_i_AddrOk d.1) e_i_AddrOk
def P_i_PathsOk : List (Bool × List Sh) := [(true, h_4)]
def O_i_PathsOk (r : (Bool × Unit)) : List RV × List RV := ([rv (false, [.bool]) r], [])
def C_i_PathsOk : Fns := [(93, .plain, F_i_AddrOk), (67, .plain, F_i_isNonce), (40, .plain, F_i_within)]
def F_i_PathsOk : Fun1 := funV P_i_PathsOk (fun d => (T_i_PathsOk d.1).val) O_i_PathsOk
def K_i_PathsOk_4 : Sk := ⟨[(1, .box 1 0), (18, .v false [(.sl 96 h_1, .ro)]), (19, .v false [(.int .i64, .nil)]), (20, .v false [(.int .i64, .nil)])], [(1, [(.int .i64, .nil), (.int .i64, .nil), (.sl 96 h_1, .ro)])], []⟩
def X_i_PathsOk_4 : List (Ex × Sk) := [(.ret, ⟨[(2, .v false [(.bool, .nil)])], [], []⟩), ((.exit 0), ⟨[], [], []⟩)]
def K_i_PathsOk_9 : Sk := ⟨[(1, .box 1 0), (4, .box 4 0), (18, .v false [(.sl 96 h_1, .ro)]), (19, .v false [(.int .i64, .nil)]), (20, .v false [(.int .i64, .nil)]), (51, .v false [(.sl 96 h_1, .ro)]), (52, .v false [(.int .i64, .nil)]), (53, .v false [(.int .i64, .nil)])], [(1, [(.int .i64, .nil), (.int .i64, .nil), (.sl 96 h_1, .ro)]), (4, [(.int .i64, .nil), (.int .i64, .nil), (.sl 5 [.int .u8], .ro), (.int .i64, .nil)])], []⟩
def X_i_PathsOk_9 : List (Ex × Sk) := [(.ret, ⟨[(2, .v false [(.bool, .nil)])], [], []⟩), ((.exit 2), ⟨[(1, .box 1 0), (18, .v false [(.sl 96 h_1, .ro)]), (19, .v false [(.int .i64, .nil)]), (20, .v false [(.int .i64, .nil)])], [(1, [(.int .i64, .nil), (.int .i64, .nil), (.sl 96 h_1, .ro)])], []⟩)]
def Q_i_PathsOk : Loops := fun i st => cond (Nat.beq i 9) (lam K_i_PathsOk_9 10000000 X_i_PathsOk_9 B_i_PathsOk_9 st) <| cond (Nat.beq i 4) (lam K_i_PathsOk_4 5000000 X_i_PathsOk_4 B_i_PathsOk_4 st) <| .fail
theorem lp_i_PathsOk_9 : ∀ d, bod ⟨lookT tys, ctrOf C_i_PathsOk, kindOf C_i_PathsOk, 3, 4⟩ 0 Try.f71.ntmps Q_i_PathsOk (nthLoop Try.f71 1) K_i_PathsOk_9 10000000 X_i_PathsOk_9 d = B_i_PathsOk_9 d := fun d => by kernel_rfl
theorem lo_i_PathsOk_9 (cx : Cx) (hp : cx.pin.length ≤ 0) : LoopOk Try.prog cx Try.f71.ntmps Q_i_PathsOk (nthLoop Try.f71 1) := loop_of (cfgOk_of mixed tys_ok (show FnsOk Try.prog C_i_PathsOk from ⟨fn_i_AddrOk, fn_i_isNonce, fn_i_within, trivial⟩)) hp (all_of (by kernel_rfl : loopsOf (nthLoop Try.f71 1) = []) trivial) (by kernel_rfl) lp_i_PathsOk_9
theorem lp_i_PathsOk_4 : ∀ d, bod ⟨lookT tys, ctrOf C_i_PathsOk, kindOf C_i_PathsOk, 3, 4⟩ 0 Try.f71.ntmps Q_i_PathsOk (nthLoop Try.f71 0) K_i_PathsOk_4 5000000 X_i_PathsOk_4 d = B_i_PathsOk_4 d := fun d => by kernel_rfl
theorem lo_i_PathsOk_4 (cx : Cx) (hp : cx.pin.length ≤ 0) : LoopOk Try.prog cx Try.f71.ntmps Q_i_PathsOk (nthLoop Try.f71 0) := loop_of (cfgOk_of mixed tys_ok (show FnsOk Try.prog C_i_PathsOk from ⟨fn_i_AddrOk, fn_i_isNonce, fn_i_within, trivial⟩)) hp (all_of (by kernel_rfl : loopsOf (nthLoop Try.f71 0) = [nthLoop Try.f71 1]) ⟨lo_i_PathsOk_9 cx hp, trivial⟩) (by kernel_rfl) lp_i_PathsOk_4
theorem e_i_PathsOk : ∀ d, pcall ⟨lookT tys, ctrOf C_i_PathsOk, kindOf C_i_PathsOk, 3, 4⟩ 0 Q_i_PathsOk Try.f71 .plain (mkA P_i_PathsOk d) = (T_i_PathsOk d.1).run fun r => some (O_i_PathsOk r) := fun d => by kernel_rfl
theorem fn_i_PathsOk : Fn Try.prog 71 .plain F_i_PathsOk := fn_of (cfgOk_of mixed tys_ok (show FnsOk Try.prog C_i_PathsOk from ⟨fn_i_AddrOk, fn_i_isNonce, fn_i_within, trivial⟩)) Try.func71 (by kernel_rfl) (by kernel_rfl) (fun cx b hp hb => all_of (by kernel_rfl : loopsOf (Try.f71.body.getD .skip) = [nthLoop Try.f71 0]) ⟨lo_i_PathsOk_4 cx hp, trivial⟩ b hb) (R := (Bool × Unit)) (T := fun (d : aden P_i_PathsOk) => T_i_PathsOk d.1) e_i_PathsOk
def P_i_SessOk : List (Bool × List Sh) := [(true, h_7)]
def O_i_SessOk (r : (Bool × Unit)) : List RV × List RV := ([rv (false, [.bool]) r], [])
def C_i_SessOk : Fns := [(40, .plain, F_i_within), (67, .plain, F_i_isNonce), (68, .plain, F_i_isZeroChan), (69, .plain, F_i_ChanOk), (70, .plain, F_bytes_Equal), (71, .plain, F_i_PathsOk)]
def F_i_SessOk : Fun1 := funV P_i_SessOk (fun d => (T_i_SessOk d.1).val) O_i_SessOk
def Q_i_SessOk : Loops := fun _ _ => .fail
theorem e_i_SessOk : ∀ d, pcall ⟨lookT tys, ctrOf C_i_SessOk, kindOf C_i_SessOk, 3, 4⟩ 0 Q_i_SessOk Try.f39 .plain (mkA P_i_SessOk d) = (T_i_SessOk d.1).run fun r => some (O_i_SessOk r) := fun d => by kernel_rfl
theorem fn_i_SessOk : Fn Try.prog 39 .plain F_i_SessOk := fn_of (cfgOk_of mixed tys_ok (show FnsOk Try.prog C_i_SessOk from ⟨fn_i_within, fn_i_isNonce, fn_i_isZeroChan, fn_i_ChanOk, fn_bytes_Equal, fn_i_PathsOk, trivial⟩)) Try.func39 (by kernel_rfl) (by kernel_rfl) (fun cx b hp hb => all_of (by kernel_rfl : loopsOf (Try.f39.body.getD .skip) = []) trivial b hb) (R := (Bool × Unit)) (T := fun (d : aden P_i_SessOk) => T_i_SessOk d.1) e_i_SessOk
def P_i_Bury : List (Bool × List Sh) := [(true, h_7)]
def O_i_Bury (r : (YSess)) : List RV × List RV := ([rv (true, h_7) r], [])
def C_i_Bury : Fns := [(39, .plain, F_i_SessOk), (38, .plain, F_i_copySess), (51, .plain, F_i_clone)]
def F_i_Bury : Fun1 := funV P_i_Bury (fun d => (T_i_Bury d.1).val) O_i_Bury
def Q_i_Bury : Loops := fun _ _ => .fail
theorem e_i_Bury : ∀ d, pcall ⟨lookT tys, ctrOf C_i_Bury, kindOf C_i_Bury, 3, 4⟩ 0 Q_i_Bury Try.f41 .plain (mkA P_i_Bury d) = (T_i_Bury d.1).run fun r => some (O_i_Bury r) := fun d => by kernel_rfl
theorem fn_i_Bury : Fn Try.prog 41 .plain F_i_Bury := fn_of (cfgOk_of mixed tys_ok (show FnsOk Try.prog C_i_Bury from ⟨fn_i_SessOk, fn_i_copySess, fn_i_clone, trivial⟩)) Try.func41 (by kernel_rfl) (by kernel_rfl) (fun cx b hp hb => all_of (by kernel_rfl : loopsOf (Try.f41.body.getD .skip) = []) trivial b hb) (R := (YSess)) (T := fun (d : aden P_i_Bury) => T_i_Bury d.1) e_i_Bury
def P_i_ChanTick : List (Bool × List Sh) := [(true, h_6), (false, [.int .i64])]
def O_i_ChanTick (r : (YChan)) : List RV × List RV := ([rv (true, h_6) r], [])
def C_i_ChanTick : Fns := [(65, .plain, F_i_copyChan), (69, .plain, F_i_ChanOk), (40, .plain, F_i_within)]
def F_i_ChanTick : Fun1 := funV P_i_ChanTick (fun d => (T_i_ChanTick d.1 d.2.1).val) O_i_ChanTick
def Q_i_ChanTick : Loops := fun _ _ => .fail
theorem e_i_ChanTick : ∀ d, pcall ⟨lookT tys, ctrOf C_i_ChanTick, kindOf C_i_ChanTick, 3, 4⟩ 0 Q_i_ChanTick Try.f42 .plain (mkA P_i_ChanTick d) = (T_i_ChanTick d.1 d.2.1).run fun r => some (O_i_ChanTick r) := fun d => by kernel_rfl
theorem fn_i_ChanTick : Fn Try.prog 42 .plain F_i_ChanTick := fn_of (cfgOk_of mixed tys_ok (show FnsOk Try.prog C_i_ChanTick from ⟨fn_i_copyChan, fn_i_ChanOk, fn_i_within, trivial⟩)) Try.func42 (by kernel_rfl) (by kernel_rfl) (fun cx b hp hb => all_of (by kernel_rfl : loopsOf (Try.f42.body.getD .skip) = []) trivial b hb) (R := (YChan)) (T := fun (d : aden P_i_ChanTick) => T_i_ChanTick d.1 d.2.1) e_i_ChanTick
def P_i_withoutExpired : List (Bool × List Sh) := [(true, h_4), (false, [.int .i64])]
def O_i_withoutExpired (r : (YPaths)) : List RV × List RV := ([rv (true, h_4) r], [])
def C_i_withoutExpired : Fns := [(66, .plain, F_i_copyPaths)]
def F_i_withoutExpired : Fun1 := funV P_i_withoutExpired (fun d => (T_i_withoutExpired d.1 d.2.1).val) O_i_withoutExpired
def K_i_withoutExpired_3 : Sk := ⟨[(1, .v false [(.int .i64, .nil)]), (4, .box 4 0), (5, .box 5 0), (13, .v false [(.sl 96 h_1, (.own 4000000))]), (14, .v false [(.int .i64, .nil)]), (15, .v false [(.int .i64, .nil)])], [(4, [(.int .i64, .nil), (.int .i64, .nil), (.sl 96 h_1, (.own 4000001))]), (5, [(.int .i64, .nil), (.int .i64, .nil), (.sl 96 h_1, (.own 4000002))])], [4000000, 4000001, 4000002]⟩
def X_i_withoutExpired_3 : List (Ex × Sk) := [((.exit 0), ⟨[(4, .box 4 0), (5, .box 5 0)], [(4, [(.int .i64, .nil), (.int .i64, .nil), (.sl 96 h_1, (.own 4000000))]), (5, [(.int .i64, .nil), (.int .i64, .nil), (.sl 96 h_1, (.own 4000001))])], [4000000, 4000001]⟩)]
def Q_i_withoutExpired : Loops := fun i st => cond (Nat.beq i 3) (lam K_i_withoutExpired_3 4000000 X_i_withoutExpired_3 B_i_withoutExpired_3 st) <| .fail
theorem lp_i_withoutExpired_3 : ∀ d, bod2 ⟨lookT tys, ctrOf C_i_withoutExpired, kindOf C_i_withoutExpired, 3, 4⟩ 0 Try.f72.ntmps Q_i_withoutExpired (nthLoop Try.f72 0) K_i_withoutExpired_3 4000000 X_i_withoutExpired_3 13 15 4500000 d = B_i_withoutExpired_3 d := fun d => by kernel_rfl
theorem lo_i_withoutExpired_3 (cx : Cx) (hp : cx.pin.length ≤ 0) : LoopOk Try.prog cx Try.f72.ntmps Q_i_withoutExpired (nthLoop Try.f72 0) := loop_of2 (cfgOk_of mixed tys_ok (show FnsOk Try.prog C_i_withoutExpired from ⟨fn_i_copyPaths, trivial⟩)) hp (all_of (by kernel_rfl : loopsOf (nthLoop Try.f72 0) = []) trivial) 13 15 4500000 (by kernel_rfl) (by kernel_rfl) lp_i_withoutExpired_3
theorem e_i_withoutExpired : ∀ d, pcall ⟨lookT tys, ctrOf C_i_withoutExpired, kindOf C_i_withoutExpired, 3, 4⟩ 0 Q_i_withoutExpired Try.f72 .plain (mkA P_i_withoutExpired d) = (T_i_withoutExpired d.1 d.2.1).run fun r => some (O_i_withoutExpired r) := fun d => by kernel_rfl
theorem fn_i_withoutExpired : Fn Try.prog 72 .plain F_i_withoutExpired := fn_of (cfgOk_of mixed tys_ok (show FnsOk Try.prog C_i_withoutExpired from ⟨fn_i_copyPaths, trivial⟩)) Try.func72 (by kernel_rfl) (by kernel_rfl) (fun cx b hp hb => all_of (by kernel_rfl : loopsOf (Try.f72.body.getD .skip) = [nthLoop Try.f72 0]) ⟨lo_i_withoutExpired_3 cx hp, trivial⟩ b hb) (R := (YPaths)) (T := fun (d : aden P_i_withoutExpired) => T_i_withoutExpired d.1 d.2.1) e_i_withoutExpired
def P_i_PathTick : List (Bool × List Sh) := [(true, h_4), (false, [.int .i64])]
def O_i_PathTick (r : (YPaths)) : List RV × List RV := ([rv (true, h_4) r], [])
def C_i_PathTick : Fns := [(71, .plain, F_i_PathsOk), (40, .plain, F_i_within), (66, .plain, F_i_copyPaths), (72, .plain, F_i_withoutExpired)]
def F_i_PathTick : Fun1 := funV P_i_PathTick (fun d => (T_i_PathTick d.1 d.2.1).val) O_i_PathTick
def Q_i_PathTick : Loops := fun _ _ => .fail
theorem e_i_PathTick : ∀ d, pcall ⟨lookT tys, ctrOf C_i_PathTick, kindOf C_i_PathTick, 3, 4⟩ 0 Q_i_PathTick Try.f43 .plain (mkA P_i_PathTick d) = (T_i_PathTick d.1 d.2.1).run fun r => some (O_i_PathTick r) := fun d => by kernel_rfl
theorem fn_i_PathTick : Fn Try.prog 43 .plain F_i_PathTick := fn_of (cfgOk_of mixed tys_ok (show FnsOk Try.prog C_i_PathTick from ⟨fn_i_PathsOk, fn_i_within, fn_i_copyPaths, fn_i_withoutExpired, trivial⟩)) Try.func43 (by kernel_rfl) (by kernel_rfl) (fun cx b hp hb => all_of (by kernel_rfl : loopsOf (Try.f43.body.getD .skip) = []) trivial b hb) (R := (YPaths)) (T := fun (d : aden P_i_PathTick) => T_i_PathTick d.1 d.2.1) e_i_PathTick
def P_i_SessTick : List (Bool × List Sh) := [(true, h_7), (false, [.int .i64])]
def O_i_SessTick (r : (YSess)) : List RV × List RV := ([rv (true, h_7) r], [])
def C_i_SessTick : Fns := [(38, .plain, F_i_copySess), (39, .plain, F_i_SessOk), (40, .plain, F_i_within), (41, .plain, F_i_Bury), (42, .plain, F_i_ChanTick), (43, .plain, F_i_PathTick)]
def F_i_SessTick : Fun1 := funV P_i_SessTick (fun d => (T_i_SessTick d.1 d.2.1).val) O_i_SessTick
def Q_i_SessTick : Loops := fun _ _ => .fail
theorem e_i_SessTick : ∀ d, pcall ⟨lookT tys, ctrOf C_i_SessTick, kindOf C_i_SessTick, 3, 4⟩ 0 Q_i_SessTick Try.f16 .plain (mkA P_i_SessTick d) = (T_i_SessTick d.1 d.2.1).run fun r => some (O_i_SessTick r) := fun d => by kernel_rfl
theorem fn_i_SessTick : Fn Try.prog 16 .plain F_i_SessTick := fn_of (cfgOk_of mixed tys_ok (show FnsOk Try.prog C_i_SessTick from ⟨fn_i_copySess, fn_i_SessOk, fn_i_within, fn_i_Bury, fn_i_ChanTick, fn_i_PathTick, trivial⟩)) Try.func16 (by kernel_rfl) (by kernel_rfl) (fun cx b hp hb => all_of (by kernel_rfl : loopsOf (Try.f16.body.getD .skip) = []) trivial b hb) (R := (YSess)) (T := fun (d : aden P_i_SessTick) => T_i_SessTick d.1 d.2.1) e_i_SessTick
def P_l_eqIntS : List (Bool × List Sh) := [(false, [.sl 3 [.int .i64]]), (false, [.sl 3 [.int .i64]])]
def O_l_eqIntS (r : (Bool × Unit)) : List RV × List RV := ([rv (false, [.bool]) r], [])
def C_l_eqIntS : Fns := []
def F_l_eqIntS : Fun1 := funV P_l_eqIntS (fun d => (T_l_eqIntS d.1 d.2.1).val) O_l_eqIntS
def K_l_eqIntS_4 : Sk := ⟨[(0, .v false [(.sl 3 [.int .i64], .ro)]), (1, .v false [(.sl 3 [.int .i64], .ro)]), (5, .v false [(.int .i64, .nil)])], [], []⟩
def X_l_eqIntS_4 : List (Ex × Sk) := [(.ret, ⟨[(4, .v false [(.bool, .nil)])], [], []⟩), ((.exit 0), ⟨[], [], []⟩)]
def Q_l_eqIntS : Loops := fun i st => cond (Nat.beq i 4) (lam K_l_eqIntS_4 5000000 X_l_eqIntS_4 B_l_eqIntS_4 st) <| .fail
theorem lp_l_eqIntS_4 : ∀ d, bod ⟨lookT tys, ctrOf C_l_eqIntS, kindOf C_l_eqIntS, 3, 4⟩ 0 Try.f105.ntmps Q_l_eqIntS (nthLoop Try.f105 0) K_l_eqIntS_4 5000000 X_l_eqIntS_4 d = B_l_eqIntS_4 d := fun d => by kernel_rfl
theorem lo_l_eqIntS_4 (cx : Cx) (hp : cx.pin.length ≤ 0) : LoopOk Try.prog cx Try.f105.ntmps Q_l_eqIntS (nthLoop Try.f105 0) := loop_of (cfgOk_of mixed tys_ok (show FnsOk Try.prog C_l_eqIntS from trivial)) hp (all_of (by kernel_rfl : loopsOf (nthLoop Try.f105 0) = []) trivial) (by kernel_rfl) lp_l_eqIntS_4
theorem e_l_eqIntS : ∀ d, pcall ⟨lookT tys, ctrOf C_l_eqIntS, kindOf C_l_eqIntS, 3, 4⟩ 0 Q_l_eqIntS Try.f105 .plain (mkA P_l_eqIntS d) = (T_l_eqIntS d.1 d.2.1).run fun r => some (O_l_eqIntS r) := fun d => by kernel_rfl
theorem fn_l_eqIntS : Fn Try.prog 105 .plain F_l_eqIntS := fn_of (cfgOk_of mixed tys_ok (show FnsOk Try.prog C_l_eqIntS from trivial)) Try.func105 (by kernel_rfl) (by kernel_rfl) (fun cx b hp hb => all_of (by kernel_rfl : loopsOf (Try.f105.body.getD .skip) = [nthLoop Try.f105 0]) ⟨lo_l_eqIntS_4 cx hp, trivial⟩ b hb) (R := (Bool × Unit)) (T := fun (d : aden P_l_eqIntS) => T_l_eqIntS d.1 d.2.1) e_l_eqIntS
def P_l_eqWin : List (Bool × List Sh) := [(true, [.int .i64, .sl 3 [.int .i64]]), (true, [.int .i64, .sl 3 [.int .i64]])]
def O_l_eqWin (r : (Bool × Unit)) : List RV × List RV := ([rv (false, [.bool]) r], [])
def C_l_eqWin : Fns := [(105, .plain, F_l_eqIntS)]
def F_l_eqWin : Fun1 := funV P_l_eqWin (fun d => (T_l_eqWin d.1 d.2.1).val) O_l_eqWin
def Q_l_eqWin : Loops := fun _ _ => .fail
theorem e_l_eqWin : ∀ d, pcall ⟨lookT tys, ctrOf C_l_eqWin, kindOf C_l_eqWin, 3, 4⟩ 0 Q_l_eqWin Try.f94 .plain (mkA P_l_eqWin d) = (T_l_eqWin d.1 d.2.1).run fun r => some (O_l_eqWin r) := fun d => by kernel_rfl
theorem fn_l_eqWin : Fn Try.prog 94 .plain F_l_eqWin := fn_of (cfgOk_of mixed tys_ok (show FnsOk Try.prog C_l_eqWin from ⟨fn_l_eqIntS, trivial⟩)) Try.func94 (by kernel_rfl) (by kernel_rfl) (fun cx b hp hb => all_of (by kernel_rfl : loopsOf (Try.f94.body.getD .skip) = []) trivial b hb) (R := (Bool × Unit)) (T := fun (d : aden P_l_eqWin) => T_l_eqWin d.1 d.2.1) e_l_eqWin
def P_l_eqEp : List (Bool × List Sh) := [(true, h_3), (true, h_3)]
def O_l_eqEp (r : (Bool × Unit)) : List RV × List RV := ([rv (false, [.bool]) r], [])
def C_l_eqEp : Fns := [(44, .plain, F_l_eqByteS), (94, .plain, F_l_eqWin)]
def F_l_eqEp : Fun1 := funV P_l_eqEp (fun d => (T_l_eqEp d.1 d.2.1).val) O_l_eqEp
def Q_l_eqEp : Loops := fun _ _ => .fail
theorem e_l_eqEp : ∀ d, pcall ⟨lookT tys, ctrOf C_l_eqEp, kindOf C_l_eqEp, 3, 4⟩ 0 Q_l_eqEp Try.f73 .plain (mkA P_l_eqEp d) = (T_l_eqEp d.1 d.2.1).run fun r => some (O_l_eqEp r) := fun d => by kernel_rfl
theorem fn_l_eqEp : Fn Try.prog 73 .plain F_l_eqEp := fn_of (cfgOk_of mixed tys_ok (show FnsOk Try.prog C_l_eqEp from ⟨fn_l_eqByteS, fn_l_eqWin, trivial⟩)) Try.func73 (by kernel_rfl) (by kernel_rfl) (fun cx b hp hb => all_of (by kernel_rfl : loopsOf (Try.f73.body.getD .skip) = []) trivial b hb) (R := (Bool × Unit)) (T := fun (d : aden P_l_eqEp) => T_l_eqEp d.1 d.2.1) e_l_eqEp
def P_l_eqChan : List (Bool × List Sh) := [(true, h_6), (true, h_6)]
def O_l_eqChan (r : (Bool × Unit)) : List RV × List RV := ([rv (false, [.bool]) r], [])
def C_l_eqChan : Fns := [(44, .plain, F_l_eqByteS), (73, .plain, F_l_eqEp)]
def F_l_eqChan : Fun1 := funV P_l_eqChan (fun d => (T_l_eqChan d.1 d.2.1).val) O_l_eqChan
def Q_l_eqChan : Loops := fun _ _ => .fail
theorem e_l_eqChan : ∀ d, pcall ⟨lookT tys, ctrOf C_l_eqChan, kindOf C_l_eqChan, 3, 4⟩ 0 Q_l_eqChan Try.f45 .plain (mkA P_l_eqChan d) = (T_l_eqChan d.1 d.2.1).run fun r => some (O_l_eqChan r) := fun d => by kernel_rfl
theorem fn_l_eqChan : Fn Try.prog 45 .plain F_l_eqChan := fn_of (cfgOk_of mixed tys_ok (show FnsOk Try.prog C_l_eqChan from ⟨fn_l_eqByteS, fn_l_eqEp, trivial⟩)) Try.func45 (by kernel_rfl) (by kernel_rfl) (fun cx b hp hb => all_of (by kernel_rfl : loopsOf (Try.f45.body.getD .skip) = []) trivial b hb) (R := (Bool × Unit)) (T := fun (d : aden P_l_eqChan) => T_l_eqChan d.1 d.2.1) e_l_eqChan
def P_l_eqCand : List (Bool × List Sh) := [(true, h_1), (true, h_1)]
def O_l_eqCand (r : (Bool × Unit)) : List RV × List RV := ([rv (false, [.bool]) r], [])
def C_l_eqCand : Fns := [(52, .plain, F_l_eqAddr), (44, .plain, F_l_eqByteS)]
def F_l_eqCand : Fun1 := funV P_l_eqCand (fun d => (T_l_eqCand d.1 d.2.1).val) O_l_eqCand
def Q_l_eqCand : Loops := fun _ _ => .fail
theorem e_l_eqCand : ∀ d, pcall ⟨lookT tys, ctrOf C_l_eqCand, kindOf C_l_eqCand, 3, 4⟩ 0 Q_l_eqCand Try.f95 .plain (mkA P_l_eqCand d) = (T_l_eqCand d.1 d.2.1).run fun r => some (O_l_eqCand r) := fun d => by kernel_rfl
theorem fn_l_eqCand : Fn Try.prog 95 .plain F_l_eqCand := fn_of (cfgOk_of mixed tys_ok (show FnsOk Try.prog C_l_eqCand from ⟨fn_l_eqAddr, fn_l_eqByteS, trivial⟩)) Try.func95 (by kernel_rfl) (by kernel_rfl) (fun cx b hp hb => all_of (by kernel_rfl : loopsOf (Try.f95.body.getD .skip) = []) trivial b hb) (R := (Bool × Unit)) (T := fun (d : aden P_l_eqCand) => T_l_eqCand d.1 d.2.1) e_l_eqCand
def P_l_eqCandS : List (Bool × List Sh) := [(false, [.sl 96 h_1]), (false, [.sl 96 h_1])]
def O_l_eqCandS (r : (Bool × Unit)) : List RV × List RV := ([rv (false, [.bool]) r], [])
def C_l_eqCandS : Fns := [(95, .plain, F_l_eqCand)]
def F_l_eqCandS : Fun1 := funV P_l_eqCandS (fun d => (T_l_eqCandS d.1 d.2.1).val) O_l_eqCandS
def K_l_eqCandS_4 : Sk := ⟨[(0, .v false [(.sl 96 h_1, .ro)]), (1, .v false [(.sl 96 h_1, .ro)]), (5, .v false [(.int .i64, .nil)])], [], []⟩
def X_l_eqCandS_4 : List (Ex × Sk) := [(.ret, ⟨[(4, .v false [(.bool, .nil)])], [], []⟩), ((.exit 0), ⟨[], [], []⟩)]
def Q_l_eqCandS : Loops := fun i st => cond (Nat.beq i 4) (lam K_l_eqCandS_4 5000000 X_l_eqCandS_4 B_l_eqCandS_4 st) <| .fail
theorem lp_l_eqCandS_4 : ∀ d, bod ⟨lookT tys, ctrOf C_l_eqCandS, kindOf C_l_eqCandS, 3, 4⟩ 0 Try.f74.ntmps Q_l_eqCandS (nthLoop Try.f74 0) K_l_eqCandS_4 5000000 X_l_eqCandS_4 d = B_l_eqCandS_4 d := fun d => by kernel_rfl
theorem lo_l_eqCandS_4 (cx : Cx) (hp : cx.pin.length ≤ 0) : LoopOk Try.prog cx Try.f74.ntmps Q_l_eqCandS (nthLoop Try.f74 0) := loop_of (cfgOk_of mixed tys_ok (show FnsOk Try.prog C_l_eqCandS from ⟨fn_l_eqCand, trivial⟩)) hp (all_of (by kernel_rfl : loopsOf (nthLoop Try.f74 0) = []) trivial) (by kernel_rfl) lp_l_eqCandS_4
theorem e_l_eqCandS : ∀ d, pcall ⟨lookT tys, ctrOf C_l_eqCandS, kindOf C_l_eqCandS, 3, 4⟩ 0 Q_l_eqCandS Try.f74 .plain (mkA P_l_eqCandS d) = (T_l_eqCandS d.1 d.2.1).run fun r => some (O_l_eqCandS r) := fun d => by kernel_rfl
theorem fn_l_eqCandS : Fn Try.prog 74 .plain F_l_eqCandS := fn_of (cfgOk_of mixed tys_ok (show FnsOk Try.prog C_l_eqCandS from ⟨fn_l_eqCand, trivial⟩)) Try.func74 (by kernel_rfl) (by kernel_rfl) (fun cx b hp hb => all_of (by kernel_rfl : loopsOf (Try.f74.body.getD .skip) = [nthLoop Try.f74 0]) ⟨lo_l_eqCandS_4 cx hp, trivial⟩ b hb) (R := (Bool × Unit)) (T := fun (d : aden P_l_eqCandS) => T_l_eqCandS d.1 d.2.1) e_l_eqCandS
def P_l_eqPaths : List (Bool × List Sh) := [(true, h_4), (true, h_4)]
def O_l_eqPaths (r : (Bool × Unit)) : List RV × List RV := ([rv (false, [.bool]) r], [])
def C_l_eqPaths : Fns := [(52, .plain, F_l_eqAddr), (74, .plain, F_l_eqCandS)]
def F_l_eqPaths : Fun1 := funV P_l_eqPaths (fun d => (T_l_eqPaths d.1 d.2.1).val) O_l_eqPaths
def Q_l_eqPaths : Loops := fun _ _ => .fail
theorem e_l_eqPaths : ∀ d, pcall ⟨lookT tys, ctrOf C_l_eqPaths, kindOf C_l_eqPaths, 3, 4⟩ 0 Q_l_eqPaths Try.f46 .plain (mkA P_l_eqPaths d) = (T_l_eqPaths d.1 d.2.1).run fun r => some (O_l_eqPaths r) := fun d => by kernel_rfl
theorem fn_l_eqPaths : Fn Try.prog 46 .plain F_l_eqPaths := fn_of (cfgOk_of mixed tys_ok (show FnsOk Try.prog C_l_eqPaths from ⟨fn_l_eqAddr, fn_l_eqCandS, trivial⟩)) Try.func46 (by kernel_rfl) (by kernel_rfl) (fun cx b hp hb => all_of (by kernel_rfl : loopsOf (Try.f46.body.getD .skip) = []) trivial b hb) (R := (Bool × Unit)) (T := fun (d : aden P_l_eqPaths) => T_l_eqPaths d.1 d.2.1) e_l_eqPaths
def P_l_eqSess : List (Bool × List Sh) := [(true, h_7), (true, h_7)]
def O_l_eqSess (r : (Bool × Unit)) : List RV × List RV := ([rv (false, [.bool]) r], [])
def C_l_eqSess : Fns := [(44, .plain, F_l_eqByteS), (45, .plain, F_l_eqChan), (46, .plain, F_l_eqPaths)]
def F_l_eqSess : Fun1 := funV P_l_eqSess (fun d => (T_l_eqSess d.1 d.2.1).val) O_l_eqSess
def Q_l_eqSess : Loops := fun _ _ => .fail
theorem e_l_eqSess : ∀ d, pcall ⟨lookT tys, ctrOf C_l_eqSess, kindOf C_l_eqSess, 3, 4⟩ 0 Q_l_eqSess Try.f17 .plain (mkA P_l_eqSess d) = (T_l_eqSess d.1 d.2.1).run fun r => some (O_l_eqSess r) := fun d => by kernel_rfl
theorem fn_l_eqSess : Fn Try.prog 17 .plain F_l_eqSess := fn_of (cfgOk_of mixed tys_ok (show FnsOk Try.prog C_l_eqSess from ⟨fn_l_eqByteS, fn_l_eqChan, fn_l_eqPaths, trivial⟩)) Try.func17 (by kernel_rfl) (by kernel_rfl) (fun cx b hp hb => all_of (by kernel_rfl : loopsOf (Try.f17.body.getD .skip) = []) trivial b hb) (R := (Bool × Unit)) (T := fun (d : aden P_l_eqSess) => T_l_eqSess d.1 d.2.1) e_l_eqSess
def P_l_markIntS : List (Bool × List Sh) := [(false, [.sl 3 [.int .i64]]), (false, [.int .i64])]
def O_l_markIntS (r : (YI) × ((List YI) × Unit)) : List RV × List RV := ([rv (false, [.int .i64]) r.1], [rv (false, [.sl 3 [.int .i64]]) r.2])
def C_l_markIntS : Fns := []
def F_l_markIntS : Fun1 := funV P_l_markIntS (fun d => (T_l_markIntS d.1 d.2.1).val) O_l_markIntS
def K_l_markIntS_2 : Sk := ⟨[(0, .v false [(.sl 3 [.int .i64], (.own 3000000))]), (1, .v false [(.int .i64, .nil)]), (5, .v false [(.int .i64, .nil)])], [], [3000000]⟩
def X_l_markIntS_2 : List (Ex × Sk) := [((.exit 0), ⟨[(0, .v false [(.sl 3 [.int .i64], (.own 3000000))]), (1, .v false [(.int .i64, .nil)])], [], [3000000]⟩)]
def Q_l_markIntS : Loops := fun i st => cond (Nat.beq i 2) (lam K_l_markIntS_2 3000000 X_l_markIntS_2 B_l_markIntS_2 st) <| .fail
theorem lp_l_markIntS_2 : ∀ d, bod ⟨lookT tys, ctrOf C_l_markIntS, kindOf C_l_markIntS, 3, 4⟩ 1 Try.f106.ntmps Q_l_markIntS (nthLoop Try.f106 0) K_l_markIntS_2 3000000 X_l_markIntS_2 d = B_l_markIntS_2 d := fun d => by kernel_rfl
theorem lo_l_markIntS_2 (cx : Cx) (hp : cx.pin.length ≤ 1) : LoopOk Try.prog cx Try.f106.ntmps Q_l_markIntS (nthLoop Try.f106 0) := loop_of (cfgOk_of mixed tys_ok (show FnsOk Try.prog C_l_markIntS from trivial)) hp (all_of (by kernel_rfl : loopsOf (nthLoop Try.f106 0) = []) trivial) (by kernel_rfl) lp_l_markIntS_2
theorem e_l_markIntS : ∀ d, pcall ⟨lookT tys, ctrOf C_l_markIntS, kindOf C_l_markIntS, 3, 4⟩ 1 Q_l_markIntS Try.f106 (.lend [1]) (mkA P_l_markIntS d) = (T_l_markIntS d.1 d.2.1).run fun r => some (O_l_markIntS r) := fun d => by kernel_rfl
theorem fn_l_markIntS : Fn Try.prog 106 (.lend [1]) F_l_markIntS := fn_of (cfgOk_of mixed tys_ok (show FnsOk Try.prog C_l_markIntS from trivial)) Try.func106 (by kernel_rfl) (by kernel_rfl) (fun cx b hp hb => all_of (by kernel_rfl : loopsOf (Try.f106.body.getD .skip) = [nthLoop Try.f106 0]) ⟨lo_l_markIntS_2 cx hp, trivial⟩ b hb) (R := (YI) × ((List YI) × Unit)) (T := fun (d : aden P_l_markIntS) => T_l_markIntS d.1 d.2.1) e_l_markIntS
def P_l_markWin : List (Bool × List Sh) := [(true, [.int .i64, .sl 3 [.int .i64]]), (false, [.int .i64])]
def O_l_markWin (r : (YI) × (YWin)) : List RV × List RV := ([rv (false, [.int .i64]) r.1], [rv (true, [.int .i64, .sl 3 [.int .i64]]) r.2])
def C_l_markWin : Fns := [(106, (.lend [1]), F_l_markIntS)]
def F_l_markWin : Fun1 := funV P_l_markWin (fun d => (T_l_markWin d.1 d.2.1).val) O_l_markWin
def Q_l_markWin : Loops := fun _ _ => .fail
theorem e_l_markWin : ∀ d, pcall ⟨lookT tys, ctrOf C_l_markWin, kindOf C_l_markWin, 3, 4⟩ 1 Q_l_markWin Try.f96 (.lend [1]) (mkA P_l_markWin d) = (T_l_markWin d.1 d.2.1).run fun r => some (O_l_markWin r) := fun d => by kernel_rfl
theorem fn_l_markWin : Fn Try.prog 96 (.lend [1]) F_l_markWin := fn_of (cfgOk_of mixed tys_ok (show FnsOk Try.prog C_l_markWin from ⟨fn_l_markIntS, trivial⟩)) Try.func96 (by kernel_rfl) (by kernel_rfl) (fun cx b hp hb => all_of (by kernel_rfl : loopsOf (Try.f96.body.getD .skip) = []) trivial b hb) (R := (YI) × (YWin)) (T := fun (d : aden P_l_markWin) => T_l_markWin d.1 d.2.1) e_l_markWin
def P_l_markEp : List (Bool × List Sh) := [(true, h_3), (false, [.int .i64])]
def O_l_markEp (r : (YI) × (YEp)) : List RV × List RV := ([rv (false, [.int .i64]) r.1], [rv (true, h_3) r.2])
def C_l_markEp : Fns := [(24, (.lend [1]), F_l_markByteS), (96, (.lend [1]), F_l_markWin)]
def F_l_markEp : Fun1 := funV P_l_markEp (fun d => (T_l_markEp d.1 d.2.1).val) O_l_markEp
def Q_l_markEp : Loops := fun _ _ => .fail
theorem e_l_markEp : ∀ d, pcall ⟨lookT tys, ctrOf C_l_markEp, kindOf C_l_markEp, 3, 4⟩ 1 Q_l_markEp Try.f75 (.lend [1]) (mkA P_l_markEp d) = (T_l_markEp d.1 d.2.1).run fun r => some (O_l_markEp r) := fun d => by kernel_rfl
theorem fn_l_markEp : Fn Try.prog 75 (.lend [1]) F_l_markEp := fn_of (cfgOk_of mixed tys_ok (show FnsOk Try.prog C_l_markEp from ⟨fn_l_markByteS, fn_l_markWin, trivial⟩)) Try.func75 (by kernel_rfl) (by kernel_rfl) (fun cx b hp hb => all_of (by kernel_rfl : loopsOf (Try.f75.body.getD .skip) = []) trivial b hb) (R := (YI) × (YEp)) (T := fun (d : aden P_l_markEp) => T_l_markEp d.1 d.2.1) e_l_markEp
def P_l_markChan : List (Bool × List Sh) := [(true, h_6), (false, [.int .i64])]
def O_l_markChan (r : (YI) × (YChan)) : List RV × List RV := ([rv (false, [.int .i64]) r.1], [rv (true, h_6) r.2])
def C_l_markChan : Fns := [(24, (.lend [1]), F_l_markByteS), (75, (.lend [1]), F_l_markEp)]
def F_l_markChan : Fun1 := funV P_l_markChan (fun d => (T_l_markChan d.1 d.2.1).val) O_l_markChan
def Q_l_markChan : Loops := fun _ _ => .fail
theorem e_l_markChan : ∀ d, pcall ⟨lookT tys, ctrOf C_l_markChan, kindOf C_l_markChan, 3, 4⟩ 1 Q_l_markChan Try.f47 (.lend [1]) (mkA P_l_markChan d) = (T_l_markChan d.1 d.2.1).run fun r => some (O_l_markChan r) := fun d => by kernel_rfl
theorem fn_l_markChan : Fn Try.prog 47 (.lend [1]) F_l_markChan := fn_of (cfgOk_of mixed tys_ok (show FnsOk Try.prog C_l_markChan from ⟨fn_l_markByteS, fn_l_markEp, trivial⟩)) Try.func47 (by kernel_rfl) (by kernel_rfl) (fun cx b hp hb => all_of (by kernel_rfl : loopsOf (Try.f47.body.getD .skip) = []) trivial b hb) (R := (YI) × (YChan)) (T := fun (d : aden P_l_markChan) => T_l_markChan d.1 d.2.1) e_l_markChan
def P_l_markCandS : List (Bool × List Sh) := [(false, [.sl 96 h_1]), (false, [.int .i64])]
def O_l_markCandS (r : (YI) × ((List YCand) × Unit)) : List RV × List RV := ([rv (false, [.int .i64]) r.1], [rv (false, [.sl 96 h_1]) r.2])
def C_l_markCandS : Fns := [(24, (.lend [1]), F_l_markByteS)]
def F_l_markCandS : Fun1 := funV P_l_markCandS (fun d => (T_l_markCandS d.1 d.2.1).val) O_l_markCandS
def K_l_markCandS_2 : Sk := ⟨[(0, .v false [(.sl 96 h_1, (.own 3000000))]), (1, .v false [(.int .i64, .nil)]), (5, .v false [(.int .i64, .nil)])], [], [3000000]⟩
def X_l_markCandS_2 : List (Ex × Sk) := [((.exit 0), ⟨[(0, .v false [(.sl 96 h_1, (.own 3000000))]), (1, .v false [(.int .i64, .nil)])], [], [3000000]⟩)]
def Q_l_markCandS : Loops := fun i st => cond (Nat.beq i 2) (lam K_l_markCandS_2 3000000 X_l_markCandS_2 B_l_markCandS_2 st) <| .fail
theorem lp_l_markCandS_2 : ∀ d, bod ⟨lookT tys, ctrOf C_l_markCandS, kindOf C_l_markCandS, 3, 4⟩ 1 Try.f76.ntmps Q_l_markCandS (nthLoop Try.f76 0) K_l_markCandS_2 3000000 X_l_markCandS_2 d = B_l_markCandS_2 d := fun d => by kernel_rfl
theorem lo_l_markCandS_2 (cx : Cx) (hp : cx.pin.length ≤ 1) : LoopOk Try.prog cx Try.f76.ntmps Q_l_markCandS (nthLoop Try.f76 0) := loop_of (cfgOk_of mixed tys_ok (show FnsOk Try.prog C_l_markCandS from ⟨fn_l_markByteS, trivial⟩)) hp (all_of (by kernel_rfl : loopsOf (nthLoop Try.f76 0) = []) trivial) (by kernel_rfl) lp_l_markCandS_2
theorem e_l_markCandS : ∀ d, pcall ⟨lookT tys, ctrOf C_l_markCandS, kindOf C_l_markCandS, 3, 4⟩ 1 Q_l_markCandS Try.f76 (.lend [1]) (mkA P_l_markCandS d) = (T_l_markCandS d.1 d.2.1).run fun r => some (O_l_markCandS r) := fun d => by kernel_rfl
theorem fn_l_markCandS : Fn Try.prog 76 (.lend [1]) F_l_markCandS := fn_of (cfgOk_of mixed tys_ok (show FnsOk Try.prog C_l_markCandS from ⟨fn_l_markByteS, trivial⟩)) Try.func76 (by kernel_rfl) (by kernel_rfl) (fun cx b hp hb => all_of (by kernel_rfl : loopsOf (Try.f76.body.getD .skip) = [nthLoop Try.f76 0]) ⟨lo_l_markCandS_2 cx hp, trivial⟩ b hb) (R := (YI) × ((List YCand) × Unit)) (T := fun (d : aden P_l_markCandS) => T_l_markCandS d.1 d.2.1) e_l_markCandS
def P_l_markPaths : List (Bool × List Sh) := [(true, h_4), (false, [.int .i64])]
def O_l_markPaths (r : (YI) × (YPaths)) : List RV × List RV := ([rv (false, [.int .i64]) r.1], [rv (true, h_4) r.2])
def C_l_markPaths : Fns := [(76, (.lend [1]), F_l_markCandS)]
def F_l_markPaths : Fun1 := funV P_l_markPaths (fun d => (T_l_markPaths d.1 d.2.1).val) O_l_markPaths
def Q_l_markPaths : Loops := fun _ _ => .fail
theorem e_l_markPaths : ∀ d, pcall ⟨lookT tys, ctrOf C_l_markPaths, kindOf C_l_markPaths, 3, 4⟩ 1 Q_l_markPaths Try.f48 (.lend [1]) (mkA P_l_markPaths d) = (T_l_markPaths d.1 d.2.1).run fun r => some (O_l_markPaths r) := fun d => by kernel_rfl
theorem fn_l_markPaths : Fn Try.prog 48 (.lend [1]) F_l_markPaths := fn_of (cfgOk_of mixed tys_ok (show FnsOk Try.prog C_l_markPaths from ⟨fn_l_markCandS, trivial⟩)) Try.func48 (by kernel_rfl) (by kernel_rfl) (fun cx b hp hb => all_of (by kernel_rfl : loopsOf (Try.f48.body.getD .skip) = []) trivial b hb) (R := (YI) × (YPaths)) (T := fun (d : aden P_l_markPaths) => T_l_markPaths d.1 d.2.1) e_l_markPaths
def P_l_markSess : List (Bool × List Sh) := [(true, h_7), (false, [.int .i64])]
def O_l_markSess (r : (YI) × (YSess)) : List RV × List RV := ([rv (false, [.int .i64]) r.1], [rv (true, h_7) r.2])
def C_l_markSess : Fns := [(24, (.lend [1]), F_l_markByteS), (47, (.lend [1]), F_l_markChan), (48, (.lend [1]), F_l_markPaths)]
def F_l_markSess : Fun1 := funV P_l_markSess (fun d => (T_l_markSess d.1 d.2.1).val) O_l_markSess
def Q_l_markSess : Loops := fun _ _ => .fail
theorem e_l_markSess : ∀ d, pcall ⟨lookT tys, ctrOf C_l_markSess, kindOf C_l_markSess, 3, 4⟩ 1 Q_l_markSess Try.f18 (.lend [1]) (mkA P_l_markSess d) = (T_l_markSess d.1 d.2.1).run fun r => some (O_l_markSess r) := fun d => by kernel_rfl
theorem fn_l_markSess : Fn Try.prog 18 (.lend [1]) F_l_markSess := fn_of (cfgOk_of mixed tys_ok (show FnsOk Try.prog C_l_markSess from ⟨fn_l_markByteS, fn_l_markChan, fn_l_markPaths, trivial⟩)) Try.func18 (by kernel_rfl) (by kernel_rfl) (fun cx b hp hb => all_of (by kernel_rfl : loopsOf (Try.f18.body.getD .skip) = []) trivial b hb) (R := (YI) × (YSess)) (T := fun (d : aden P_l_markSess) => T_l_markSess d.1 d.2.1) e_l_markSess
def P_l_heldIntS : List (Bool × List Sh) := [(false, [.sl 3 [.int .i64]]), (false, [.int .i64])]
def O_l_heldIntS (r : (YI)) : List RV × List RV := ([rv (false, [.int .i64]) r], [])
def C_l_heldIntS : Fns := []
def F_l_heldIntS : Fun1 := funV P_l_heldIntS (fun d => (T_l_heldIntS d.1 d.2.1).val) O_l_heldIntS
def K_l_heldIntS_2 : Sk := ⟨[(0, .v false [(.sl 3 [.int .i64], .ro)]), (1, .v false [(.int .i64, .nil)]), (5, .v false [(.int .i64, .nil)])], [], []⟩
def X_l_heldIntS_2 : List (Ex × Sk) := [(.ret, ⟨[(4, .v false [(.int .i64, .nil)])], [], []⟩), ((.exit 0), ⟨[(1, .v false [(.int .i64, .nil)])], [], []⟩)]
def Q_l_heldIntS : Loops := fun i st => cond (Nat.beq i 2) (lam K_l_heldIntS_2 3000000 X_l_heldIntS_2 B_l_heldIntS_2 st) <| .fail
theorem lp_l_heldIntS_2 : ∀ d, bod ⟨lookT tys, ctrOf C_l_heldIntS, kindOf C_l_heldIntS, 3, 4⟩ 0 Try.f107.ntmps Q_l_heldIntS (nthLoop Try.f107 0) K_l_heldIntS_2 3000000 X_l_heldIntS_2 d = B_l_heldIntS_2 d := fun d => by kernel_rfl
theorem lo_l_heldIntS_2 (cx : Cx) (hp : cx.pin.length ≤ 0) : LoopOk Try.prog cx Try.f107.ntmps Q_l_heldIntS (nthLoop Try.f107 0) := loop_of (cfgOk_of mixed tys_ok (show FnsOk Try.prog C_l_heldIntS from trivial)) hp (all_of (by kernel_rfl : loopsOf (nthLoop Try.f107 0) = []) trivial) (by kernel_rfl) lp_l_heldIntS_2
theorem e_l_heldIntS : ∀ d, pcall ⟨lookT tys, ctrOf C_l_heldIntS, kindOf C_l_heldIntS, 3, 4⟩ 0 Q_l_heldIntS Try.f107 .plain (mkA P_l_heldIntS d) = (T_l_heldIntS d.1 d.2.1).run fun r => some (O_l_heldIntS r) := fun d => by kernel_rfl
theorem fn_l_heldIntS : Fn Try.prog 107 .plain F_l_heldIntS := fn_of (cfgOk_of mixed tys_ok (show FnsOk Try.prog C_l_heldIntS from trivial)) Try.func107 (by kernel_rfl) (by kernel_rfl) (fun cx b hp hb => all_of (by kernel_rfl : loopsOf (Try.f107.body.getD .skip) = [nthLoop Try.f107 0]) ⟨lo_l_heldIntS_2 cx hp, trivial⟩ b hb) (R := (YI)) (T := fun (d : aden P_l_heldIntS) => T_l_heldIntS d.1 d.2.1) e_l_heldIntS
def P_l_heldWin : List (Bool × List Sh) := [(true, [.int .i64, .sl 3 [.int .i64]]), (false, [.int .i64])]
def O_l_heldWin (r : (YI)) : List RV × List RV := ([rv (false, [.int .i64]) r], [])
def C_l_heldWin : Fns := [(107, .plain, F_l_heldIntS)]
def F_l_heldWin : Fun1 := funV P_l_heldWin (fun d => (T_l_heldWin d.1 d.2.1).val) O_l_heldWin
def Q_l_heldWin : Loops := fun _ _ => .fail
theorem e_l_heldWin : ∀ d, pcall ⟨lookT tys, ctrOf C_l_heldWin, kindOf C_l_heldWin, 3, 4⟩ 0 Q_l_heldWin Try.f97 .plain (mkA P_l_heldWin d) = (T_l_heldWin d.1 d.2.1).run fun r => some (O_l_heldWin r) := fun d => by kernel_rfl
theorem fn_l_heldWin : Fn Try.prog 97 .plain F_l_heldWin := fn_of (cfgOk_of mixed tys_ok (show FnsOk Try.prog C_l_heldWin from ⟨fn_l_heldIntS, trivial⟩)) Try.func97 (by kernel_rfl) (by kernel_rfl) (fun cx b hp hb => all_of (by kernel_rfl : loopsOf (Try.f97.body.getD .skip) = []) trivial b hb) (R := (YI)) (T := fun (d : aden P_l_heldWin) => T_l_heldWin d.1 d.2.1) e_l_heldWin
def P_l_heldEp : List (Bool × List Sh) := [(true, h_3), (false, [.int .i64])]
def O_l_heldEp (r : (YI)) : List RV × List RV := ([rv (false, [.int .i64]) r], [])
def C_l_heldEp : Fns := [(25, .plain, F_l_heldByteS), (97, .plain, F_l_heldWin)]
def F_l_heldEp : Fun1 := funV P_l_heldEp (fun d => (T_l_heldEp d.1 d.2.1).val) O_l_heldEp
def Q_l_heldEp : Loops := fun _ _ => .fail
theorem e_l_heldEp : ∀ d, pcall ⟨lookT tys, ctrOf C_l_heldEp, kindOf C_l_heldEp, 3, 4⟩ 0 Q_l_heldEp Try.f77 .plain (mkA P_l_heldEp d) = (T_l_heldEp d.1 d.2.1).run fun r => some (O_l_heldEp r) := fun d => by kernel_rfl
theorem fn_l_heldEp : Fn Try.prog 77 .plain F_l_heldEp := fn_of (cfgOk_of mixed tys_ok (show FnsOk Try.prog C_l_heldEp from ⟨fn_l_heldByteS, fn_l_heldWin, trivial⟩)) Try.func77 (by kernel_rfl) (by kernel_rfl) (fun cx b hp hb => all_of (by kernel_rfl : loopsOf (Try.f77.body.getD .skip) = []) trivial b hb) (R := (YI)) (T := fun (d : aden P_l_heldEp) => T_l_heldEp d.1 d.2.1) e_l_heldEp
def P_l_heldChan : List (Bool × List Sh) := [(true, h_6), (false, [.int .i64])]
def O_l_heldChan (r : (YI)) : List RV × List RV := ([rv (false, [.int .i64]) r], [])
def C_l_heldChan : Fns := [(25, .plain, F_l_heldByteS), (77, .plain, F_l_heldEp)]
def F_l_heldChan : Fun1 := funV P_l_heldChan (fun d => (T_l_heldChan d.1 d.2.1).val) O_l_heldChan
def Q_l_heldChan : Loops := fun _ _ => .fail
theorem e_l_heldChan : ∀ d, pcall ⟨lookT tys, ctrOf C_l_heldChan, kindOf C_l_heldChan, 3, 4⟩ 0 Q_l_heldChan Try.f49 .plain (mkA P_l_heldChan d) = (T_l_heldChan d.1 d.2.1).run fun r => some (O_l_heldChan r) := fun d => by kernel_rfl
theorem fn_l_heldChan : Fn Try.prog 49 .plain F_l_heldChan := fn_of (cfgOk_of mixed tys_ok (show FnsOk Try.prog C_l_heldChan from ⟨fn_l_heldByteS, fn_l_heldEp, trivial⟩)) Try.func49 (by kernel_rfl) (by kernel_rfl) (fun cx b hp hb => all_of (by kernel_rfl : loopsOf (Try.f49.body.getD .skip) = []) trivial b hb) (R := (YI)) (T := fun (d : aden P_l_heldChan) => T_l_heldChan d.1 d.2.1) e_l_heldChan
def P_l_heldCandS : List (Bool × List Sh) := [(false, [.sl 96 h_1]), (false, [.int .i64])]
def O_l_heldCandS (r : (YI)) : List RV × List RV := ([rv (false, [.int .i64]) r], [])
def C_l_heldCandS : Fns := [(25, .plain, F_l_heldByteS)]
def F_l_heldCandS : Fun1 := funV P_l_heldCandS (fun d => (T_l_heldCandS d.1 d.2.1).val) O_l_heldCandS
def K_l_heldCandS_2 : Sk := ⟨[(0, .v false [(.sl 96 h_1, .ro)]), (1, .v false [(.int .i64, .nil)]), (5, .v false [(.int .i64, .nil)])], [], []⟩
def X_l_heldCandS_2 : List (Ex × Sk) := [(.ret, ⟨[(4, .v false [(.int .i64, .nil)])], [], []⟩), ((.exit 0), ⟨[(1, .v false [(.int .i64, .nil)])], [], []⟩)]
def Q_l_heldCandS : Loops := fun i st => cond (Nat.beq i 2) (lam K_l_heldCandS_2 3000000 X_l_heldCandS_2 B_l_heldCandS_2 st) <| .fail
theorem lp_l_heldCandS_2 : ∀ d, bod ⟨lookT tys, ctrOf C_l_heldCandS, kindOf C_l_heldCandS, 3, 4⟩ 0 Try.f78.ntmps Q_l_heldCandS (nthLoop Try.f78 0) K_l_heldCandS_2 3000000 X_l_heldCandS_2 d = B_l_heldCandS_2 d := fun d => by kernel_rfl
theorem lo_l_heldCandS_2 (cx : Cx) (hp : cx.pin.length ≤ 0) : LoopOk Try.prog cx Try.f78.ntmps Q_l_heldCandS (nthLoop Try.f78 0) := loop_of (cfgOk_of mixed tys_ok (show FnsOk Try.prog C_l_heldCandS from ⟨fn_l_heldByteS, trivial⟩)) hp (all_of (by kernel_rfl : loopsOf (nthLoop Try.f78 0) = []) trivial) (by kernel_rfl) lp_l_heldCandS_2
theorem e_l_heldCandS : ∀ d, pcall ⟨lookT tys, ctrOf C_l_heldCandS, kindOf C_l_heldCandS, 3, 4⟩ 0 Q_l_heldCandS Try.f78 .plain (mkA P_l_heldCandS d) = (T_l_heldCandS d.1 d.2.1).run fun r => some (O_l_heldCandS r) := fun d => by kernel_rfl
theorem fn_l_heldCandS : Fn Try.prog 78 .plain F_l_heldCandS := fn_of (cfgOk_of mixed tys_ok (show FnsOk Try.prog C_l_heldCandS from ⟨fn_l_heldByteS, trivial⟩)) Try.func78 (by kernel_rfl) (by kernel_rfl) (fun cx b hp hb => all_of (by kernel_rfl : loopsOf (Try.f78.body.getD .skip) = [nthLoop Try.f78 0]) ⟨lo_l_heldCandS_2 cx hp, trivial⟩ b hb) (R := (YI)) (T := fun (d : aden P_l_heldCandS) => T_l_heldCandS d.1 d.2.1) e_l_heldCandS
def P_l_heldPaths : List (Bool × List Sh) := [(true, h_4), (false, [.int .i64])]
def O_l_heldPaths (r : (YI)) : List RV × List RV := ([rv (false, [.int .i64]) r], [])
def C_l_heldPaths : Fns := [(78, .plain, F_l_heldCandS)]
def F_l_heldPaths : Fun1 := funV P_l_heldPaths (fun d => (T_l_heldPaths d.1 d.2.1).val) O_l_heldPaths
def Q_l_heldPaths : Loops := fun _ _ => .fail
theorem e_l_heldPaths : ∀ d, pcall ⟨lookT tys, ctrOf C_l_heldPaths, kindOf C_l_heldPaths, 3, 4⟩ 0 Q_l_heldPaths Try.f50 .plain (mkA P_l_heldPaths d) = (T_l_heldPaths d.1 d.2.1).run fun r => some (O_l_heldPaths r) := fun d => by kernel_rfl
theorem fn_l_heldPaths : Fn Try.prog 50 .plain F_l_heldPaths := fn_of (cfgOk_of mixed tys_ok (show FnsOk Try.prog C_l_heldPaths from ⟨fn_l_heldCandS, trivial⟩)) Try.func50 (by kernel_rfl) (by kernel_rfl) (fun cx b hp hb => all_of (by kernel_rfl : loopsOf (Try.f50.body.getD .skip) = []) trivial b hb) (R := (YI)) (T := fun (d : aden P_l_heldPaths) => T_l_heldPaths d.1 d.2.1) e_l_heldPaths
def P_l_heldSess : List (Bool × List Sh) := [(true, h_7), (false, [.int .i64])]
def O_l_heldSess (r : (YI)) : List RV × List RV := ([rv (false, [.int .i64]) r], [])
def C_l_heldSess : Fns := [(25, .plain, F_l_heldByteS), (49, .plain, F_l_heldChan), (50, .plain, F_l_heldPaths)]
def F_l_heldSess : Fun1 := funV P_l_heldSess (fun d => (T_l_heldSess d.1 d.2.1).val) O_l_heldSess
def Q_l_heldSess : Loops := fun _ _ => .fail
theorem e_l_heldSess : ∀ d, pcall ⟨lookT tys, ctrOf C_l_heldSess, kindOf C_l_heldSess, 3, 4⟩ 0 Q_l_heldSess Try.f19 .plain (mkA P_l_heldSess d) = (T_l_heldSess d.1 d.2.1).run fun r => some (O_l_heldSess r) := fun d => by kernel_rfl
theorem fn_l_heldSess : Fn Try.prog 19 .plain F_l_heldSess := fn_of (cfgOk_of mixed tys_ok (show FnsOk Try.prog C_l_heldSess from ⟨fn_l_heldByteS, fn_l_heldChan, fn_l_heldPaths, trivial⟩)) Try.func19 (by kernel_rfl) (by kernel_rfl) (fun cx b hp hb => all_of (by kernel_rfl : loopsOf (Try.f19.body.getD .skip) = []) trivial b hb) (R := (YI)) (T := fun (d : aden P_l_heldSess) => T_l_heldSess d.1 d.2.1) e_l_heldSess
def P_l_FnExactSessTick : List (Bool × List Sh) := [(true, h_8), (false, [.int .i64])]
def O_l_FnExactSessTick (r : (Bool × Unit)) : List RV × List RV := ([rv (false, [.bool]) r], [])
def C_l_FnExactSessTick : Fns := [(13, .plain, F_l_szSess), (15, .plain, F_l_toSess), (14, .plain, F_s_SessTick), (16, .plain, F_i_SessTick), (17, .plain, F_l_eqSess), (18, (.lend [1]), F_l_markSess), (19, .plain, F_l_heldSess)]
def F_l_FnExactSessTick : Fun1 := funV P_l_FnExactSessTick (fun d => (T_l_FnExactSessTick d.1 d.2.1).val) O_l_FnExactSessTick
def Q_l_FnExactSessTick : Loops := fun _ _ => .fail
theorem e_l_FnExactSessTick : ∀ d, pcall ⟨lookT tys, ctrOf C_l_FnExactSessTick, kindOf C_l_FnExactSessTick, 3, 4⟩ 0 Q_l_FnExactSessTick Try.f4 .plain (mkA P_l_FnExactSessTick d) = (T_l_FnExactSessTick d.1 d.2.1).run fun r => some (O_l_FnExactSessTick r) := fun d => by kernel_rfl
theorem fn_l_FnExactSessTick : Fn Try.prog 4 .plain F_l_FnExactSessTick := fn_of (cfgOk_of mixed tys_ok (show FnsOk Try.prog C_l_FnExactSessTick from ⟨fn_l_szSess, fn_l_toSess, fn_s_SessTick, fn_i_SessTick, fn_l_eqSess, fn_l_markSess, fn_l_heldSess, trivial⟩)) Try.func4 (by kernel_rfl) (by kernel_rfl) (fun cx b hp hb => all_of (by kernel_rfl : loopsOf (Try.f4.body.getD .skip) = []) trivial b hb) (R := (Bool × Unit)) (T := fun (d : aden P_l_FnExactSessTick) => T_l_FnExactSessTick d.1 d.2.1) e_l_FnExactSessTick
end
end Go.Proofs.Ytndbndcibmfgdaa

/-
  That the functions of the seat answer what the terms of text W say; nothing is assumed.
-/
import Derived.Test.YthcbhopanefaiaaW
import Derived.Test.YthcbhopanefaiaaProg
import Derived.KernelRfl
namespace Go.Proofs.Ythcbhopanefaiaa
open Go.RowKit
set_option linter.unusedVariables false
set_option maxRecDepth 100000
set_option maxHeartbeats 4000000
noncomputable section
def tys : List (Nat × Ty) := [(3, ⟨false, [.int .i64], [], false⟩),
  (4, ⟨false, [.bool], [], false⟩),
  (5, ⟨false, [.int .u8], [], false⟩),
  (9, ⟨false, [.str], [], false⟩),
  (22, ⟨false, [.sl 36 [.int .i64, .int .i64, .int .i64, .int .i64, .sl 5 [.int .u8]]], [], false⟩),
  (24, ⟨true, [.int .i64, .int .i64], [(0, 1), (1, 1)], true⟩),
  (26, ⟨false, [.sl 40 [.int .i64, .int .i64, .int .i64, .int .i64, .sl 5 [.int .u8]]], [], false⟩),
  (29, ⟨true, [.int .i64, .int .i64], [(0, 1), (1, 1)], true⟩),
  (34, ⟨false, [.sl 5 [.int .u8]], [], false⟩),
  (36, ⟨true, [.int .i64, .int .i64, .int .i64, .int .i64, .sl 5 [.int .u8]], [(0, 2), (2, 2), (4, 1)], false⟩),
  (40, ⟨true, [.int .i64, .int .i64, .int .i64, .int .i64, .sl 5 [.int .u8]], [(0, 2), (2, 2), (4, 1)], false⟩),
  (46, ⟨true, [.int .i64, .int .i64, .sl 5 [.int .u8], .sl 5 [.int .u8], .int .i64, .sl 5 [.int .u8], .sl 5 [.int .u8], .int .i64, .int .i64, .sl 5 [.int .u8], .sl 5 [.int .u8]], [(0, 1), (1, 1), (2, 1), (3, 1), (4, 1), (5, 1), (6, 1), (7, 1), (8, 1), (9, 1), (10, 1)], false⟩),
  (49, ⟨true, [.int .i64, .int .i64, .sl 5 [.int .u8], .sl 5 [.int .u8], .int .i64, .sl 5 [.int .u8], .sl 5 [.int .u8], .int .i64, .int .i64, .sl 5 [.int .u8], .sl 5 [.int .u8]], [(0, 1), (1, 1), (2, 1), (3, 1), (4, 1), (5, 1), (6, 1), (7, 1), (8, 1), (9, 1), (10, 1)], false⟩),
  (102, ⟨false, [.sl 34 [.sl 5 [.int .u8]]], [], false⟩)]
theorem tys_ok : tysB Try.prog tys = true := by kernel_rfl
theorem mixed : Try.prog.follows .mixedOrders = true := by kernel_rfl
def P_l_szByteS : List (Bool × List Sh) := [(false, [.sl 5 [.int .u8]]), (false, [.int .i64])]
def O_l_szByteS (r : (YI)) : List RV × List RV := ([rv (false, [.int .i64]) r], [])
def C_l_szByteS : Fns := []
def F_l_szByteS : Fun1 := funV P_l_szByteS (fun d => (T_l_szByteS d.1 d.2.1).val) O_l_szByteS
def Q_l_szByteS : Loops := fun _ _ => .fail
theorem e_l_szByteS : ∀ d, pcall ⟨lookT tys, ctrOf C_l_szByteS, kindOf C_l_szByteS, 3, 4⟩ 0 Q_l_szByteS Try.f70 .plain (mkA P_l_szByteS d) = (T_l_szByteS d.1 d.2.1).run fun r => some (O_l_szByteS r) := fun d => by kernel_rfl
theorem fn_l_szByteS : Fn Try.prog 70 .plain F_l_szByteS := fn_of (cfgOk_of mixed tys_ok (show FnsOk Try.prog C_l_szByteS from trivial)) Try.func70 (by kernel_rfl) (by kernel_rfl) (fun cx b hp hb => all_of (by kernel_rfl : loopsOf (Try.f70.body.getD .skip) = []) trivial b hb) (R := (YI)) (T := fun (d : aden P_l_szByteS) => T_l_szByteS d.1 d.2.1) e_l_szByteS
def P_l_szWire : List (Bool × List Sh) := [(true, [.int .i64, .int .i64, .int .i64, .int .i64, .sl 5 [.int .u8]]), (false, [.int .i64])]
def O_l_szWire (r : (YI)) : List RV × List RV := ([rv (false, [.int .i64]) r], [])
def C_l_szWire : Fns := [(70, .plain, F_l_szByteS)]
def F_l_szWire : Fun1 := funV P_l_szWire (fun d => (T_l_szWire d.1 d.2.1).val) O_l_szWire
def Q_l_szWire : Loops := fun _ _ => .fail
theorem e_l_szWire : ∀ d, pcall ⟨lookT tys, ctrOf C_l_szWire, kindOf C_l_szWire, 3, 4⟩ 0 Q_l_szWire Try.f22 .plain (mkA P_l_szWire d) = (T_l_szWire d.1 d.2.1).run fun r => some (O_l_szWire r) := fun d => by kernel_rfl
theorem fn_l_szWire : Fn Try.prog 22 .plain F_l_szWire := fn_of (cfgOk_of mixed tys_ok (show FnsOk Try.prog C_l_szWire from ⟨fn_l_szByteS, trivial⟩)) Try.func22 (by kernel_rfl) (by kernel_rfl) (fun cx b hp hb => all_of (by kernel_rfl : loopsOf (Try.f22.body.getD .skip) = []) trivial b hb) (R := (YI)) (T := fun (d : aden P_l_szWire) => T_l_szWire d.1 d.2.1) e_l_szWire
def P_l_szWireS : List (Bool × List Sh) := [(false, [.sl 36 [.int .i64, .int .i64, .int .i64, .int .i64, .sl 5 [.int .u8]]]), (false, [.int .i64])]
def O_l_szWireS (r : (YI)) : List RV × List RV := ([rv (false, [.int .i64]) r], [])
def C_l_szWireS : Fns := [(22, .plain, F_l_szWire)]
def F_l_szWireS : Fun1 := funV P_l_szWireS (fun d => (T_l_szWireS d.1 d.2.1).val) O_l_szWireS
def K_l_szWireS_5 : Sk := ⟨[(0, .v false [(.sl 36 [.int .i64, .int .i64, .int .i64, .int .i64, .sl 5 [.int .u8]], .ro)]), (1, .v false [(.int .i64, .nil)]), (5, .v false [(.int .i64, .nil)])], [], []⟩
def X_l_szWireS_5 : List (Ex × Sk) := [(.ret, ⟨[(4, .v false [(.int .i64, .nil)])], [], []⟩), ((.exit 0), ⟨[(1, .v false [(.int .i64, .nil)])], [], []⟩)]
def Q_l_szWireS : Loops := fun i st => cond (Nat.beq i 5) (lam K_l_szWireS_5 6000000 X_l_szWireS_5 B_l_szWireS_5 st) <| .fail
theorem lp_l_szWireS_5 : ∀ d, bod ⟨lookT tys, ctrOf C_l_szWireS, kindOf C_l_szWireS, 3, 4⟩ 0 Try.f14.ntmps Q_l_szWireS (nthLoop Try.f14 0) K_l_szWireS_5 6000000 X_l_szWireS_5 d = B_l_szWireS_5 d := fun d => by kernel_rfl
theorem lo_l_szWireS_5 (cx : Cx) (hp : cx.pin.length ≤ 0) : LoopOk Try.prog cx Try.f14.ntmps Q_l_szWireS (nthLoop Try.f14 0) := loop_of (cfgOk_of mixed tys_ok (show FnsOk Try.prog C_l_szWireS from ⟨fn_l_szWire, trivial⟩)) hp (all_of (by kernel_rfl : loopsOf (nthLoop Try.f14 0) = []) trivial) (by kernel_rfl) lp_l_szWireS_5
theorem e_l_szWireS : ∀ d, pcall ⟨lookT tys, ctrOf C_l_szWireS, kindOf C_l_szWireS, 3, 4⟩ 0 Q_l_szWireS Try.f14 .plain (mkA P_l_szWireS d) = (T_l_szWireS d.1 d.2.1).run fun r => some (O_l_szWireS r) := fun d => by kernel_rfl
theorem fn_l_szWireS : Fn Try.prog 14 .plain F_l_szWireS := fn_of (cfgOk_of mixed tys_ok (show FnsOk Try.prog C_l_szWireS from ⟨fn_l_szWire, trivial⟩)) Try.func14 (by kernel_rfl) (by kernel_rfl) (fun cx b hp hb => all_of (by kernel_rfl : loopsOf (Try.f14.body.getD .skip) = [nthLoop Try.f14 0]) ⟨lo_l_szWireS_5 cx hp, trivial⟩ b hb) (R := (YI)) (T := fun (d : aden P_l_szWireS) => T_l_szWireS d.1 d.2.1) e_l_szWireS
def P_l_toAddr : List (Bool × List Sh) := [(true, [.int .i64, .int .i64])]
def O_l_toAddr (r : (YAddr)) : List RV × List RV := ([rv (true, [.int .i64, .int .i64]) r], [])
def C_l_toAddr : Fns := []
def F_l_toAddr : Fun1 := funV P_l_toAddr (fun d => (T_l_toAddr d.1).val) O_l_toAddr
def Q_l_toAddr : Loops := fun _ _ => .fail
theorem e_l_toAddr : ∀ d, pcall ⟨lookT tys, ctrOf C_l_toAddr, kindOf C_l_toAddr, 3, 4⟩ 0 Q_l_toAddr Try.f17 .plain (mkA P_l_toAddr d) = (T_l_toAddr d.1).run fun r => some (O_l_toAddr r) := fun d => by kernel_rfl
theorem fn_l_toAddr : Fn Try.prog 17 .plain F_l_toAddr := fn_of (cfgOk_of mixed tys_ok (show FnsOk Try.prog C_l_toAddr from trivial)) Try.func17 (by kernel_rfl) (by kernel_rfl) (fun cx b hp hb => all_of (by kernel_rfl : loopsOf (Try.f17.body.getD .skip) = []) trivial b hb) (R := (YAddr)) (T := fun (d : aden P_l_toAddr) => T_l_toAddr d.1) e_l_toAddr
def P_l_toByteS : List (Bool × List Sh) := [(false, [.sl 5 [.int .u8]])]
def O_l_toByteS (r : (YBs)) : List RV × List RV := ([rv (false, [.sl 5 [.int .u8]]) r], [])
def C_l_toByteS : Fns := []
def F_l_toByteS : Fun1 := funV P_l_toByteS (fun d => (T_l_toByteS d.1).val) O_l_toByteS
def K_l_toByteS_3 : Sk := ⟨[(0, .v false [(.sl 5 [.int .u8], .ro)]), (3, .v false [(.sl 5 [.int .u8], (.own 4000000))]), (4, .v false [(.int .i64, .nil)])], [], [4000000]⟩
def X_l_toByteS_3 : List (Ex × Sk) := [((.exit 0), ⟨[(3, .v false [(.sl 5 [.int .u8], (.own 4000000))])], [], [4000000]⟩)]
def Q_l_toByteS : Loops := fun i st => cond (Nat.beq i 3) (lam K_l_toByteS_3 4000000 X_l_toByteS_3 B_l_toByteS_3 st) <| .fail
theorem lp_l_toByteS_3 : ∀ d, bod ⟨lookT tys, ctrOf C_l_toByteS, kindOf C_l_toByteS, 3, 4⟩ 0 Try.f43.ntmps Q_l_toByteS (nthLoop Try.f43 0) K_l_toByteS_3 4000000 X_l_toByteS_3 d = B_l_toByteS_3 d := fun d => by kernel_rfl
theorem lo_l_toByteS_3 (cx : Cx) (hp : cx.pin.length ≤ 0) : LoopOk Try.prog cx Try.f43.ntmps Q_l_toByteS (nthLoop Try.f43 0) := loop_of (cfgOk_of mixed tys_ok (show FnsOk Try.prog C_l_toByteS from trivial)) hp (all_of (by kernel_rfl : loopsOf (nthLoop Try.f43 0) = []) trivial) (by kernel_rfl) lp_l_toByteS_3
theorem e_l_toByteS : ∀ d, pcall ⟨lookT tys, ctrOf C_l_toByteS, kindOf C_l_toByteS, 3, 4⟩ 0 Q_l_toByteS Try.f43 .plain (mkA P_l_toByteS d) = (T_l_toByteS d.1).run fun r => some (O_l_toByteS r) := fun d => by kernel_rfl
theorem fn_l_toByteS : Fn Try.prog 43 .plain F_l_toByteS := fn_of (cfgOk_of mixed tys_ok (show FnsOk Try.prog C_l_toByteS from trivial)) Try.func43 (by kernel_rfl) (by kernel_rfl) (fun cx b hp hb => all_of (by kernel_rfl : loopsOf (Try.f43.body.getD .skip) = [nthLoop Try.f43 0]) ⟨lo_l_toByteS_3 cx hp, trivial⟩ b hb) (R := (YBs)) (T := fun (d : aden P_l_toByteS) => T_l_toByteS d.1) e_l_toByteS
def P_l_toWire : List (Bool × List Sh) := [(true, [.int .i64, .int .i64, .int .i64, .int .i64, .sl 5 [.int .u8]])]
def O_l_toWire (r : (YWire)) : List RV × List RV := ([rv (true, [.int .i64, .int .i64, .int .i64, .int .i64, .sl 5 [.int .u8]]) r], [])
def C_l_toWire : Fns := [(17, .plain, F_l_toAddr), (43, .plain, F_l_toByteS)]
def F_l_toWire : Fun1 := funV P_l_toWire (fun d => (T_l_toWire d.1).val) O_l_toWire
def Q_l_toWire : Loops := fun _ _ => .fail
theorem e_l_toWire : ∀ d, pcall ⟨lookT tys, ctrOf C_l_toWire, kindOf C_l_toWire, 3, 4⟩ 0 Q_l_toWire Try.f24 .plain (mkA P_l_toWire d) = (T_l_toWire d.1).run fun r => some (O_l_toWire r) := fun d => by kernel_rfl
theorem fn_l_toWire : Fn Try.prog 24 .plain F_l_toWire := fn_of (cfgOk_of mixed tys_ok (show FnsOk Try.prog C_l_toWire from ⟨fn_l_toAddr, fn_l_toByteS, trivial⟩)) Try.func24 (by kernel_rfl) (by kernel_rfl) (fun cx b hp hb => all_of (by kernel_rfl : loopsOf (Try.f24.body.getD .skip) = []) trivial b hb) (R := (YWire)) (T := fun (d : aden P_l_toWire) => T_l_toWire d.1) e_l_toWire
def P_l_toWireS : List (Bool × List Sh) := [(false, [.sl 36 [.int .i64, .int .i64, .int .i64, .int .i64, .sl 5 [.int .u8]]])]
def O_l_toWireS (r : ((List YWire) × Unit)) : List RV × List RV := ([rv (false, [.sl 40 [.int .i64, .int .i64, .int .i64, .int .i64, .sl 5 [.int .u8]]]) r], [])
def C_l_toWireS : Fns := [(24, .plain, F_l_toWire)]
def F_l_toWireS : Fun1 := funV P_l_toWireS (fun d => (T_l_toWireS d.1).val) O_l_toWireS
def K_l_toWireS_3 : Sk := ⟨[(0, .v false [(.sl 36 [.int .i64, .int .i64, .int .i64, .int .i64, .sl 5 [.int .u8]], .ro)]), (3, .v false [(.sl 40 [.int .i64, .int .i64, .int .i64, .int .i64, .sl 5 [.int .u8]], (.own 4000000))]), (4, .v false [(.int .i64, .nil)])], [], [4000000]⟩
def X_l_toWireS_3 : List (Ex × Sk) := [((.exit 0), ⟨[(3, .v false [(.sl 40 [.int .i64, .int .i64, .int .i64, .int .i64, .sl 5 [.int .u8]], (.own 4000000))])], [], [4000000]⟩)]
def Q_l_toWireS : Loops := fun i st => cond (Nat.beq i 3) (lam K_l_toWireS_3 4000000 X_l_toWireS_3 B_l_toWireS_3 st) <| .fail
theorem lp_l_toWireS_3 : ∀ d, bod ⟨lookT tys, ctrOf C_l_toWireS, kindOf C_l_toWireS, 3, 4⟩ 0 Try.f16.ntmps Q_l_toWireS (nthLoop Try.f16 0) K_l_toWireS_3 4000000 X_l_toWireS_3 d = B_l_toWireS_3 d := fun d => by kernel_rfl
theorem lo_l_toWireS_3 (cx : Cx) (hp : cx.pin.length ≤ 0) : LoopOk Try.prog cx Try.f16.ntmps Q_l_toWireS (nthLoop Try.f16 0) := loop_of (cfgOk_of mixed tys_ok (show FnsOk Try.prog C_l_toWireS from ⟨fn_l_toWire, trivial⟩)) hp (all_of (by kernel_rfl : loopsOf (nthLoop Try.f16 0) = []) trivial) (by kernel_rfl) lp_l_toWireS_3
theorem e_l_toWireS : ∀ d, pcall ⟨lookT tys, ctrOf C_l_toWireS, kindOf C_l_toWireS, 3, 4⟩ 0 Q_l_toWireS Try.f16 .plain (mkA P_l_toWireS d) = (T_l_toWireS d.1).run fun r => some (O_l_toWireS r) := fun d => by kernel_rfl
theorem fn_l_toWireS : Fn Try.prog 16 .plain F_l_toWireS := fn_of (cfgOk_of mixed tys_ok (show FnsOk Try.prog C_l_toWireS from ⟨fn_l_toWire, trivial⟩)) Try.func16 (by kernel_rfl) (by kernel_rfl) (fun cx b hp hb => all_of (by kernel_rfl : loopsOf (Try.f16.body.getD .skip) = [nthLoop Try.f16 0]) ⟨lo_l_toWireS_3 cx hp, trivial⟩ b hb) (R := ((List YWire) × Unit)) (T := fun (d : aden P_l_toWireS) => T_l_toWireS d.1) e_l_toWireS
def P_s_l23Copy : List (Bool × List Sh) := [(false, [.sl 40 [.int .i64, .int .i64, .int .i64, .int .i64, .sl 5 [.int .u8]]])]
def O_s_l23Copy (r : ((List YWire) × Unit)) : List RV × List RV := ([rv (false, [.sl 40 [.int .i64, .int .i64, .int .i64, .int .i64, .sl 5 [.int .u8]]]) r], [])
def C_s_l23Copy : Fns := []
def F_s_l23Copy : Fun1 := funV P_s_l23Copy (fun d => (T_s_l23Copy d.1).val) O_s_l23Copy
def K_s_l23Copy_3 : Sk := ⟨[(0, .v false [(.sl 40 [.int .i64, .int .i64, .int .i64, .int .i64, .sl 5 [.int .u8]], .ro)]), (3, .v false [(.sl 40 [.int .i64, .int .i64, .int .i64, .int .i64, .sl 5 [.int .u8]], (.own 4000000))]), (4, .v false [(.int .i64, .nil)])], [], [4000000]⟩
def X_s_l23Copy_3 : List (Ex × Sk) := [((.exit 0), ⟨[(3, .v false [(.sl 40 [.int .i64, .int .i64, .int .i64, .int .i64, .sl 5 [.int .u8]], (.own 4000000))])], [], [4000000]⟩)]
def Q_s_l23Copy : Loops := fun i st => cond (Nat.beq i 3) (lam K_s_l23Copy_3 4000000 X_s_l23Copy_3 B_s_l23Copy_3 st) <| .fail
theorem lp_s_l23Copy_3 : ∀ d, bod ⟨lookT tys, ctrOf C_s_l23Copy, kindOf C_s_l23Copy, 3, 4⟩ 0 Try.f71.ntmps Q_s_l23Copy (nthLoop Try.f71 0) K_s_l23Copy_3 4000000 X_s_l23Copy_3 d = B_s_l23Copy_3 d := fun d => by kernel_rfl
theorem lo_s_l23Copy_3 (cx : Cx) (hp : cx.pin.length ≤ 0) : LoopOk Try.prog cx Try.f71.ntmps Q_s_l23Copy (nthLoop Try.f71 0) := loop_of (cfgOk_of mixed tys_ok (show FnsOk Try.prog C_s_l23Copy from trivial)) hp (all_of (by kernel_rfl : loopsOf (nthLoop Try.f71 0) = []) trivial) (by kernel_rfl) lp_s_l23Copy_3
theorem e_s_l23Copy : ∀ d, pcall ⟨lookT tys, ctrOf C_s_l23Copy, kindOf C_s_l23Copy, 3, 4⟩ 0 Q_s_l23Copy Try.f71 .plain (mkA P_s_l23Copy d) = (T_s_l23Copy d.1).run fun r => some (O_s_l23Copy r) := fun d => by kernel_rfl
theorem fn_s_l23Copy : Fn Try.prog 71 .plain F_s_l23Copy := fn_of (cfgOk_of mixed tys_ok (show FnsOk Try.prog C_s_l23Copy from trivial)) Try.func71 (by kernel_rfl) (by kernel_rfl) (fun cx b hp hb => all_of (by kernel_rfl : loopsOf (Try.f71.body.getD .skip) = [nthLoop Try.f71 0]) ⟨lo_s_l23Copy_3 cx hp, trivial⟩ b hb) (R := ((List YWire) × Unit)) (T := fun (d : aden P_s_l23Copy) => T_s_l23Copy d.1) e_s_l23Copy
def P_s_l1In : List (Bool × List Sh) := [(false, [.int .i64]), (false, [.int .i64]), (false, [.int .i64])]
def O_s_l1In (r : (Bool × Unit)) : List RV × List RV := ([rv (false, [.bool]) r], [])
def C_s_l1In : Fns := []
def F_s_l1In : Fun1 := funV P_s_l1In (fun d => (T_s_l1In d.1 d.2.1 d.2.2.1).val) O_s_l1In
def Q_s_l1In : Loops := fun _ _ => .fail
theorem e_s_l1In : ∀ d, pcall ⟨lookT tys, ctrOf C_s_l1In, kindOf C_s_l1In, 3, 4⟩ 0 Q_s_l1In Try.f83 .plain (mkA P_s_l1In d) = (T_s_l1In d.1 d.2.1 d.2.2.1).run fun r => some (O_s_l1In r) := fun d => by kernel_rfl
theorem fn_s_l1In : Fn Try.prog 83 .plain F_s_l1In := fn_of (cfgOk_of mixed tys_ok (show FnsOk Try.prog C_s_l1In from trivial)) Try.func83 (by kernel_rfl) (by kernel_rfl) (fun cx b hp hb => all_of (by kernel_rfl : loopsOf (Try.f83.body.getD .skip) = []) trivial b hb) (R := (Bool × Unit)) (T := fun (d : aden P_s_l1In) => T_s_l1In d.1 d.2.1 d.2.2.1) e_s_l1In
def P_s_AddrOk : List (Bool × List Sh) := [(true, [.int .i64, .int .i64])]
def O_s_AddrOk (r : (Bool × Unit)) : List RV × List RV := ([rv (false, [.bool]) r], [])
def C_s_AddrOk : Fns := [(83, .plain, F_s_l1In)]
def F_s_AddrOk : Fun1 := funV P_s_AddrOk (fun d => (T_s_AddrOk d.1).val) O_s_AddrOk
def Q_s_AddrOk : Loops := fun _ _ => .fail
theorem e_s_AddrOk : ∀ d, pcall ⟨lookT tys, ctrOf C_s_AddrOk, kindOf C_s_AddrOk, 3, 4⟩ 0 Q_s_AddrOk Try.f124 .plain (mkA P_s_AddrOk d) = (T_s_AddrOk d.1).run fun r => some (O_s_AddrOk r) := fun d => by kernel_rfl
theorem fn_s_AddrOk : Fn Try.prog 124 .plain F_s_AddrOk := fn_of (cfgOk_of mixed tys_ok (show FnsOk Try.prog C_s_AddrOk from ⟨fn_s_l1In, trivial⟩)) Try.func124 (by kernel_rfl) (by kernel_rfl) (fun cx b hp hb => all_of (by kernel_rfl : loopsOf (Try.f124.body.getD .skip) = []) trivial b hb) (R := (Bool × Unit)) (T := fun (d : aden P_s_AddrOk) => T_s_AddrOk d.1) e_s_AddrOk
def P_s_WireOk : List (Bool × List Sh) := [(true, [.int .i64, .int .i64, .int .i64, .int .i64, .sl 5 [.int .u8]])]
def O_s_WireOk (r : (Bool × Unit)) : List RV × List RV := ([rv (false, [.bool]) r], [])
def C_s_WireOk : Fns := [(124, .plain, F_s_AddrOk)]
def F_s_WireOk : Fun1 := funV P_s_WireOk (fun d => (T_s_WireOk d.1).val) O_s_WireOk
def Q_s_WireOk : Loops := fun _ _ => .fail
theorem e_s_WireOk : ∀ d, pcall ⟨lookT tys, ctrOf C_s_WireOk, kindOf C_s_WireOk, 3, 4⟩ 0 Q_s_WireOk Try.f73 .plain (mkA P_s_WireOk d) = (T_s_WireOk d.1).run fun r => some (O_s_WireOk r) := fun d => by kernel_rfl
theorem fn_s_WireOk : Fn Try.prog 73 .plain F_s_WireOk := fn_of (cfgOk_of mixed tys_ok (show FnsOk Try.prog C_s_WireOk from ⟨fn_s_AddrOk, trivial⟩)) Try.func73 (by kernel_rfl) (by kernel_rfl) (fun cx b hp hb => all_of (by kernel_rfl : loopsOf (Try.f73.body.getD .skip) = []) trivial b hb) (R := (Bool × Unit)) (T := fun (d : aden P_s_WireOk) => T_s_WireOk d.1) e_s_WireOk
def P_s_WiresOk : List (Bool × List Sh) := [(false, [.sl 40 [.int .i64, .int .i64, .int .i64, .int .i64, .sl 5 [.int .u8]]])]
def O_s_WiresOk (r : (Bool × Unit)) : List RV × List RV := ([rv (false, [.bool]) r], [])
def C_s_WiresOk : Fns := [(73, .plain, F_s_WireOk)]
def F_s_WiresOk : Fun1 := funV P_s_WiresOk (fun d => (T_s_WiresOk d.1).val) O_s_WiresOk
def K_s_WiresOk_2 : Sk := ⟨[(0, .v false [(.sl 40 [.int .i64, .int .i64, .int .i64, .int .i64, .sl 5 [.int .u8]], .ro)]), (3, .v false [(.int .i64, .nil)])], [], []⟩
def X_s_WiresOk_2 : List (Ex × Sk) := [(.ret, ⟨[(2, .v false [(.bool, .nil)])], [], []⟩), ((.exit 0), ⟨[(0, .v false [(.sl 40 [.int .i64, .int .i64, .int .i64, .int .i64, .sl 5 [.int .u8]], .ro)])], [], []⟩)]
def Q_s_WiresOk : Loops := fun i st => cond (Nat.beq i 2) (lam K_s_WiresOk_2 3000000 X_s_WiresOk_2 B_s_WiresOk_2 st) <| .fail
theorem lp_s_WiresOk_2 : ∀ d, bod ⟨lookT tys, ctrOf C_s_WiresOk, kindOf C_s_WiresOk, 3, 4⟩ 0 Try.f72.ntmps Q_s_WiresOk (nthLoop Try.f72 0) K_s_WiresOk_2 3000000 X_s_WiresOk_2 d = B_s_WiresOk_2 d := fun d => by kernel_rfl
theorem lo_s_WiresOk_2 (cx : Cx) (hp : cx.pin.length ≤ 0) : LoopOk Try.prog cx Try.f72.ntmps Q_s_WiresOk (nthLoop Try.f72 0) := loop_of (cfgOk_of mixed tys_ok (show FnsOk Try.prog C_s_WiresOk from ⟨fn_s_WireOk, trivial⟩)) hp (all_of (by kernel_rfl : loopsOf (nthLoop Try.f72 0) = []) trivial) (by kernel_rfl) lp_s_WiresOk_2
theorem e_s_WiresOk : ∀ d, pcall ⟨lookT tys, ctrOf C_s_WiresOk, kindOf C_s_WiresOk, 3, 4⟩ 0 Q_s_WiresOk Try.f72 .plain (mkA P_s_WiresOk d) = (T_s_WiresOk d.1).run fun r => some (O_s_WiresOk r) := fun d => by kernel_rfl
theorem fn_s_WiresOk : Fn Try.prog 72 .plain F_s_WiresOk := fn_of (cfgOk_of mixed tys_ok (show FnsOk Try.prog C_s_WiresOk from ⟨fn_s_WireOk, trivial⟩)) Try.func72 (by kernel_rfl) (by kernel_rfl) (fun cx b hp hb => all_of (by kernel_rfl : loopsOf (Try.f72.body.getD .skip) = [nthLoop Try.f72 0]) ⟨lo_s_WiresOk_2 cx hp, trivial⟩ b hb) (R := (Bool × Unit)) (T := fun (d : aden P_s_WiresOk) => T_s_WiresOk d.1) e_s_WiresOk
def P_s_See : List (Bool × List Sh) := [(false, [.sl 40 [.int .i64, .int .i64, .int .i64, .int .i64, .sl 5 [.int .u8]]]), (true, [.int .i64, .int .i64, .int .i64, .int .i64, .sl 5 [.int .u8]])]
def O_s_See (r : ((List YWire) × Unit)) : List RV × List RV := ([rv (false, [.sl 40 [.int .i64, .int .i64, .int .i64, .int .i64, .sl 5 [.int .u8]]]) r], [])
def C_s_See : Fns := [(71, .plain, F_s_l23Copy), (72, .plain, F_s_WiresOk), (73, .plain, F_s_WireOk)]
def F_s_See : Fun1 := funV P_s_See (fun d => (T_s_See d.1 d.2.1).val) O_s_See
def Q_s_See : Loops := fun _ _ => .fail
theorem e_s_See : ∀ d, pcall ⟨lookT tys, ctrOf C_s_See, kindOf C_s_See, 3, 4⟩ 0 Q_s_See Try.f23 .plain (mkA P_s_See d) = (T_s_See d.1 d.2.1).run fun r => some (O_s_See r) := fun d => by kernel_rfl
theorem fn_s_See : Fn Try.prog 23 .plain F_s_See := fn_of (cfgOk_of mixed tys_ok (show FnsOk Try.prog C_s_See from ⟨fn_s_l23Copy, fn_s_WiresOk, fn_s_WireOk, trivial⟩)) Try.func23 (by kernel_rfl) (by kernel_rfl) (fun cx b hp hb => all_of (by kernel_rfl : loopsOf (Try.f23.body.getD .skip) = []) trivial b hb) (R := ((List YWire) × Unit)) (T := fun (d : aden P_s_See) => T_s_See d.1 d.2.1) e_s_See
def P_i_clone : List (Bool × List Sh) := [(false, [.sl 5 [.int .u8]])]
def O_i_clone (r : (YBs)) : List RV × List RV := ([rv (false, [.sl 5 [.int .u8]]) r], [])
def C_i_clone : Fns := []
def F_i_clone : Fun1 := funV P_i_clone (fun d => (T_i_clone d.1).val) O_i_clone
def Q_i_clone : Loops := fun _ _ => .fail
theorem e_i_clone : ∀ d, pcall ⟨lookT tys, ctrOf C_i_clone, kindOf C_i_clone, 3, 4⟩ 0 Q_i_clone Try.f123 .plain (mkA P_i_clone d) = (T_i_clone d.1).run fun r => some (O_i_clone r) := fun d => by kernel_rfl
theorem fn_i_clone : Fn Try.prog 123 .plain F_i_clone := fn_of (cfgOk_of mixed tys_ok (show FnsOk Try.prog C_i_clone from trivial)) Try.func123 (by kernel_rfl) (by kernel_rfl) (fun cx b hp hb => all_of (by kernel_rfl : loopsOf (Try.f123.body.getD .skip) = []) trivial b hb) (R := (YBs)) (T := fun (d : aden P_i_clone) => T_i_clone d.1) e_i_clone
def P_i_copyWires : List (Bool × List Sh) := [(false, [.sl 40 [.int .i64, .int .i64, .int .i64, .int .i64, .sl 5 [.int .u8]]])]
def O_i_copyWires (r : ((List YWire) × Unit)) : List RV × List RV := ([rv (false, [.sl 40 [.int .i64, .int .i64, .int .i64, .int .i64, .sl 5 [.int .u8]]]) r], [])
def C_i_copyWires : Fns := [(123, .plain, F_i_clone)]
def F_i_copyWires : Fun1 := funV P_i_copyWires (fun d => (T_i_copyWires d.1).val) O_i_copyWires
def K_i_copyWires_3 : Sk := ⟨[(3, .v false [(.sl 40 [.int .i64, .int .i64, .int .i64, .int .i64, .sl 5 [.int .u8]], (.own 4000000))]), (7, .v false [(.sl 40 [.int .i64, .int .i64, .int .i64, .int .i64, .sl 5 [.int .u8]], .ro)]), (8, .v false [(.int .i64, .nil)]), (9, .v false [(.int .i64, .nil)])], [], [4000000]⟩
def X_i_copyWires_3 : List (Ex × Sk) := [((.exit 0), ⟨[(3, .v false [(.sl 40 [.int .i64, .int .i64, .int .i64, .int .i64, .sl 5 [.int .u8]], (.own 4000000))])], [], [4000000]⟩)]
def Q_i_copyWires : Loops := fun i st => cond (Nat.beq i 3) (lam K_i_copyWires_3 4000000 X_i_copyWires_3 B_i_copyWires_3 st) <| .fail
theorem lp_i_copyWires_3 : ∀ d, bod ⟨lookT tys, ctrOf C_i_copyWires, kindOf C_i_copyWires, 3, 4⟩ 0 Try.f68.ntmps Q_i_copyWires (nthLoop Try.f68 0) K_i_copyWires_3 4000000 X_i_copyWires_3 d = B_i_copyWires_3 d := fun d => by kernel_rfl
theorem lo_i_copyWires_3 (cx : Cx) (hp : cx.pin.length ≤ 0) : LoopOk Try.prog cx Try.f68.ntmps Q_i_copyWires (nthLoop Try.f68 0) := loop_of (cfgOk_of mixed tys_ok (show FnsOk Try.prog C_i_copyWires from ⟨fn_i_clone, trivial⟩)) hp (all_of (by kernel_rfl : loopsOf (nthLoop Try.f68 0) = []) trivial) (by kernel_rfl) lp_i_copyWires_3
theorem e_i_copyWires : ∀ d, pcall ⟨lookT tys, ctrOf C_i_copyWires, kindOf C_i_copyWires, 3, 4⟩ 0 Q_i_copyWires Try.f68 .plain (mkA P_i_copyWires d) = (T_i_copyWires d.1).run fun r => some (O_i_copyWires r) := fun d => by kernel_rfl
theorem fn_i_copyWires : Fn Try.prog 68 .plain F_i_copyWires := fn_of (cfgOk_of mixed tys_ok (show FnsOk Try.prog C_i_copyWires from ⟨fn_i_clone, trivial⟩)) Try.func68 (by kernel_rfl) (by kernel_rfl) (fun cx b hp hb => all_of (by kernel_rfl : loopsOf (Try.f68.body.getD .skip) = [nthLoop Try.f68 0]) ⟨lo_i_copyWires_3 cx hp, trivial⟩ b hb) (R := ((List YWire) × Unit)) (T := fun (d : aden P_i_copyWires) => T_i_copyWires d.1) e_i_copyWires
def P_i_within : List (Bool × List Sh) := [(false, [.int .i64]), (false, [.int .i64]), (false, [.int .i64])]
def O_i_within (r : (Bool × Unit)) : List RV × List RV := ([rv (false, [.bool]) r], [])
def C_i_within : Fns := []
def F_i_within : Fun1 := funV P_i_within (fun d => (T_i_within d.1 d.2.1 d.2.2.1).val) O_i_within
def Q_i_within : Loops := fun _ _ => .fail
theorem e_i_within : ∀ d, pcall ⟨lookT tys, ctrOf C_i_within, kindOf C_i_within, 3, 4⟩ 0 Q_i_within Try.f84 .plain (mkA P_i_within d) = (T_i_within d.1 d.2.1 d.2.2.1).run fun r => some (O_i_within r) := fun d => by kernel_rfl
theorem fn_i_within : Fn Try.prog 84 .plain F_i_within := fn_of (cfgOk_of mixed tys_ok (show FnsOk Try.prog C_i_within from trivial)) Try.func84 (by kernel_rfl) (by kernel_rfl) (fun cx b hp hb => all_of (by kernel_rfl : loopsOf (Try.f84.body.getD .skip) = []) trivial b hb) (R := (Bool × Unit)) (T := fun (d : aden P_i_within) => T_i_within d.1 d.2.1 d.2.2.1) e_i_within
def P_i_AddrOk : List (Bool × List Sh) := [(true, [.int .i64, .int .i64])]
def O_i_AddrOk (r : (Bool × Unit)) : List RV × List RV := ([rv (false, [.bool]) r], [])
def C_i_AddrOk : Fns := [(84, .plain, F_i_within)]
def F_i_AddrOk : Fun1 := funV P_i_AddrOk (fun d => (T_i_AddrOk d.1).val) O_i_AddrOk
def Q_i_AddrOk : Loops := fun _ _ => .fail
theorem e_i_AddrOk : ∀ d, pcall ⟨lookT tys, ctrOf C_i_AddrOk, kindOf C_i_AddrOk, 3, 4⟩ 0 Q_i_AddrOk Try.f142 .plain (mkA P_i_AddrOk d) = (T_i_AddrOk d.1).run fun r => some (O_i_AddrOk r) := fun d => by kernel_rfl
theorem fn_i_AddrOk : Fn Try.prog 142 .plain F_i_AddrOk := fn_of (cfgOk_of mixed tys_ok (show FnsOk Try.prog C_i_AddrOk from ⟨fn_i_within, trivial⟩)) Try.func142 (by kernel_rfl) (by kernel_rfl) (fun cx b hp hb => all_of (by kernel_rfl : loopsOf (Try.f142.body.getD .skip) = []) trivial b hb) (R := (Bool × Unit)) (T := fun (d : aden P_i_AddrOk) => T_i_AddrOk d.1) e_i_AddrOk
def P_i_WireOk : List (Bool × List Sh) := [(true, [.int .i64, .int .i64, .int .i64, .int .i64, .sl 5 [.int .u8]])]
def O_i_WireOk (r : (Bool × Unit)) : List RV × List RV := ([rv (false, [.bool]) r], [])
def C_i_WireOk : Fns := [(142, .plain, F_i_AddrOk)]
def F_i_WireOk : Fun1 := funV P_i_WireOk (fun d => (T_i_WireOk d.1).val) O_i_WireOk
def Q_i_WireOk : Loops := fun _ _ => .fail
theorem e_i_WireOk : ∀ d, pcall ⟨lookT tys, ctrOf C_i_WireOk, kindOf C_i_WireOk, 3, 4⟩ 0 Q_i_WireOk Try.f125 .plain (mkA P_i_WireOk d) = (T_i_WireOk d.1).run fun r => some (O_i_WireOk r) := fun d => by kernel_rfl
theorem fn_i_WireOk : Fn Try.prog 125 .plain F_i_WireOk := fn_of (cfgOk_of mixed tys_ok (show FnsOk Try.prog C_i_WireOk from ⟨fn_i_AddrOk, trivial⟩)) Try.func125 (by kernel_rfl) (by kernel_rfl) (fun cx b hp hb => all_of (by kernel_rfl : loopsOf (Try.f125.body.getD .skip) = []) trivial b hb) (R := (Bool × Unit)) (T := fun (d : aden P_i_WireOk) => T_i_WireOk d.1) e_i_WireOk
def P_i_WiresOk : List (Bool × List Sh) := [(false, [.sl 40 [.int .i64, .int .i64, .int .i64, .int .i64, .sl 5 [.int .u8]]])]
def O_i_WiresOk (r : (Bool × Unit)) : List RV × List RV := ([rv (false, [.bool]) r], [])
def C_i_WiresOk : Fns := [(125, .plain, F_i_WireOk)]
def F_i_WiresOk : Fun1 := funV P_i_WiresOk (fun d => (T_i_WiresOk d.1).val) O_i_WiresOk
def K_i_WiresOk_2 : Sk := ⟨[(0, .v false [(.sl 40 [.int .i64, .int .i64, .int .i64, .int .i64, .sl 5 [.int .u8]], .ro)]), (5, .v false [(.sl 40 [.int .i64, .int .i64, .int .i64, .int .i64, .sl 5 [.int .u8]], .ro)]), (6, .v false [(.int .i64, .nil)]), (7, .v false [(.int .i64, .nil)])], [], []⟩
def X_i_WiresOk_2 : List (Ex × Sk) := [(.ret, ⟨[(2, .v false [(.bool, .nil)])], [], []⟩), ((.exit 0), ⟨[(0, .v false [(.sl 40 [.int .i64, .int .i64, .int .i64, .int .i64, .sl 5 [.int .u8]], .ro)])], [], []⟩)]
def Q_i_WiresOk : Loops := fun i st => cond (Nat.beq i 2) (lam K_i_WiresOk_2 3000000 X_i_WiresOk_2 B_i_WiresOk_2 st) <| .fail
theorem lp_i_WiresOk_2 : ∀ d, bod ⟨lookT tys, ctrOf C_i_WiresOk, kindOf C_i_WiresOk, 3, 4⟩ 0 Try.f74.ntmps Q_i_WiresOk (nthLoop Try.f74 0) K_i_WiresOk_2 3000000 X_i_WiresOk_2 d = B_i_WiresOk_2 d := fun d => by kernel_rfl
theorem lo_i_WiresOk_2 (cx : Cx) (hp : cx.pin.length ≤ 0) : LoopOk Try.prog cx Try.f74.ntmps Q_i_WiresOk (nthLoop Try.f74 0) := loop_of (cfgOk_of mixed tys_ok (show FnsOk Try.prog C_i_WiresOk from ⟨fn_i_WireOk, trivial⟩)) hp (all_of (by kernel_rfl : loopsOf (nthLoop Try.f74 0) = []) trivial) (by kernel_rfl) lp_i_WiresOk_2
theorem e_i_WiresOk : ∀ d, pcall ⟨lookT tys, ctrOf C_i_WiresOk, kindOf C_i_WiresOk, 3, 4⟩ 0 Q_i_WiresOk Try.f74 .plain (mkA P_i_WiresOk d) = (T_i_WiresOk d.1).run fun r => some (O_i_WiresOk r) := fun d => by kernel_rfl
theorem fn_i_WiresOk : Fn Try.prog 74 .plain F_i_WiresOk := fn_of (cfgOk_of mixed tys_ok (show FnsOk Try.prog C_i_WiresOk from ⟨fn_i_WireOk, trivial⟩)) Try.func74 (by kernel_rfl) (by kernel_rfl) (fun cx b hp hb => all_of (by kernel_rfl : loopsOf (Try.f74.body.getD .skip) = [nthLoop Try.f74 0]) ⟨lo_i_WiresOk_2 cx hp, trivial⟩ b hb) (R := (Bool × Unit)) (T := fun (d : aden P_i_WiresOk) => T_i_WiresOk d.1) e_i_WiresOk
def P_i_See : List (Bool × List Sh) := [(false, [.sl 40 [.int .i64, .int .i64, .int .i64, .int .i64, .sl 5 [.int .u8]]]), (true, [.int .i64, .int .i64, .int .i64, .int .i64, .sl 5 [.int .u8]])]
def O_i_See (r : ((List YWire) × Unit)) : List RV × List RV := ([rv (false, [.sl 40 [.int .i64, .int .i64, .int .i64, .int .i64, .sl 5 [.int .u8]]]) r], [])
def C_i_See : Fns := [(68, .plain, F_i_copyWires), (74, .plain, F_i_WiresOk)]
def F_i_See : Fun1 := funV P_i_See (fun d => (T_i_See d.1 d.2.1).val) O_i_See
def Q_i_See : Loops := fun _ _ => .fail
theorem e_i_See : ∀ d, pcall ⟨lookT tys, ctrOf C_i_See, kindOf C_i_See, 3, 4⟩ 0 Q_i_See Try.f25 .plain (mkA P_i_See d) = (T_i_See d.1 d.2.1).run fun r => some (O_i_See r) := fun d => by kernel_rfl
theorem fn_i_See : Fn Try.prog 25 .plain F_i_See := fn_of (cfgOk_of mixed tys_ok (show FnsOk Try.prog C_i_See from ⟨fn_i_copyWires, fn_i_WiresOk, trivial⟩)) Try.func25 (by kernel_rfl) (by kernel_rfl) (fun cx b hp hb => all_of (by kernel_rfl : loopsOf (Try.f25.body.getD .skip) = []) trivial b hb) (R := ((List YWire) × Unit)) (T := fun (d : aden P_i_See) => T_i_See d.1 d.2.1) e_i_See
def P_l_eqAddr : List (Bool × List Sh) := [(true, [.int .i64, .int .i64]), (true, [.int .i64, .int .i64])]
def O_l_eqAddr (r : (Bool × Unit)) : List RV × List RV := ([rv (false, [.bool]) r], [])
def C_l_eqAddr : Fns := []
def F_l_eqAddr : Fun1 := funV P_l_eqAddr (fun d => (T_l_eqAddr d.1 d.2.1).val) O_l_eqAddr
def Q_l_eqAddr : Loops := fun _ _ => .fail
theorem e_l_eqAddr : ∀ d, pcall ⟨lookT tys, ctrOf C_l_eqAddr, kindOf C_l_eqAddr, 3, 4⟩ 0 Q_l_eqAddr Try.f75 .plain (mkA P_l_eqAddr d) = (T_l_eqAddr d.1 d.2.1).run fun r => some (O_l_eqAddr r) := fun d => by kernel_rfl
theorem fn_l_eqAddr : Fn Try.prog 75 .plain F_l_eqAddr := fn_of (cfgOk_of mixed tys_ok (show FnsOk Try.prog C_l_eqAddr from trivial)) Try.func75 (by kernel_rfl) (by kernel_rfl) (fun cx b hp hb => all_of (by kernel_rfl : loopsOf (Try.f75.body.getD .skip) = []) trivial b hb) (R := (Bool × Unit)) (T := fun (d : aden P_l_eqAddr) => T_l_eqAddr d.1 d.2.1) e_l_eqAddr
def P_l_eqByteS : List (Bool × List Sh) := [(false, [.sl 5 [.int .u8]]), (false, [.sl 5 [.int .u8]])]
def O_l_eqByteS (r : (Bool × Unit)) : List RV × List RV := ([rv (false, [.bool]) r], [])
def C_l_eqByteS : Fns := []
def F_l_eqByteS : Fun1 := funV P_l_eqByteS (fun d => (T_l_eqByteS d.1 d.2.1).val) O_l_eqByteS
def K_l_eqByteS_4 : Sk := ⟨[(0, .v false [(.sl 5 [.int .u8], .ro)]), (1, .v false [(.sl 5 [.int .u8], .ro)]), (5, .v false [(.int .i64, .nil)])], [], []⟩
def X_l_eqByteS_4 : List (Ex × Sk) := [(.ret, ⟨[(4, .v false [(.bool, .nil)])], [], []⟩), ((.exit 0), ⟨[], [], []⟩)]
def Q_l_eqByteS : Loops := fun i st => cond (Nat.beq i 4) (lam K_l_eqByteS_4 5000000 X_l_eqByteS_4 B_l_eqByteS_4 st) <| .fail
theorem lp_l_eqByteS_4 : ∀ d, bod ⟨lookT tys, ctrOf C_l_eqByteS, kindOf C_l_eqByteS, 3, 4⟩ 0 Try.f45.ntmps Q_l_eqByteS (nthLoop Try.f45 0) K_l_eqByteS_4 5000000 X_l_eqByteS_4 d = B_l_eqByteS_4 d := fun d => by kernel_rfl
theorem lo_l_eqByteS_4 (cx : Cx) (hp : cx.pin.length ≤ 0) : LoopOk Try.prog cx Try.f45.ntmps Q_l_eqByteS (nthLoop Try.f45 0) := loop_of (cfgOk_of mixed tys_ok (show FnsOk Try.prog C_l_eqByteS from trivial)) hp (all_of (by kernel_rfl : loopsOf (nthLoop Try.f45 0) = []) trivial) (by kernel_rfl) lp_l_eqByteS_4
theorem e_l_eqByteS : ∀ d, pcall ⟨lookT tys, ctrOf C_l_eqByteS, kindOf C_l_eqByteS, 3, 4⟩ 0 Q_l_eqByteS Try.f45 .plain (mkA P_l_eqByteS d) = (T_l_eqByteS d.1 d.2.1).run fun r => some (O_l_eqByteS r) := fun d => by kernel_rfl
theorem fn_l_eqByteS : Fn Try.prog 45 .plain F_l_eqByteS := fn_of (cfgOk_of mixed tys_ok (show FnsOk Try.prog C_l_eqByteS from trivial)) Try.func45 (by kernel_rfl) (by kernel_rfl) (fun cx b hp hb => all_of (by kernel_rfl : loopsOf (Try.f45.body.getD .skip) = [nthLoop Try.f45 0]) ⟨lo_l_eqByteS_4 cx hp, trivial⟩ b hb) (R := (Bool × Unit)) (T := fun (d : aden P_l_eqByteS) => T_l_eqByteS d.1 d.2.1) e_l_eqByteS
def P_l_eqWire : List (Bool × List Sh) := [(true, [.int .i64, .int .i64, .int .i64, .int .i64, .sl 5 [.int .u8]]), (true, [.int .i64, .int .i64, .int .i64, .int .i64, .sl 5 [.int .u8]])]
def O_l_eqWire (r : (Bool × Unit)) : List RV × List RV := ([rv (false, [.bool]) r], [])
def C_l_eqWire : Fns := [(75, .plain, F_l_eqAddr), (45, .plain, F_l_eqByteS)]
def F_l_eqWire : Fun1 := funV P_l_eqWire (fun d => (T_l_eqWire d.1 d.2.1).val) O_l_eqWire
def Q_l_eqWire : Loops := fun _ _ => .fail
theorem e_l_eqWire : ∀ d, pcall ⟨lookT tys, ctrOf C_l_eqWire, kindOf C_l_eqWire, 3, 4⟩ 0 Q_l_eqWire Try.f26 .plain (mkA P_l_eqWire d) = (T_l_eqWire d.1 d.2.1).run fun r => some (O_l_eqWire r) := fun d => by kernel_rfl
theorem fn_l_eqWire : Fn Try.prog 26 .plain F_l_eqWire := fn_of (cfgOk_of mixed tys_ok (show FnsOk Try.prog C_l_eqWire from ⟨fn_l_eqAddr, fn_l_eqByteS, trivial⟩)) Try.func26 (by kernel_rfl) (by kernel_rfl) (fun cx b hp hb => all_of (by kernel_rfl : loopsOf (Try.f26.body.getD .skip) = []) trivial b hb) (R := (Bool × Unit)) (T := fun (d : aden P_l_eqWire) => T_l_eqWire d.1 d.2.1) e_l_eqWire
def P_l_eqWireS : List (Bool × List Sh) := [(false, [.sl 40 [.int .i64, .int .i64, .int .i64, .int .i64, .sl 5 [.int .u8]]]), (false, [.sl 40 [.int .i64, .int .i64, .int .i64, .int .i64, .sl 5 [.int .u8]]])]
def O_l_eqWireS (r : (Bool × Unit)) : List RV × List RV := ([rv (false, [.bool]) r], [])
def C_l_eqWireS : Fns := [(26, .plain, F_l_eqWire)]
def F_l_eqWireS : Fun1 := funV P_l_eqWireS (fun d => (T_l_eqWireS d.1 d.2.1).val) O_l_eqWireS
def K_l_eqWireS_4 : Sk := ⟨[(0, .v false [(.sl 40 [.int .i64, .int .i64, .int .i64, .int .i64, .sl 5 [.int .u8]], .ro)]), (1, .v false [(.sl 40 [.int .i64, .int .i64, .int .i64, .int .i64, .sl 5 [.int .u8]], .ro)]), (5, .v false [(.int .i64, .nil)])], [], []⟩
def X_l_eqWireS_4 : List (Ex × Sk) := [(.ret, ⟨[(4, .v false [(.bool, .nil)])], [], []⟩), ((.exit 0), ⟨[], [], []⟩)]
def Q_l_eqWireS : Loops := fun i st => cond (Nat.beq i 4) (lam K_l_eqWireS_4 5000000 X_l_eqWireS_4 B_l_eqWireS_4 st) <| .fail
theorem lp_l_eqWireS_4 : ∀ d, bod ⟨lookT tys, ctrOf C_l_eqWireS, kindOf C_l_eqWireS, 3, 4⟩ 0 Try.f19.ntmps Q_l_eqWireS (nthLoop Try.f19 0) K_l_eqWireS_4 5000000 X_l_eqWireS_4 d = B_l_eqWireS_4 d := fun d => by kernel_rfl
theorem lo_l_eqWireS_4 (cx : Cx) (hp : cx.pin.length ≤ 0) : LoopOk Try.prog cx Try.f19.ntmps Q_l_eqWireS (nthLoop Try.f19 0) := loop_of (cfgOk_of mixed tys_ok (show FnsOk Try.prog C_l_eqWireS from ⟨fn_l_eqWire, trivial⟩)) hp (all_of (by kernel_rfl : loopsOf (nthLoop Try.f19 0) = []) trivial) (by kernel_rfl) lp_l_eqWireS_4
theorem e_l_eqWireS : ∀ d, pcall ⟨lookT tys, ctrOf C_l_eqWireS, kindOf C_l_eqWireS, 3, 4⟩ 0 Q_l_eqWireS Try.f19 .plain (mkA P_l_eqWireS d) = (T_l_eqWireS d.1 d.2.1).run fun r => some (O_l_eqWireS r) := fun d => by kernel_rfl
theorem fn_l_eqWireS : Fn Try.prog 19 .plain F_l_eqWireS := fn_of (cfgOk_of mixed tys_ok (show FnsOk Try.prog C_l_eqWireS from ⟨fn_l_eqWire, trivial⟩)) Try.func19 (by kernel_rfl) (by kernel_rfl) (fun cx b hp hb => all_of (by kernel_rfl : loopsOf (Try.f19.body.getD .skip) = [nthLoop Try.f19 0]) ⟨lo_l_eqWireS_4 cx hp, trivial⟩ b hb) (R := (Bool × Unit)) (T := fun (d : aden P_l_eqWireS) => T_l_eqWireS d.1 d.2.1) e_l_eqWireS
def P_l_markByteS : List (Bool × List Sh) := [(false, [.sl 5 [.int .u8]]), (false, [.int .i64])]
def O_l_markByteS (r : (YI) × (YBs)) : List RV × List RV := ([rv (false, [.int .i64]) r.1], [rv (false, [.sl 5 [.int .u8]]) r.2])
def C_l_markByteS : Fns := []
def F_l_markByteS : Fun1 := funV P_l_markByteS (fun d => (T_l_markByteS d.1 d.2.1).val) O_l_markByteS
def K_l_markByteS_2 : Sk := ⟨[(0, .v false [(.sl 5 [.int .u8], (.own 3000000))]), (1, .v false [(.int .i64, .nil)]), (5, .v false [(.int .i64, .nil)])], [], [3000000]⟩
def X_l_markByteS_2 : List (Ex × Sk) := [((.exit 0), ⟨[(0, .v false [(.sl 5 [.int .u8], (.own 3000000))]), (1, .v false [(.int .i64, .nil)])], [], [3000000]⟩)]
def Q_l_markByteS : Loops := fun i st => cond (Nat.beq i 2) (lam K_l_markByteS_2 3000000 X_l_markByteS_2 B_l_markByteS_2 st) <| .fail
theorem lp_l_markByteS_2 : ∀ d, bod ⟨lookT tys, ctrOf C_l_markByteS, kindOf C_l_markByteS, 3, 4⟩ 1 Try.f65.ntmps Q_l_markByteS (nthLoop Try.f65 0) K_l_markByteS_2 3000000 X_l_markByteS_2 d = B_l_markByteS_2 d := fun d => by kernel_rfl
theorem lo_l_markByteS_2 (cx : Cx) (hp : cx.pin.length ≤ 1) : LoopOk Try.prog cx Try.f65.ntmps Q_l_markByteS (nthLoop Try.f65 0) := loop_of (cfgOk_of mixed tys_ok (show FnsOk Try.prog C_l_markByteS from trivial)) hp (all_of (by kernel_rfl : loopsOf (nthLoop Try.f65 0) = []) trivial) (by kernel_rfl) lp_l_markByteS_2
theorem e_l_markByteS : ∀ d, pcall ⟨lookT tys, ctrOf C_l_markByteS, kindOf C_l_markByteS, 3, 4⟩ 1 Q_l_markByteS Try.f65 (.lend [1]) (mkA P_l_markByteS d) = (T_l_markByteS d.1 d.2.1).run fun r => some (O_l_markByteS r) := fun d => by kernel_rfl
theorem fn_l_markByteS : Fn Try.prog 65 (.lend [1]) F_l_markByteS := fn_of (cfgOk_of mixed tys_ok (show FnsOk Try.prog C_l_markByteS from trivial)) Try.func65 (by kernel_rfl) (by kernel_rfl) (fun cx b hp hb => all_of (by kernel_rfl : loopsOf (Try.f65.body.getD .skip) = [nthLoop Try.f65 0]) ⟨lo_l_markByteS_2 cx hp, trivial⟩ b hb) (R := (YI) × (YBs)) (T := fun (d : aden P_l_markByteS) => T_l_markByteS d.1 d.2.1) e_l_markByteS
def P_l_markWireS : List (Bool × List Sh) := [(false, [.sl 40 [.int .i64, .int .i64, .int .i64, .int .i64, .sl 5 [.int .u8]]]), (false, [.int .i64])]
def O_l_markWireS (r : (YI) × ((List YWire) × Unit)) : List RV × List RV := ([rv (false, [.int .i64]) r.1], [rv (false, [.sl 40 [.int .i64, .int .i64, .int .i64, .int .i64, .sl 5 [.int .u8]]]) r.2])
def C_l_markWireS : Fns := [(65, (.lend [1]), F_l_markByteS)]
def F_l_markWireS : Fun1 := funV P_l_markWireS (fun d => (T_l_markWireS d.1 d.2.1).val) O_l_markWireS
def K_l_markWireS_2 : Sk := ⟨[(0, .v false [(.sl 40 [.int .i64, .int .i64, .int .i64, .int .i64, .sl 5 [.int .u8]], (.own 3000000))]), (1, .v false [(.int .i64, .nil)]), (5, .v false [(.int .i64, .nil)])], [], [3000000]⟩
def X_l_markWireS_2 : List (Ex × Sk) := [((.exit 0), ⟨[(0, .v false [(.sl 40 [.int .i64, .int .i64, .int .i64, .int .i64, .sl 5 [.int .u8]], (.own 3000000))]), (1, .v false [(.int .i64, .nil)])], [], [3000000]⟩)]
def Q_l_markWireS : Loops := fun i st => cond (Nat.beq i 2) (lam K_l_markWireS_2 3000000 X_l_markWireS_2 B_l_markWireS_2 st) <| .fail
theorem lp_l_markWireS_2 : ∀ d, bod ⟨lookT tys, ctrOf C_l_markWireS, kindOf C_l_markWireS, 3, 4⟩ 1 Try.f20.ntmps Q_l_markWireS (nthLoop Try.f20 0) K_l_markWireS_2 3000000 X_l_markWireS_2 d = B_l_markWireS_2 d := fun d => by kernel_rfl
theorem lo_l_markWireS_2 (cx : Cx) (hp : cx.pin.length ≤ 1) : LoopOk Try.prog cx Try.f20.ntmps Q_l_markWireS (nthLoop Try.f20 0) := loop_of (cfgOk_of mixed tys_ok (show FnsOk Try.prog C_l_markWireS from ⟨fn_l_markByteS, trivial⟩)) hp (all_of (by kernel_rfl : loopsOf (nthLoop Try.f20 0) = []) trivial) (by kernel_rfl) lp_l_markWireS_2
theorem e_l_markWireS : ∀ d, pcall ⟨lookT tys, ctrOf C_l_markWireS, kindOf C_l_markWireS, 3, 4⟩ 1 Q_l_markWireS Try.f20 (.lend [1]) (mkA P_l_markWireS d) = (T_l_markWireS d.1 d.2.1).run fun r => some (O_l_markWireS r) := fun d => by kernel_rfl
theorem fn_l_markWireS : Fn Try.prog 20 (.lend [1]) F_l_markWireS := fn_of (cfgOk_of mixed tys_ok (show FnsOk Try.prog C_l_markWireS from ⟨fn_l_markByteS, trivial⟩)) Try.func20 (by kernel_rfl) (by kernel_rfl) (fun cx b hp hb => all_of (by kernel_rfl : loopsOf (Try.f20.body.getD .skip) = [nthLoop Try.f20 0]) ⟨lo_l_markWireS_2 cx hp, trivial⟩ b hb) (R := (YI) × ((List YWire) × Unit)) (T := fun (d : aden P_l_markWireS) => T_l_markWireS d.1 d.2.1) e_l_markWireS
def P_l_markWire : List (Bool × List Sh) := [(true, [.int .i64, .int .i64, .int .i64, .int .i64, .sl 5 [.int .u8]]), (false, [.int .i64])]
def O_l_markWire (r : (YI) × (YWire)) : List RV × List RV := ([rv (false, [.int .i64]) r.1], [rv (true, [.int .i64, .int .i64, .int .i64, .int .i64, .sl 5 [.int .u8]]) r.2])
def C_l_markWire : Fns := [(65, (.lend [1]), F_l_markByteS)]
def F_l_markWire : Fun1 := funV P_l_markWire (fun d => (T_l_markWire d.1 d.2.1).val) O_l_markWire
def Q_l_markWire : Loops := fun _ _ => .fail
theorem e_l_markWire : ∀ d, pcall ⟨lookT tys, ctrOf C_l_markWire, kindOf C_l_markWire, 3, 4⟩ 1 Q_l_markWire Try.f27 (.lend [1]) (mkA P_l_markWire d) = (T_l_markWire d.1 d.2.1).run fun r => some (O_l_markWire r) := fun d => by kernel_rfl
theorem fn_l_markWire : Fn Try.prog 27 (.lend [1]) F_l_markWire := fn_of (cfgOk_of mixed tys_ok (show FnsOk Try.prog C_l_markWire from ⟨fn_l_markByteS, trivial⟩)) Try.func27 (by kernel_rfl) (by kernel_rfl) (fun cx b hp hb => all_of (by kernel_rfl : loopsOf (Try.f27.body.getD .skip) = []) trivial b hb) (R := (YI) × (YWire)) (T := fun (d : aden P_l_markWire) => T_l_markWire d.1 d.2.1) e_l_markWire
def P_l_heldByteS : List (Bool × List Sh) := [(false, [.sl 5 [.int .u8]]), (false, [.int .i64])]
def O_l_heldByteS (r : (YI)) : List RV × List RV := ([rv (false, [.int .i64]) r], [])
def C_l_heldByteS : Fns := []
def F_l_heldByteS : Fun1 := funV P_l_heldByteS (fun d => (T_l_heldByteS d.1 d.2.1).val) O_l_heldByteS
def K_l_heldByteS_2 : Sk := ⟨[(0, .v false [(.sl 5 [.int .u8], .ro)]), (1, .v false [(.int .i64, .nil)]), (5, .v false [(.int .i64, .nil)])], [], []⟩
def X_l_heldByteS_2 : List (Ex × Sk) := [(.ret, ⟨[(4, .v false [(.int .i64, .nil)])], [], []⟩), ((.exit 0), ⟨[(1, .v false [(.int .i64, .nil)])], [], []⟩)]
def Q_l_heldByteS : Loops := fun i st => cond (Nat.beq i 2) (lam K_l_heldByteS_2 3000000 X_l_heldByteS_2 B_l_heldByteS_2 st) <| .fail
theorem lp_l_heldByteS_2 : ∀ d, bod ⟨lookT tys, ctrOf C_l_heldByteS, kindOf C_l_heldByteS, 3, 4⟩ 0 Try.f69.ntmps Q_l_heldByteS (nthLoop Try.f69 0) K_l_heldByteS_2 3000000 X_l_heldByteS_2 d = B_l_heldByteS_2 d := fun d => by kernel_rfl
theorem lo_l_heldByteS_2 (cx : Cx) (hp : cx.pin.length ≤ 0) : LoopOk Try.prog cx Try.f69.ntmps Q_l_heldByteS (nthLoop Try.f69 0) := loop_of (cfgOk_of mixed tys_ok (show FnsOk Try.prog C_l_heldByteS from trivial)) hp (all_of (by kernel_rfl : loopsOf (nthLoop Try.f69 0) = []) trivial) (by kernel_rfl) lp_l_heldByteS_2
theorem e_l_heldByteS : ∀ d, pcall ⟨lookT tys, ctrOf C_l_heldByteS, kindOf C_l_heldByteS, 3, 4⟩ 0 Q_l_heldByteS Try.f69 .plain (mkA P_l_heldByteS d) = (T_l_heldByteS d.1 d.2.1).run fun r => some (O_l_heldByteS r) := fun d => by kernel_rfl
theorem fn_l_heldByteS : Fn Try.prog 69 .plain F_l_heldByteS := fn_of (cfgOk_of mixed tys_ok (show FnsOk Try.prog C_l_heldByteS from trivial)) Try.func69 (by kernel_rfl) (by kernel_rfl) (fun cx b hp hb => all_of (by kernel_rfl : loopsOf (Try.f69.body.getD .skip) = [nthLoop Try.f69 0]) ⟨lo_l_heldByteS_2 cx hp, trivial⟩ b hb) (R := (YI)) (T := fun (d : aden P_l_heldByteS) => T_l_heldByteS d.1 d.2.1) e_l_heldByteS
def P_l_heldWireS : List (Bool × List Sh) := [(false, [.sl 40 [.int .i64, .int .i64, .int .i64, .int .i64, .sl 5 [.int .u8]]]), (false, [.int .i64])]
def O_l_heldWireS (r : (YI)) : List RV × List RV := ([rv (false, [.int .i64]) r], [])
def C_l_heldWireS : Fns := [(69, .plain, F_l_heldByteS)]
def F_l_heldWireS : Fun1 := funV P_l_heldWireS (fun d => (T_l_heldWireS d.1 d.2.1).val) O_l_heldWireS
def K_l_heldWireS_2 : Sk := ⟨[(0, .v false [(.sl 40 [.int .i64, .int .i64, .int .i64, .int .i64, .sl 5 [.int .u8]], .ro)]), (1, .v false [(.int .i64, .nil)]), (5, .v false [(.int .i64, .nil)])], [], []⟩
def X_l_heldWireS_2 : List (Ex × Sk) := [(.ret, ⟨[(4, .v false [(.int .i64, .nil)])], [], []⟩), ((.exit 0), ⟨[(1, .v false [(.int .i64, .nil)])], [], []⟩)]
def Q_l_heldWireS : Loops := fun i st => cond (Nat.beq i 2) (lam K_l_heldWireS_2 3000000 X_l_heldWireS_2 B_l_heldWireS_2 st) <| .fail
theorem lp_l_heldWireS_2 : ∀ d, bod ⟨lookT tys, ctrOf C_l_heldWireS, kindOf C_l_heldWireS, 3, 4⟩ 0 Try.f21.ntmps Q_l_heldWireS (nthLoop Try.f21 0) K_l_heldWireS_2 3000000 X_l_heldWireS_2 d = B_l_heldWireS_2 d := fun d => by kernel_rfl
theorem lo_l_heldWireS_2 (cx : Cx) (hp : cx.pin.length ≤ 0) : LoopOk Try.prog cx Try.f21.ntmps Q_l_heldWireS (nthLoop Try.f21 0) := loop_of (cfgOk_of mixed tys_ok (show FnsOk Try.prog C_l_heldWireS from ⟨fn_l_heldByteS, trivial⟩)) hp (all_of (by kernel_rfl : loopsOf (nthLoop Try.f21 0) = []) trivial) (by kernel_rfl) lp_l_heldWireS_2
theorem e_l_heldWireS : ∀ d, pcall ⟨lookT tys, ctrOf C_l_heldWireS, kindOf C_l_heldWireS, 3, 4⟩ 0 Q_l_heldWireS Try.f21 .plain (mkA P_l_heldWireS d) = (T_l_heldWireS d.1 d.2.1).run fun r => some (O_l_heldWireS r) := fun d => by kernel_rfl
theorem fn_l_heldWireS : Fn Try.prog 21 .plain F_l_heldWireS := fn_of (cfgOk_of mixed tys_ok (show FnsOk Try.prog C_l_heldWireS from ⟨fn_l_heldByteS, trivial⟩)) Try.func21 (by kernel_rfl) (by kernel_rfl) (fun cx b hp hb => all_of (by kernel_rfl : loopsOf (Try.f21.body.getD .skip) = [nthLoop Try.f21 0]) ⟨lo_l_heldWireS_2 cx hp, trivial⟩ b hb) (R := (YI)) (T := fun (d : aden P_l_heldWireS) => T_l_heldWireS d.1 d.2.1) e_l_heldWireS
def P_l_FnExactSee : List (Bool × List Sh) := [(false, [.sl 36 [.int .i64, .int .i64, .int .i64, .int .i64, .sl 5 [.int .u8]]]), (true, [.int .i64, .int .i64, .int .i64, .int .i64, .sl 5 [.int .u8]])]
def O_l_FnExactSee (r : (Bool × Unit)) : List RV × List RV := ([rv (false, [.bool]) r], [])
def C_l_FnExactSee : Fns := [(14, .plain, F_l_szWireS), (22, .plain, F_l_szWire), (16, .plain, F_l_toWireS), (24, .plain, F_l_toWire), (23, .plain, F_s_See), (25, .plain, F_i_See), (19, .plain, F_l_eqWireS), (26, .plain, F_l_eqWire), (20, (.lend [1]), F_l_markWireS), (27, (.lend [1]), F_l_markWire), (21, .plain, F_l_heldWireS)]
def F_l_FnExactSee : Fun1 := funV P_l_FnExactSee (fun d => (T_l_FnExactSee d.1 d.2.1).val) O_l_FnExactSee
def Q_l_FnExactSee : Loops := fun _ _ => .fail
theorem e_l_FnExactSee : ∀ d, pcall ⟨lookT tys, ctrOf C_l_FnExactSee, kindOf C_l_FnExactSee, 3, 4⟩ 0 Q_l_FnExactSee Try.f4 .plain (mkA P_l_FnExactSee d) = (T_l_FnExactSee d.1 d.2.1).run fun r => some (O_l_FnExactSee r) := fun d => by kernel_rfl
theorem fn_l_FnExactSee : Fn Try.prog 4 .plain F_l_FnExactSee := fn_of (cfgOk_of mixed tys_ok (show FnsOk Try.prog C_l_FnExactSee from ⟨fn_l_szWireS, fn_l_szWire, fn_l_toWireS, fn_l_toWire, fn_s_See, fn_i_See, fn_l_eqWireS, fn_l_eqWire, fn_l_markWireS, fn_l_markWire, fn_l_heldWireS, trivial⟩)) Try.func4 (by kernel_rfl) (by kernel_rfl) (fun cx b hp hb => all_of (by kernel_rfl : loopsOf (Try.f4.body.getD .skip) = []) trivial b hb) (R := (Bool × Unit)) (T := fun (d : aden P_l_FnExactSee) => T_l_FnExactSee d.1 d.2.1) e_l_FnExactSee
def P_l_szFrame : List (Bool × List Sh) := [(true, [.int .i64, .int .i64, .sl 5 [.int .u8], .sl 5 [.int .u8], .int .i64, .sl 5 [.int .u8], .sl 5 [.int .u8], .int .i64, .int .i64, .sl 5 [.int .u8], .sl 5 [.int .u8]]), (false, [.int .i64])]
def O_l_szFrame (r : (YI)) : List RV × List RV := ([rv (false, [.int .i64]) r], [])
def C_l_szFrame : Fns := [(70, .plain, F_l_szByteS)]
def F_l_szFrame : Fun1 := funV P_l_szFrame (fun d => (T_l_szFrame d.1 d.2.1).val) O_l_szFrame
def Q_l_szFrame : Loops := fun _ _ => .fail
theorem e_l_szFrame : ∀ d, pcall ⟨lookT tys, ctrOf C_l_szFrame, kindOf C_l_szFrame, 3, 4⟩ 0 Q_l_szFrame Try.f28 .plain (mkA P_l_szFrame d) = (T_l_szFrame d.1 d.2.1).run fun r => some (O_l_szFrame r) := fun d => by kernel_rfl
theorem fn_l_szFrame : Fn Try.prog 28 .plain F_l_szFrame := fn_of (cfgOk_of mixed tys_ok (show FnsOk Try.prog C_l_szFrame from ⟨fn_l_szByteS, trivial⟩)) Try.func28 (by kernel_rfl) (by kernel_rfl) (fun cx b hp hb => all_of (by kernel_rfl : loopsOf (Try.f28.body.getD .skip) = []) trivial b hb) (R := (YI)) (T := fun (d : aden P_l_szFrame) => T_l_szFrame d.1 d.2.1) e_l_szFrame
def P_l_toFrame : List (Bool × List Sh) := [(true, [.int .i64, .int .i64, .sl 5 [.int .u8], .sl 5 [.int .u8], .int .i64, .sl 5 [.int .u8], .sl 5 [.int .u8], .int .i64, .int .i64, .sl 5 [.int .u8], .sl 5 [.int .u8]])]
def O_l_toFrame (r : (YFrame)) : List RV × List RV := ([rv (true, [.int .i64, .int .i64, .sl 5 [.int .u8], .sl 5 [.int .u8], .int .i64, .sl 5 [.int .u8], .sl 5 [.int .u8], .int .i64, .int .i64, .sl 5 [.int .u8], .sl 5 [.int .u8]]) r], [])
def C_l_toFrame : Fns := [(43, .plain, F_l_toByteS)]
def F_l_toFrame : Fun1 := funV P_l_toFrame (fun d => (T_l_toFrame d.1).val) O_l_toFrame
def Q_l_toFrame : Loops := fun _ _ => .fail
theorem e_l_toFrame : ∀ d, pcall ⟨lookT tys, ctrOf C_l_toFrame, kindOf C_l_toFrame, 3, 4⟩ 0 Q_l_toFrame Try.f30 .plain (mkA P_l_toFrame d) = (T_l_toFrame d.1).run fun r => some (O_l_toFrame r) := fun d => by kernel_rfl
theorem fn_l_toFrame : Fn Try.prog 30 .plain F_l_toFrame := fn_of (cfgOk_of mixed tys_ok (show FnsOk Try.prog C_l_toFrame from ⟨fn_l_toByteS, trivial⟩)) Try.func30 (by kernel_rfl) (by kernel_rfl) (fun cx b hp hb => all_of (by kernel_rfl : loopsOf (Try.f30.body.getD .skip) = []) trivial b hb) (R := (YFrame)) (T := fun (d : aden P_l_toFrame) => T_l_toFrame d.1) e_l_toFrame
def P_s_Sealed : List (Bool × List Sh) := [(false, [.int .i64])]
def O_s_Sealed (r : (Bool × Unit)) : List RV × List RV := ([rv (false, [.bool]) r], [])
def C_s_Sealed : Fns := [(83, .plain, F_s_l1In)]
def F_s_Sealed : Fun1 := funV P_s_Sealed (fun d => (T_s_Sealed d.1).val) O_s_Sealed
def Q_s_Sealed : Loops := fun _ _ => .fail
theorem e_s_Sealed : ∀ d, pcall ⟨lookT tys, ctrOf C_s_Sealed, kindOf C_s_Sealed, 3, 4⟩ 0 Q_s_Sealed Try.f152 .plain (mkA P_s_Sealed d) = (T_s_Sealed d.1).run fun r => some (O_s_Sealed r) := fun d => by kernel_rfl
theorem fn_s_Sealed : Fn Try.prog 152 .plain F_s_Sealed := fn_of (cfgOk_of mixed tys_ok (show FnsOk Try.prog C_s_Sealed from ⟨fn_s_l1In, trivial⟩)) Try.func152 (by kernel_rfl) (by kernel_rfl) (fun cx b hp hb => all_of (by kernel_rfl : loopsOf (Try.f152.body.getD .skip) = []) trivial b hb) (R := (Bool × Unit)) (T := fun (d : aden P_s_Sealed) => T_s_Sealed d.1) e_s_Sealed
def P_s_l7Body : List (Bool × List Sh) := [(false, [.int .i64]), (false, [.int .i64])]
def O_s_l7Body (r : (Bool × Unit)) : List RV × List RV := ([rv (false, [.bool]) r], [])
def C_s_l7Body : Fns := []
def F_s_l7Body : Fun1 := funV P_s_l7Body (fun d => (T_s_l7Body d.1 d.2.1).val) O_s_l7Body
def Q_s_l7Body : Loops := fun _ _ => .fail
theorem e_s_l7Body : ∀ d, pcall ⟨lookT tys, ctrOf C_s_l7Body, kindOf C_s_l7Body, 3, 4⟩ 0 Q_s_l7Body Try.f153 .plain (mkA P_s_l7Body d) = (T_s_l7Body d.1 d.2.1).run fun r => some (O_s_l7Body r) := fun d => by kernel_rfl
theorem fn_s_l7Body : Fn Try.prog 153 .plain F_s_l7Body := fn_of (cfgOk_of mixed tys_ok (show FnsOk Try.prog C_s_l7Body from trivial)) Try.func153 (by kernel_rfl) (by kernel_rfl) (fun cx b hp hb => all_of (by kernel_rfl : loopsOf (Try.f153.body.getD .skip) = []) trivial b hb) (R := (Bool × Unit)) (T := fun (d : aden P_s_l7Body) => T_s_l7Body d.1 d.2.1) e_s_l7Body
def P_s_FrameOk : List (Bool × List Sh) := [(true, [.int .i64, .int .i64, .sl 5 [.int .u8], .sl 5 [.int .u8], .int .i64, .sl 5 [.int .u8], .sl 5 [.int .u8], .int .i64, .int .i64, .sl 5 [.int .u8], .sl 5 [.int .u8]])]
def O_s_FrameOk (r : (Bool × Unit)) : List RV × List RV := ([rv (false, [.bool]) r], [])
def C_s_FrameOk : Fns := [(152, .plain, F_s_Sealed), (83, .plain, F_s_l1In), (153, .plain, F_s_l7Body)]
def F_s_FrameOk : Fun1 := funV P_s_FrameOk (fun d => (T_s_FrameOk d.1).val) O_s_FrameOk
def Q_s_FrameOk : Loops := fun _ _ => .fail
theorem e_s_FrameOk : ∀ d, pcall ⟨lookT tys, ctrOf C_s_FrameOk, kindOf C_s_FrameOk, 3, 4⟩ 0 Q_s_FrameOk Try.f126 .plain (mkA P_s_FrameOk d) = (T_s_FrameOk d.1).run fun r => some (O_s_FrameOk r) := fun d => by kernel_rfl
theorem fn_s_FrameOk : Fn Try.prog 126 .plain F_s_FrameOk := fn_of (cfgOk_of mixed tys_ok (show FnsOk Try.prog C_s_FrameOk from ⟨fn_s_Sealed, fn_s_l1In, fn_s_l7Body, trivial⟩)) Try.func126 (by kernel_rfl) (by kernel_rfl) (fun cx b hp hb => all_of (by kernel_rfl : loopsOf (Try.f126.body.getD .skip) = []) trivial b hb) (R := (Bool × Unit)) (T := fun (d : aden P_s_FrameOk) => T_s_FrameOk d.1) e_s_FrameOk
def P_s_PutN : List (Bool × List Sh) := [(false, [.sl 5 [.int .u8]]), (false, [.int .i64]), (false, [.int .i64])]
def O_s_PutN (r : (YBs)) : List RV × List RV := ([rv (false, [.sl 5 [.int .u8]]) r], [])
def C_s_PutN : Fns := []
def F_s_PutN : Fun1 := funV P_s_PutN (fun d => (T_s_PutN d.1 d.2.1 d.2.2.1).val) O_s_PutN
def K_s_PutN_5 : Sk := ⟨[(1, .v false [(.int .i64, .nil)]), (7, .v false [(.sl 5 [.int .u8], (.own 6000000))]), (8, .v false [(.int .i64, .nil)])], [], [6000000]⟩
def X_s_PutN_5 : List (Ex × Sk) := [((.exit 0), ⟨[(7, .v false [(.sl 5 [.int .u8], (.own 6000000))])], [], [6000000]⟩)]
def Q_s_PutN : Loops := fun i st => cond (Nat.beq i 5) (lam K_s_PutN_5 6000000 X_s_PutN_5 B_s_PutN_5 st) <| .fail
theorem lp_s_PutN_5 : ∀ d, bod ⟨lookT tys, ctrOf C_s_PutN, kindOf C_s_PutN, 3, 4⟩ 0 Try.f116.ntmps Q_s_PutN (nthLoop Try.f116 0) K_s_PutN_5 6000000 X_s_PutN_5 d = B_s_PutN_5 d := fun d => by kernel_rfl
theorem lo_s_PutN_5 (cx : Cx) (hp : cx.pin.length ≤ 0) : LoopOk Try.prog cx Try.f116.ntmps Q_s_PutN (nthLoop Try.f116 0) := loop_of (cfgOk_of mixed tys_ok (show FnsOk Try.prog C_s_PutN from trivial)) hp (all_of (by kernel_rfl : loopsOf (nthLoop Try.f116 0) = []) trivial) (by kernel_rfl) lp_s_PutN_5
theorem e_s_PutN : ∀ d, pcall ⟨lookT tys, ctrOf C_s_PutN, kindOf C_s_PutN, 3, 4⟩ 0 Q_s_PutN Try.f116 .plain (mkA P_s_PutN d) = (T_s_PutN d.1 d.2.1 d.2.2.1).run fun r => some (O_s_PutN r) := fun d => by kernel_rfl
theorem fn_s_PutN : Fn Try.prog 116 .plain F_s_PutN := fn_of (cfgOk_of mixed tys_ok (show FnsOk Try.prog C_s_PutN from trivial)) Try.func116 (by kernel_rfl) (by kernel_rfl) (fun cx b hp hb => all_of (by kernel_rfl : loopsOf (Try.f116.body.getD .skip) = [nthLoop Try.f116 0]) ⟨lo_s_PutN_5 cx hp, trivial⟩ b hb) (R := (YBs)) (T := fun (d : aden P_s_PutN) => T_s_PutN d.1 d.2.1 d.2.2.1) e_s_PutN
def P_s_PutFrame : List (Bool × List Sh) := [(true, [.int .i64, .int .i64, .sl 5 [.int .u8], .sl 5 [.int .u8], .int .i64, .sl 5 [.int .u8], .sl 5 [.int .u8], .int .i64, .int .i64, .sl 5 [.int .u8], .sl 5 [.int .u8]])]
def O_s_PutFrame (r : (YBs)) : List RV × List RV := ([rv (false, [.sl 5 [.int .u8]]) r], [])
def C_s_PutFrame : Fns := [(126, .plain, F_s_FrameOk), (116, .plain, F_s_PutN)]
def F_s_PutFrame : Fun1 := funV P_s_PutFrame (fun d => (T_s_PutFrame d.1).val) O_s_PutFrame
def K_s_PutFrame_10 : Sk := ⟨[(3, .v false [(.sl 5 [.int .u8], (.own 11000000))]), (4, .v false [(.int .i64, .nil)])], [], [11000000]⟩
def X_s_PutFrame_10 : List (Ex × Sk) := [((.exit 1), ⟨[(3, .v false [(.sl 5 [.int .u8], (.own 11000000))])], [], [11000000]⟩)]
def Q_s_PutFrame : Loops := fun i st => cond (Nat.beq i 10) (lam K_s_PutFrame_10 11000000 X_s_PutFrame_10 B_s_PutFrame_10 st) <| .fail
theorem lp_s_PutFrame_10 : ∀ d, bod ⟨lookT tys, ctrOf C_s_PutFrame, kindOf C_s_PutFrame, 3, 4⟩ 0 Try.f76.ntmps Q_s_PutFrame (nthLoop Try.f76 0) K_s_PutFrame_10 11000000 X_s_PutFrame_10 d = B_s_PutFrame_10 d := fun d => by kernel_rfl
theorem lo_s_PutFrame_10 (cx : Cx) (hp : cx.pin.length ≤ 0) : LoopOk Try.prog cx Try.f76.ntmps Q_s_PutFrame (nthLoop Try.f76 0) := loop_of (cfgOk_of mixed tys_ok (show FnsOk Try.prog C_s_PutFrame from ⟨fn_s_FrameOk, fn_s_PutN, trivial⟩)) hp (all_of (by kernel_rfl : loopsOf (nthLoop Try.f76 0) = []) trivial) (by kernel_rfl) lp_s_PutFrame_10
theorem e_s_PutFrame : ∀ d, pcall ⟨lookT tys, ctrOf C_s_PutFrame, kindOf C_s_PutFrame, 3, 4⟩ 0 Q_s_PutFrame Try.f76 .plain (mkA P_s_PutFrame d) = (T_s_PutFrame d.1).run fun r => some (O_s_PutFrame r) := fun d => by kernel_rfl
theorem fn_s_PutFrame : Fn Try.prog 76 .plain F_s_PutFrame := fn_of (cfgOk_of mixed tys_ok (show FnsOk Try.prog C_s_PutFrame from ⟨fn_s_FrameOk, fn_s_PutN, trivial⟩)) Try.func76 (by kernel_rfl) (by kernel_rfl) (fun cx b hp hb => all_of (by kernel_rfl : loopsOf (Try.f76.body.getD .skip) = [nthLoop Try.f76 0]) ⟨lo_s_PutFrame_10 cx hp, trivial⟩ b hb) (R := (YBs)) (T := fun (d : aden P_s_PutFrame) => T_s_PutFrame d.1) e_s_PutFrame
def P_s_WireFrom : List (Bool × List Sh) := [(true, [.int .i64, .int .i64]), (true, [.int .i64, .int .i64]), (true, [.int .i64, .int .i64, .sl 5 [.int .u8], .sl 5 [.int .u8], .int .i64, .sl 5 [.int .u8], .sl 5 [.int .u8], .int .i64, .int .i64, .sl 5 [.int .u8], .sl 5 [.int .u8]])]
def O_s_WireFrom (r : (YWire)) : List RV × List RV := ([rv (true, [.int .i64, .int .i64, .int .i64, .int .i64, .sl 5 [.int .u8]]) r], [])
def C_s_WireFrom : Fns := [(76, .plain, F_s_PutFrame)]
def F_s_WireFrom : Fun1 := funV P_s_WireFrom (fun d => (T_s_WireFrom d.1 d.2.1 d.2.2.1).val) O_s_WireFrom
def Q_s_WireFrom : Loops := fun _ _ => .fail
theorem e_s_WireFrom : ∀ d, pcall ⟨lookT tys, ctrOf C_s_WireFrom, kindOf C_s_WireFrom, 3, 4⟩ 0 Q_s_WireFrom Try.f29 .plain (mkA P_s_WireFrom d) = (T_s_WireFrom d.1 d.2.1 d.2.2.1).run fun r => some (O_s_WireFrom r) := fun d => by kernel_rfl
theorem fn_s_WireFrom : Fn Try.prog 29 .plain F_s_WireFrom := fn_of (cfgOk_of mixed tys_ok (show FnsOk Try.prog C_s_WireFrom from ⟨fn_s_PutFrame, trivial⟩)) Try.func29 (by kernel_rfl) (by kernel_rfl) (fun cx b hp hb => all_of (by kernel_rfl : loopsOf (Try.f29.body.getD .skip) = []) trivial b hb) (R := (YWire)) (T := fun (d : aden P_s_WireFrom) => T_s_WireFrom d.1 d.2.1 d.2.2.1) e_s_WireFrom
def P_i_isNonce : List (Bool × List Sh) := [(false, [.sl 5 [.int .u8]])]
def O_i_isNonce (r : (Bool × Unit)) : List RV × List RV := ([rv (false, [.bool]) r], [])
def C_i_isNonce : Fns := []
def F_i_isNonce : Fun1 := funV P_i_isNonce (fun d => (T_i_isNonce d.1).val) O_i_isNonce
def Q_i_isNonce : Loops := fun _ _ => .fail
theorem e_i_isNonce : ∀ d, pcall ⟨lookT tys, ctrOf C_i_isNonce, kindOf C_i_isNonce, 3, 4⟩ 0 Q_i_isNonce Try.f95 .plain (mkA P_i_isNonce d) = (T_i_isNonce d.1).run fun r => some (O_i_isNonce r) := fun d => by kernel_rfl
theorem fn_i_isNonce : Fn Try.prog 95 .plain F_i_isNonce := fn_of (cfgOk_of mixed tys_ok (show FnsOk Try.prog C_i_isNonce from trivial)) Try.func95 (by kernel_rfl) (by kernel_rfl) (fun cx b hp hb => all_of (by kernel_rfl : loopsOf (Try.f95.body.getD .skip) = []) trivial b hb) (R := (Bool × Unit)) (T := fun (d : aden P_i_isNonce) => T_i_isNonce d.1) e_i_isNonce
def P_i_Sealed : List (Bool × List Sh) := [(false, [.int .i64])]
def O_i_Sealed (r : (Bool × Unit)) : List RV × List RV := ([rv (false, [.bool]) r], [])
def C_i_Sealed : Fns := [(84, .plain, F_i_within)]
def F_i_Sealed : Fun1 := funV P_i_Sealed (fun d => (T_i_Sealed d.1).val) O_i_Sealed
def Q_i_Sealed : Loops := fun _ _ => .fail
theorem e_i_Sealed : ∀ d, pcall ⟨lookT tys, ctrOf C_i_Sealed, kindOf C_i_Sealed, 3, 4⟩ 0 Q_i_Sealed Try.f156 .plain (mkA P_i_Sealed d) = (T_i_Sealed d.1).run fun r => some (O_i_Sealed r) := fun d => by kernel_rfl
theorem fn_i_Sealed : Fn Try.prog 156 .plain F_i_Sealed := fn_of (cfgOk_of mixed tys_ok (show FnsOk Try.prog C_i_Sealed from ⟨fn_i_within, trivial⟩)) Try.func156 (by kernel_rfl) (by kernel_rfl) (fun cx b hp hb => all_of (by kernel_rfl : loopsOf (Try.f156.body.getD .skip) = []) trivial b hb) (R := (Bool × Unit)) (T := fun (d : aden P_i_Sealed) => T_i_Sealed d.1) e_i_Sealed
def P_i_bodyOk : List (Bool × List Sh) := [(false, [.int .i64]), (false, [.int .i64])]
def O_i_bodyOk (r : (Bool × Unit)) : List RV × List RV := ([rv (false, [.bool]) r], [])
def C_i_bodyOk : Fns := []
def F_i_bodyOk : Fun1 := funV P_i_bodyOk (fun d => (T_i_bodyOk d.1 d.2.1).val) O_i_bodyOk
def Q_i_bodyOk : Loops := fun _ _ => .fail
theorem e_i_bodyOk : ∀ d, pcall ⟨lookT tys, ctrOf C_i_bodyOk, kindOf C_i_bodyOk, 3, 4⟩ 0 Q_i_bodyOk Try.f160 .plain (mkA P_i_bodyOk d) = (T_i_bodyOk d.1 d.2.1).run fun r => some (O_i_bodyOk r) := fun d => by kernel_rfl
theorem fn_i_bodyOk : Fn Try.prog 160 .plain F_i_bodyOk := fn_of (cfgOk_of mixed tys_ok (show FnsOk Try.prog C_i_bodyOk from trivial)) Try.func160 (by kernel_rfl) (by kernel_rfl) (fun cx b hp hb => all_of (by kernel_rfl : loopsOf (Try.f160.body.getD .skip) = []) trivial b hb) (R := (Bool × Unit)) (T := fun (d : aden P_i_bodyOk) => T_i_bodyOk d.1 d.2.1) e_i_bodyOk
def P_bytes_Equal : List (Bool × List Sh) := [(false, [.sl 5 [.int .u8]]), (false, [.sl 5 [.int .u8]])]
def O_bytes_Equal (r : (Bool × Unit)) : List RV × List RV := ([rv (false, [.bool]) r], [])
def C_bytes_Equal : Fns := []
def F_bytes_Equal : Fun1 := funV P_bytes_Equal (fun d => (T_bytes_Equal d.1 d.2.1).val) O_bytes_Equal
def Q_bytes_Equal : Loops := fun _ _ => .fail
theorem e_bytes_Equal : ∀ d, pcall ⟨lookT tys, ctrOf C_bytes_Equal, kindOf C_bytes_Equal, 3, 4⟩ 0 Q_bytes_Equal Try.f82 .plain (mkA P_bytes_Equal d) = (T_bytes_Equal d.1 d.2.1).run fun r => some (O_bytes_Equal r) := fun d => by kernel_rfl
theorem fn_bytes_Equal : Fn Try.prog 82 .plain F_bytes_Equal := fn_of (cfgOk_of mixed tys_ok (show FnsOk Try.prog C_bytes_Equal from trivial)) Try.func82 (by kernel_rfl) (by kernel_rfl) (fun cx b hp hb => all_of (by kernel_rfl : loopsOf (Try.f82.body.getD .skip) = []) trivial b hb) (R := (Bool × Unit)) (T := fun (d : aden P_bytes_Equal) => T_bytes_Equal d.1 d.2.1) e_bytes_Equal
def P_i_sameFrame : List (Bool × List Sh) := [(true, [.int .i64, .int .i64, .sl 5 [.int .u8], .sl 5 [.int .u8], .int .i64, .sl 5 [.int .u8], .sl 5 [.int .u8], .int .i64, .int .i64, .sl 5 [.int .u8], .sl 5 [.int .u8]]), (true, [.int .i64, .int .i64, .sl 5 [.int .u8], .sl 5 [.int .u8], .int .i64, .sl 5 [.int .u8], .sl 5 [.int .u8], .int .i64, .int .i64, .sl 5 [.int .u8], .sl 5 [.int .u8]])]
def O_i_sameFrame (r : (Bool × Unit)) : List RV × List RV := ([rv (false, [.bool]) r], [])
def C_i_sameFrame : Fns := [(82, .plain, F_bytes_Equal)]
def F_i_sameFrame : Fun1 := funV P_i_sameFrame (fun d => (T_i_sameFrame d.1 d.2.1).val) O_i_sameFrame
def Q_i_sameFrame : Loops := fun _ _ => .fail
theorem e_i_sameFrame : ∀ d, pcall ⟨lookT tys, ctrOf C_i_sameFrame, kindOf C_i_sameFrame, 3, 4⟩ 0 Q_i_sameFrame Try.f161 .plain (mkA P_i_sameFrame d) = (T_i_sameFrame d.1 d.2.1).run fun r => some (O_i_sameFrame r) := fun d => by kernel_rfl
theorem fn_i_sameFrame : Fn Try.prog 161 .plain F_i_sameFrame := fn_of (cfgOk_of mixed tys_ok (show FnsOk Try.prog C_i_sameFrame from ⟨fn_bytes_Equal, trivial⟩)) Try.func161 (by kernel_rfl) (by kernel_rfl) (fun cx b hp hb => all_of (by kernel_rfl : loopsOf (Try.f161.body.getD .skip) = []) trivial b hb) (R := (Bool × Unit)) (T := fun (d : aden P_i_sameFrame) => T_i_sameFrame d.1 d.2.1) e_i_sameFrame
def P_i_FrameOk : List (Bool × List Sh) := [(true, [.int .i64, .int .i64, .sl 5 [.int .u8], .sl 5 [.int .u8], .int .i64, .sl 5 [.int .u8], .sl 5 [.int .u8], .int .i64, .int .i64, .sl 5 [.int .u8], .sl 5 [.int .u8]])]
def O_i_FrameOk (r : (Bool × Unit)) : List RV × List RV := ([rv (false, [.bool]) r], [])
def C_i_FrameOk : Fns := [(84, .plain, F_i_within), (95, .plain, F_i_isNonce), (156, .plain, F_i_Sealed), (160, .plain, F_i_bodyOk), (161, .plain, F_i_sameFrame)]
def F_i_FrameOk : Fun1 := funV P_i_FrameOk (fun d => (T_i_FrameOk d.1).val) O_i_FrameOk
def Q_i_FrameOk : Loops := fun _ _ => .fail
theorem e_i_FrameOk : ∀ d, pcall ⟨lookT tys, ctrOf C_i_FrameOk, kindOf C_i_FrameOk, 3, 4⟩ 0 Q_i_FrameOk Try.f127 .plain (mkA P_i_FrameOk d) = (T_i_FrameOk d.1).run fun r => some (O_i_FrameOk r) := fun d => by kernel_rfl
theorem fn_i_FrameOk : Fn Try.prog 127 .plain F_i_FrameOk := fn_of (cfgOk_of mixed tys_ok (show FnsOk Try.prog C_i_FrameOk from ⟨fn_i_within, fn_i_isNonce, fn_i_Sealed, fn_i_bodyOk, fn_i_sameFrame, trivial⟩)) Try.func127 (by kernel_rfl) (by kernel_rfl) (fun cx b hp hb => all_of (by kernel_rfl : loopsOf (Try.f127.body.getD .skip) = []) trivial b hb) (R := (Bool × Unit)) (T := fun (d : aden P_i_FrameOk) => T_i_FrameOk d.1) e_i_FrameOk
def P_i_joined : List (Bool × List Sh) := [(false, [.sl 34 [.sl 5 [.int .u8]]])]
def O_i_joined (r : (YBs)) : List RV × List RV := ([rv (false, [.sl 5 [.int .u8]]) r], [])
def C_i_joined : Fns := []
def F_i_joined : Fun1 := funV P_i_joined (fun d => (T_i_joined d.1).val) O_i_joined
def K_i_joined_3 : Sk := ⟨[(3, .v false [(.sl 5 [.int .u8], (.own 4000000))]), (7, .v false [(.sl 34 [.sl 5 [.int .u8]], .ro)]), (8, .v false [(.int .i64, .nil)]), (9, .v false [(.int .i64, .nil)])], [], [4000000]⟩
def X_i_joined_3 : List (Ex × Sk) := [((.exit 0), ⟨[(3, .v false [(.sl 5 [.int .u8], (.own 4000000))])], [], [4000000]⟩)]
def Q_i_joined : Loops := fun i st => cond (Nat.beq i 3) (lam K_i_joined_3 4000000 X_i_joined_3 B_i_joined_3 st) <| .fail
theorem lp_i_joined_3 : ∀ d, bod ⟨lookT tys, ctrOf C_i_joined, kindOf C_i_joined, 3, 4⟩ 0 Try.f119.ntmps Q_i_joined (nthLoop Try.f119 0) K_i_joined_3 4000000 X_i_joined_3 d = B_i_joined_3 d := fun d => by kernel_rfl
theorem lo_i_joined_3 (cx : Cx) (hp : cx.pin.length ≤ 0) : LoopOk Try.prog cx Try.f119.ntmps Q_i_joined (nthLoop Try.f119 0) := loop_of (cfgOk_of mixed tys_ok (show FnsOk Try.prog C_i_joined from trivial)) hp (all_of (by kernel_rfl : loopsOf (nthLoop Try.f119 0) = []) trivial) (by kernel_rfl) lp_i_joined_3
theorem e_i_joined : ∀ d, pcall ⟨lookT tys, ctrOf C_i_joined, kindOf C_i_joined, 3, 4⟩ 0 Q_i_joined Try.f119 .plain (mkA P_i_joined d) = (T_i_joined d.1).run fun r => some (O_i_joined r) := fun d => by kernel_rfl
theorem fn_i_joined : Fn Try.prog 119 .plain F_i_joined := fn_of (cfgOk_of mixed tys_ok (show FnsOk Try.prog C_i_joined from trivial)) Try.func119 (by kernel_rfl) (by kernel_rfl) (fun cx b hp hb => all_of (by kernel_rfl : loopsOf (Try.f119.body.getD .skip) = [nthLoop Try.f119 0]) ⟨lo_i_joined_3 cx hp, trivial⟩ b hb) (R := (YBs)) (T := fun (d : aden P_i_joined) => T_i_joined d.1) e_i_joined
def P_i_PutN : List (Bool × List Sh) := [(false, [.sl 5 [.int .u8]]), (false, [.int .i64]), (false, [.int .i64])]
def O_i_PutN (r : (YBs)) : List RV × List RV := ([rv (false, [.sl 5 [.int .u8]]) r], [])
def C_i_PutN : Fns := []
def F_i_PutN : Fun1 := funV P_i_PutN (fun d => (T_i_PutN d.1 d.2.1 d.2.2.1).val) O_i_PutN
def K_i_PutN_5 : Sk := ⟨[(1, .v false [(.int .i64, .nil)]), (7, .v false [(.sl 5 [.int .u8], (.own 6000000))]), (8, .v false [(.int .i64, .nil)])], [], [6000000]⟩
def X_i_PutN_5 : List (Ex × Sk) := [((.exit 0), ⟨[(7, .v false [(.sl 5 [.int .u8], (.own 6000000))])], [], [6000000]⟩)]
def Q_i_PutN : Loops := fun i st => cond (Nat.beq i 5) (lam K_i_PutN_5 6000000 X_i_PutN_5 B_i_PutN_5 st) <| .fail
theorem lp_i_PutN_5 : ∀ d, bod ⟨lookT tys, ctrOf C_i_PutN, kindOf C_i_PutN, 3, 4⟩ 0 Try.f120.ntmps Q_i_PutN (nthLoop Try.f120 0) K_i_PutN_5 6000000 X_i_PutN_5 d = B_i_PutN_5 d := fun d => by kernel_rfl
theorem lo_i_PutN_5 (cx : Cx) (hp : cx.pin.length ≤ 0) : LoopOk Try.prog cx Try.f120.ntmps Q_i_PutN (nthLoop Try.f120 0) := loop_of (cfgOk_of mixed tys_ok (show FnsOk Try.prog C_i_PutN from trivial)) hp (all_of (by kernel_rfl : loopsOf (nthLoop Try.f120 0) = []) trivial) (by kernel_rfl) lp_i_PutN_5
theorem e_i_PutN : ∀ d, pcall ⟨lookT tys, ctrOf C_i_PutN, kindOf C_i_PutN, 3, 4⟩ 0 Q_i_PutN Try.f120 .plain (mkA P_i_PutN d) = (T_i_PutN d.1 d.2.1 d.2.2.1).run fun r => some (O_i_PutN r) := fun d => by kernel_rfl
theorem fn_i_PutN : Fn Try.prog 120 .plain F_i_PutN := fn_of (cfgOk_of mixed tys_ok (show FnsOk Try.prog C_i_PutN from trivial)) Try.func120 (by kernel_rfl) (by kernel_rfl) (fun cx b hp hb => all_of (by kernel_rfl : loopsOf (Try.f120.body.getD .skip) = [nthLoop Try.f120 0]) ⟨lo_i_PutN_5 cx hp, trivial⟩ b hb) (R := (YBs)) (T := fun (d : aden P_i_PutN) => T_i_PutN d.1 d.2.1 d.2.2.1) e_i_PutN
def P_i_PutFrame : List (Bool × List Sh) := [(true, [.int .i64, .int .i64, .sl 5 [.int .u8], .sl 5 [.int .u8], .int .i64, .sl 5 [.int .u8], .sl 5 [.int .u8], .int .i64, .int .i64, .sl 5 [.int .u8], .sl 5 [.int .u8]])]
def O_i_PutFrame (r : (YBs)) : List RV × List RV := ([rv (false, [.sl 5 [.int .u8]]) r], [])
def C_i_PutFrame : Fns := [(127, .plain, F_i_FrameOk), (119, .plain, F_i_joined), (120, .plain, F_i_PutN)]
def F_i_PutFrame : Fun1 := funV P_i_PutFrame (fun d => (T_i_PutFrame d.1).val) O_i_PutFrame
def Q_i_PutFrame : Loops := fun _ _ => .fail
theorem e_i_PutFrame : ∀ d, pcall ⟨lookT tys, ctrOf C_i_PutFrame, kindOf C_i_PutFrame, 3, 4⟩ 0 Q_i_PutFrame Try.f77 .plain (mkA P_i_PutFrame d) = (T_i_PutFrame d.1).run fun r => some (O_i_PutFrame r) := fun d => by kernel_rfl
theorem fn_i_PutFrame : Fn Try.prog 77 .plain F_i_PutFrame := fn_of (cfgOk_of mixed tys_ok (show FnsOk Try.prog C_i_PutFrame from ⟨fn_i_FrameOk, fn_i_joined, fn_i_PutN, trivial⟩)) Try.func77 (by kernel_rfl) (by kernel_rfl) (fun cx b hp hb => all_of (by kernel_rfl : loopsOf (Try.f77.body.getD .skip) = []) trivial b hb) (R := (YBs)) (T := fun (d : aden P_i_PutFrame) => T_i_PutFrame d.1) e_i_PutFrame
def P_i_WireFrom : List (Bool × List Sh) := [(true, [.int .i64, .int .i64]), (true, [.int .i64, .int .i64]), (true, [.int .i64, .int .i64, .sl 5 [.int .u8], .sl 5 [.int .u8], .int .i64, .sl 5 [.int .u8], .sl 5 [.int .u8], .int .i64, .int .i64, .sl 5 [.int .u8], .sl 5 [.int .u8]])]
def O_i_WireFrom (r : (YWire)) : List RV × List RV := ([rv (true, [.int .i64, .int .i64, .int .i64, .int .i64, .sl 5 [.int .u8]]) r], [])
def C_i_WireFrom : Fns := [(77, .plain, F_i_PutFrame)]
def F_i_WireFrom : Fun1 := funV P_i_WireFrom (fun d => (T_i_WireFrom d.1 d.2.1 d.2.2.1).val) O_i_WireFrom
def Q_i_WireFrom : Loops := fun _ _ => .fail
theorem e_i_WireFrom : ∀ d, pcall ⟨lookT tys, ctrOf C_i_WireFrom, kindOf C_i_WireFrom, 3, 4⟩ 0 Q_i_WireFrom Try.f31 .plain (mkA P_i_WireFrom d) = (T_i_WireFrom d.1 d.2.1 d.2.2.1).run fun r => some (O_i_WireFrom r) := fun d => by kernel_rfl
theorem fn_i_WireFrom : Fn Try.prog 31 .plain F_i_WireFrom := fn_of (cfgOk_of mixed tys_ok (show FnsOk Try.prog C_i_WireFrom from ⟨fn_i_PutFrame, trivial⟩)) Try.func31 (by kernel_rfl) (by kernel_rfl) (fun cx b hp hb => all_of (by kernel_rfl : loopsOf (Try.f31.body.getD .skip) = []) trivial b hb) (R := (YWire)) (T := fun (d : aden P_i_WireFrom) => T_i_WireFrom d.1 d.2.1 d.2.2.1) e_i_WireFrom
def P_l_eqFrame : List (Bool × List Sh) := [(true, [.int .i64, .int .i64, .sl 5 [.int .u8], .sl 5 [.int .u8], .int .i64, .sl 5 [.int .u8], .sl 5 [.int .u8], .int .i64, .int .i64, .sl 5 [.int .u8], .sl 5 [.int .u8]]), (true, [.int .i64, .int .i64, .sl 5 [.int .u8], .sl 5 [.int .u8], .int .i64, .sl 5 [.int .u8], .sl 5 [.int .u8], .int .i64, .int .i64, .sl 5 [.int .u8], .sl 5 [.int .u8]])]
def O_l_eqFrame (r : (Bool × Unit)) : List RV × List RV := ([rv (false, [.bool]) r], [])
def C_l_eqFrame : Fns := [(45, .plain, F_l_eqByteS)]
def F_l_eqFrame : Fun1 := funV P_l_eqFrame (fun d => (T_l_eqFrame d.1 d.2.1).val) O_l_eqFrame
def Q_l_eqFrame : Loops := fun _ _ => .fail
theorem e_l_eqFrame : ∀ d, pcall ⟨lookT tys, ctrOf C_l_eqFrame, kindOf C_l_eqFrame, 3, 4⟩ 0 Q_l_eqFrame Try.f32 .plain (mkA P_l_eqFrame d) = (T_l_eqFrame d.1 d.2.1).run fun r => some (O_l_eqFrame r) := fun d => by kernel_rfl
theorem fn_l_eqFrame : Fn Try.prog 32 .plain F_l_eqFrame := fn_of (cfgOk_of mixed tys_ok (show FnsOk Try.prog C_l_eqFrame from ⟨fn_l_eqByteS, trivial⟩)) Try.func32 (by kernel_rfl) (by kernel_rfl) (fun cx b hp hb => all_of (by kernel_rfl : loopsOf (Try.f32.body.getD .skip) = []) trivial b hb) (R := (Bool × Unit)) (T := fun (d : aden P_l_eqFrame) => T_l_eqFrame d.1 d.2.1) e_l_eqFrame
def P_l_markFrame : List (Bool × List Sh) := [(true, [.int .i64, .int .i64, .sl 5 [.int .u8], .sl 5 [.int .u8], .int .i64, .sl 5 [.int .u8], .sl 5 [.int .u8], .int .i64, .int .i64, .sl 5 [.int .u8], .sl 5 [.int .u8]]), (false, [.int .i64])]
def O_l_markFrame (r : (YI) × (YFrame)) : List RV × List RV := ([rv (false, [.int .i64]) r.1], [rv (true, [.int .i64, .int .i64, .sl 5 [.int .u8], .sl 5 [.int .u8], .int .i64, .sl 5 [.int .u8], .sl 5 [.int .u8], .int .i64, .int .i64, .sl 5 [.int .u8], .sl 5 [.int .u8]]) r.2])
def C_l_markFrame : Fns := [(65, (.lend [1]), F_l_markByteS)]
def F_l_markFrame : Fun1 := funV P_l_markFrame (fun d => (T_l_markFrame d.1 d.2.1).val) O_l_markFrame
def Q_l_markFrame : Loops := fun _ _ => .fail
theorem e_l_markFrame : ∀ d, pcall ⟨lookT tys, ctrOf C_l_markFrame, kindOf C_l_markFrame, 3, 4⟩ 1 Q_l_markFrame Try.f33 (.lend [1]) (mkA P_l_markFrame d) = (T_l_markFrame d.1 d.2.1).run fun r => some (O_l_markFrame r) := fun d => by kernel_rfl
theorem fn_l_markFrame : Fn Try.prog 33 (.lend [1]) F_l_markFrame := fn_of (cfgOk_of mixed tys_ok (show FnsOk Try.prog C_l_markFrame from ⟨fn_l_markByteS, trivial⟩)) Try.func33 (by kernel_rfl) (by kernel_rfl) (fun cx b hp hb => all_of (by kernel_rfl : loopsOf (Try.f33.body.getD .skip) = []) trivial b hb) (R := (YI) × (YFrame)) (T := fun (d : aden P_l_markFrame) => T_l_markFrame d.1 d.2.1) e_l_markFrame
def P_l_heldWire : List (Bool × List Sh) := [(true, [.int .i64, .int .i64, .int .i64, .int .i64, .sl 5 [.int .u8]]), (false, [.int .i64])]
def O_l_heldWire (r : (YI)) : List RV × List RV := ([rv (false, [.int .i64]) r], [])
def C_l_heldWire : Fns := [(69, .plain, F_l_heldByteS)]
def F_l_heldWire : Fun1 := funV P_l_heldWire (fun d => (T_l_heldWire d.1 d.2.1).val) O_l_heldWire
def Q_l_heldWire : Loops := fun _ _ => .fail
theorem e_l_heldWire : ∀ d, pcall ⟨lookT tys, ctrOf C_l_heldWire, kindOf C_l_heldWire, 3, 4⟩ 0 Q_l_heldWire Try.f34 .plain (mkA P_l_heldWire d) = (T_l_heldWire d.1 d.2.1).run fun r => some (O_l_heldWire r) := fun d => by kernel_rfl
theorem fn_l_heldWire : Fn Try.prog 34 .plain F_l_heldWire := fn_of (cfgOk_of mixed tys_ok (show FnsOk Try.prog C_l_heldWire from ⟨fn_l_heldByteS, trivial⟩)) Try.func34 (by kernel_rfl) (by kernel_rfl) (fun cx b hp hb => all_of (by kernel_rfl : loopsOf (Try.f34.body.getD .skip) = []) trivial b hb) (R := (YI)) (T := fun (d : aden P_l_heldWire) => T_l_heldWire d.1 d.2.1) e_l_heldWire
def P_l_FnExactWireFrom : List (Bool × List Sh) := [(true, [.int .i64, .int .i64]), (true, [.int .i64, .int .i64]), (true, [.int .i64, .int .i64, .sl 5 [.int .u8], .sl 5 [.int .u8], .int .i64, .sl 5 [.int .u8], .sl 5 [.int .u8], .int .i64, .int .i64, .sl 5 [.int .u8], .sl 5 [.int .u8]])]
def O_l_FnExactWireFrom (r : (Bool × Unit)) : List RV × List RV := ([rv (false, [.bool]) r], [])
def C_l_FnExactWireFrom : Fns := [(28, .plain, F_l_szFrame), (17, .plain, F_l_toAddr), (30, .plain, F_l_toFrame), (29, .plain, F_s_WireFrom), (31, .plain, F_i_WireFrom), (26, .plain, F_l_eqWire), (32, .plain, F_l_eqFrame), (33, (.lend [1]), F_l_markFrame), (27, (.lend [1]), F_l_markWire), (34, .plain, F_l_heldWire)]
def F_l_FnExactWireFrom : Fun1 := funV P_l_FnExactWireFrom (fun d => (T_l_FnExactWireFrom d.1 d.2.1 d.2.2.1).val) O_l_FnExactWireFrom
def Q_l_FnExactWireFrom : Loops := fun _ _ => .fail
theorem e_l_FnExactWireFrom : ∀ d, pcall ⟨lookT tys, ctrOf C_l_FnExactWireFrom, kindOf C_l_FnExactWireFrom, 3, 4⟩ 0 Q_l_FnExactWireFrom Try.f5 .plain (mkA P_l_FnExactWireFrom d) = (T_l_FnExactWireFrom d.1 d.2.1 d.2.2.1).run fun r => some (O_l_FnExactWireFrom r) := fun d => by kernel_rfl
theorem fn_l_FnExactWireFrom : Fn Try.prog 5 .plain F_l_FnExactWireFrom := fn_of (cfgOk_of mixed tys_ok (show FnsOk Try.prog C_l_FnExactWireFrom from ⟨fn_l_szFrame, fn_l_toAddr, fn_l_toFrame, fn_s_WireFrom, fn_i_WireFrom, fn_l_eqWire, fn_l_eqFrame, fn_l_markFrame, fn_l_markWire, fn_l_heldWire, trivial⟩)) Try.func5 (by kernel_rfl) (by kernel_rfl) (fun cx b hp hb => all_of (by kernel_rfl : loopsOf (Try.f5.body.getD .skip) = []) trivial b hb) (R := (Bool × Unit)) (T := fun (d : aden P_l_FnExactWireFrom) => T_l_FnExactWireFrom d.1 d.2.1 d.2.2.1) e_l_FnExactWireFrom
end
end Go.Proofs.Ythcbhopanefaiaa

/-
  That the functions of the seat answer what the terms of text W say; nothing is assumed.
-/
import Derived.Test.YthcbhopanefaiaaW
import Derived.Test.YthcbhopanefaiaaProg
import Derived.KernelRfl
namespace Go.Proofs.Ythcbhopanefaiaa
open Go.RowKit
set_option linter.unusedVariables false
set_option maxRecDepth 100000
set_option maxHeartbeats 4000000
noncomputable section
def tys : List (Nat × Ty) := [(3, ⟨false, [.int .i64], [], false⟩),
  (4, ⟨false, [.bool], [], false⟩),
  (5, ⟨false, [.int .u8], [], false⟩),
  (9, ⟨false, [.str], [], false⟩),
  (24, ⟨true, [.int .i64, .int .i64], [(0, 1), (1, 1)], true⟩),
  (29, ⟨true, [.int .i64, .int .i64], [(0, 1), (1, 1)], true⟩),
  (34, ⟨false, [.sl 5 [.int .u8]], [], false⟩),
  (54, ⟨false, [.sl 85 [.int .i64, .sl 5 [.int .u8], .sl 5 [.int .u8], .int .i64, .sl 5 [.int .u8], .int .i64, .sl 5 [.int .u8], .int .i64, .int .i64, .sl 3 [.int .i64], .int .i64, .sl 5 [.int .u8], .int .i64, .int .i64, .sl 3 [.int .i64], .bool, .int .i64, .sl 5 [.int .u8], .int .i64, .int .i64, .sl 194 [.int .i64, .int .i64, .sl 5 [.int .u8], .int .i64], .int .i64, .int .i64, .bool]], [], false⟩),
  (56, ⟨true, [.int .i64, .sl 85 [.int .i64, .sl 5 [.int .u8], .sl 5 [.int .u8], .int .i64, .sl 5 [.int .u8], .int .i64, .sl 5 [.int .u8], .int .i64, .int .i64, .sl 3 [.int .i64], .int .i64, .sl 5 [.int .u8], .int .i64, .int .i64, .sl 3 [.int .i64], .bool, .int .i64, .sl 5 [.int .u8], .int .i64, .int .i64, .sl 194 [.int .i64, .int .i64, .sl 5 [.int .u8], .int .i64], .int .i64, .int .i64, .bool]], [(0, 1), (1, 1)], false⟩),
  (59, ⟨false, [.sl 97 [.int .i64, .sl 5 [.int .u8], .sl 5 [.int .u8], .int .i64, .sl 5 [.int .u8], .int .i64, .sl 5 [.int .u8], .int .i64, .int .i64, .sl 3 [.int .i64], .int .i64, .sl 5 [.int .u8], .int .i64, .int .i64, .sl 3 [.int .i64], .bool, .int .i64, .sl 5 [.int .u8], .int .i64, .int .i64, .sl 175 [.int .i64, .int .i64, .sl 5 [.int .u8], .int .i64], .int .i64, .int .i64, .bool]], [], false⟩),
  (61, ⟨true, [.int .i64, .sl 97 [.int .i64, .sl 5 [.int .u8], .sl 5 [.int .u8], .int .i64, .sl 5 [.int .u8], .int .i64, .sl 5 [.int .u8], .int .i64, .int .i64, .sl 3 [.int .i64], .int .i64, .sl 5 [.int .u8], .int .i64, .int .i64, .sl 3 [.int .i64], .bool, .int .i64, .sl 5 [.int .u8], .int .i64, .int .i64, .sl 175 [.int .i64, .int .i64, .sl 5 [.int .u8], .int .i64], .int .i64, .int .i64, .bool]], [(0, 1), (1, 1)], false⟩),
  (74, ⟨false, [.sl 3 [.int .i64]], [], false⟩),
  (76, ⟨true, [.int .i64, .sl 3 [.int .i64]], [(0, 1), (1, 1)], false⟩),
  (78, ⟨true, [.int .i64, .sl 5 [.int .u8], .int .i64, .int .i64, .sl 3 [.int .i64]], [(0, 1), (1, 1), (2, 1), (3, 2)], false⟩),
  (80, ⟨true, [.int .i64, .sl 5 [.int .u8], .int .i64, .sl 5 [.int .u8], .int .i64, .int .i64, .sl 3 [.int .i64], .int .i64, .sl 5 [.int .u8], .int .i64, .int .i64, .sl 3 [.int .i64], .bool, .int .i64, .sl 5 [.int .u8]], [(0, 1), (1, 1), (2, 5), (7, 5), (12, 1), (13, 1), (14, 1)], false⟩),
  (81, ⟨false, [.sl 194 [.int .i64, .int .i64, .sl 5 [.int .u8], .int .i64]], [], false⟩),
  (83, ⟨true, [.int .i64, .int .i64, .sl 194 [.int .i64, .int .i64, .sl 5 [.int .u8], .int .i64]], [(0, 2), (2, 1)], false⟩),
  (85, ⟨true, [.int .i64, .sl 5 [.int .u8], .sl 5 [.int .u8], .int .i64, .sl 5 [.int .u8], .int .i64, .sl 5 [.int .u8], .int .i64, .int .i64, .sl 3 [.int .i64], .int .i64, .sl 5 [.int .u8], .int .i64, .int .i64, .sl 3 [.int .i64], .bool, .int .i64, .sl 5 [.int .u8], .int .i64, .int .i64, .sl 194 [.int .i64, .int .i64, .sl 5 [.int .u8], .int .i64], .int .i64, .int .i64, .bool], [(0, 1), (1, 1), (2, 1), (3, 15), (18, 3), (21, 1), (22, 1), (23, 1)], false⟩),
  (88, ⟨true, [.int .i64, .sl 3 [.int .i64]], [(0, 1), (1, 1)], false⟩),
  (90, ⟨true, [.int .i64, .sl 5 [.int .u8], .int .i64, .int .i64, .sl 3 [.int .i64]], [(0, 1), (1, 1), (2, 1), (3, 2)], false⟩),
  (92, ⟨true, [.int .i64, .sl 5 [.int .u8], .int .i64, .sl 5 [.int .u8], .int .i64, .int .i64, .sl 3 [.int .i64], .int .i64, .sl 5 [.int .u8], .int .i64, .int .i64, .sl 3 [.int .i64], .bool, .int .i64, .sl 5 [.int .u8]], [(0, 1), (1, 1), (2, 5), (7, 5), (12, 1), (13, 1), (14, 1)], false⟩),
  (93, ⟨false, [.sl 175 [.int .i64, .int .i64, .sl 5 [.int .u8], .int .i64]], [], false⟩),
  (95, ⟨true, [.int .i64, .int .i64, .sl 175 [.int .i64, .int .i64, .sl 5 [.int .u8], .int .i64]], [(0, 2), (2, 1)], false⟩),
  (97, ⟨true, [.int .i64, .sl 5 [.int .u8], .sl 5 [.int .u8], .int .i64, .sl 5 [.int .u8], .int .i64, .sl 5 [.int .u8], .int .i64, .int .i64, .sl 3 [.int .i64], .int .i64, .sl 5 [.int .u8], .int .i64, .int .i64, .sl 3 [.int .i64], .bool, .int .i64, .sl 5 [.int .u8], .int .i64, .int .i64, .sl 175 [.int .i64, .int .i64, .sl 5 [.int .u8], .int .i64], .int .i64, .int .i64, .bool], [(0, 1), (1, 1), (2, 1), (3, 15), (18, 3), (21, 1), (22, 1), (23, 1)], false⟩),
  (175, ⟨true, [.int .i64, .int .i64, .sl 5 [.int .u8], .int .i64], [(0, 2), (2, 1), (3, 1)], false⟩),
  (194, ⟨true, [.int .i64, .int .i64, .sl 5 [.int .u8], .int .i64], [(0, 2), (2, 1), (3, 1)], false⟩)]
theorem tys_ok : tysB Try.prog tys = true := by kernel_rfl
theorem mixed : Try.prog.follows .mixedOrders = true := by kernel_rfl
def P_l_szByteS : List (Bool × List Sh) := [(false, [.sl 5 [.int .u8]]), (false, [.int .i64])]
def O_l_szByteS (r : (YI)) : List RV × List RV := ([rv (false, [.int .i64]) r], [])
def C_l_szByteS : Fns := []
def F_l_szByteS : Fun1 := funV P_l_szByteS (fun d => (T_l_szByteS d.1 d.2.1).val) O_l_szByteS
def Q_l_szByteS : Loops := fun _ _ => .fail
theorem e_l_szByteS : ∀ d, pcall ⟨lookT tys, ctrOf C_l_szByteS, kindOf C_l_szByteS, 3, 4⟩ 0 Q_l_szByteS Try.f70 .plain (mkA P_l_szByteS d) = (T_l_szByteS d.1 d.2.1).run fun r => some (O_l_szByteS r) := fun d => by kernel_rfl
theorem fn_l_szByteS : Fn Try.prog 70 .plain F_l_szByteS := fn_of (cfgOk_of mixed tys_ok (show FnsOk Try.prog C_l_szByteS from trivial)) Try.func70 (by kernel_rfl) (by kernel_rfl) (fun cx b hp hb => all_of (by kernel_rfl : loopsOf (Try.f70.body.getD .skip) = []) trivial b hb) (R := (YI)) (T := fun (d : aden P_l_szByteS) => T_l_szByteS d.1 d.2.1) e_l_szByteS
def P_l_szIntS : List (Bool × List Sh) := [(false, [.sl 3 [.int .i64]]), (false, [.int .i64])]
def O_l_szIntS (r : (YI)) : List RV × List RV := ([rv (false, [.int .i64]) r], [])
def C_l_szIntS : Fns := []
def F_l_szIntS : Fun1 := funV P_l_szIntS (fun d => (T_l_szIntS d.1 d.2.1).val) O_l_szIntS
def Q_l_szIntS : Loops := fun _ _ => .fail
theorem e_l_szIntS : ∀ d, pcall ⟨lookT tys, ctrOf C_l_szIntS, kindOf C_l_szIntS, 3, 4⟩ 0 Q_l_szIntS Try.f175 .plain (mkA P_l_szIntS d) = (T_l_szIntS d.1 d.2.1).run fun r => some (O_l_szIntS r) := fun d => by kernel_rfl
theorem fn_l_szIntS : Fn Try.prog 175 .plain F_l_szIntS := fn_of (cfgOk_of mixed tys_ok (show FnsOk Try.prog C_l_szIntS from trivial)) Try.func175 (by kernel_rfl) (by kernel_rfl) (fun cx b hp hb => all_of (by kernel_rfl : loopsOf (Try.f175.body.getD .skip) = []) trivial b hb) (R := (YI)) (T := fun (d : aden P_l_szIntS) => T_l_szIntS d.1 d.2.1) e_l_szIntS
def P_l_szWin : List (Bool × List Sh) := [(true, [.int .i64, .sl 3 [.int .i64]]), (false, [.int .i64])]
def O_l_szWin (r : (YI)) : List RV × List RV := ([rv (false, [.int .i64]) r], [])
def C_l_szWin : Fns := [(175, .plain, F_l_szIntS)]
def F_l_szWin : Fun1 := funV P_l_szWin (fun d => (T_l_szWin d.1 d.2.1).val) O_l_szWin
def Q_l_szWin : Loops := fun _ _ => .fail
theorem e_l_szWin : ∀ d, pcall ⟨lookT tys, ctrOf C_l_szWin, kindOf C_l_szWin, 3, 4⟩ 0 Q_l_szWin Try.f162 .plain (mkA P_l_szWin d) = (T_l_szWin d.1 d.2.1).run fun r => some (O_l_szWin r) := fun d => by kernel_rfl
theorem fn_l_szWin : Fn Try.prog 162 .plain F_l_szWin := fn_of (cfgOk_of mixed tys_ok (show FnsOk Try.prog C_l_szWin from ⟨fn_l_szIntS, trivial⟩)) Try.func162 (by kernel_rfl) (by kernel_rfl) (fun cx b hp hb => all_of (by kernel_rfl : loopsOf (Try.f162.body.getD .skip) = []) trivial b hb) (R := (YI)) (T := fun (d : aden P_l_szWin) => T_l_szWin d.1 d.2.1) e_l_szWin
def P_l_szEp : List (Bool × List Sh) := [(true, [.int .i64, .sl 5 [.int .u8], .int .i64, .int .i64, .sl 3 [.int .i64]]), (false, [.int .i64])]
def O_l_szEp (r : (YI)) : List RV × List RV := ([rv (false, [.int .i64]) r], [])
def C_l_szEp : Fns := [(70, .plain, F_l_szByteS), (162, .plain, F_l_szWin)]
def F_l_szEp : Fun1 := funV P_l_szEp (fun d => (T_l_szEp d.1 d.2.1).val) O_l_szEp
def Q_l_szEp : Loops := fun _ _ => .fail
theorem e_l_szEp : ∀ d, pcall ⟨lookT tys, ctrOf C_l_szEp, kindOf C_l_szEp, 3, 4⟩ 0 Q_l_szEp Try.f132 .plain (mkA P_l_szEp d) = (T_l_szEp d.1 d.2.1).run fun r => some (O_l_szEp r) := fun d => by kernel_rfl
theorem fn_l_szEp : Fn Try.prog 132 .plain F_l_szEp := fn_of (cfgOk_of mixed tys_ok (show FnsOk Try.prog C_l_szEp from ⟨fn_l_szByteS, fn_l_szWin, trivial⟩)) Try.func132 (by kernel_rfl) (by kernel_rfl) (fun cx b hp hb => all_of (by kernel_rfl : loopsOf (Try.f132.body.getD .skip) = []) trivial b hb) (R := (YI)) (T := fun (d : aden P_l_szEp) => T_l_szEp d.1 d.2.1) e_l_szEp
def P_l_szChan : List (Bool × List Sh) := [(true, [.int .i64, .sl 5 [.int .u8], .int .i64, .sl 5 [.int .u8], .int .i64, .int .i64, .sl 3 [.int .i64], .int .i64, .sl 5 [.int .u8], .int .i64, .int .i64, .sl 3 [.int .i64], .bool, .int .i64, .sl 5 [.int .u8]]), (false, [.int .i64])]
def O_l_szChan (r : (YI)) : List RV × List RV := ([rv (false, [.int .i64]) r], [])
def C_l_szChan : Fns := [(70, .plain, F_l_szByteS), (132, .plain, F_l_szEp)]
def F_l_szChan : Fun1 := funV P_l_szChan (fun d => (T_l_szChan d.1 d.2.1).val) O_l_szChan
def Q_l_szChan : Loops := fun _ _ => .fail
theorem e_l_szChan : ∀ d, pcall ⟨lookT tys, ctrOf C_l_szChan, kindOf C_l_szChan, 3, 4⟩ 0 Q_l_szChan Try.f87 .plain (mkA P_l_szChan d) = (T_l_szChan d.1 d.2.1).run fun r => some (O_l_szChan r) := fun d => by kernel_rfl
theorem fn_l_szChan : Fn Try.prog 87 .plain F_l_szChan := fn_of (cfgOk_of mixed tys_ok (show FnsOk Try.prog C_l_szChan from ⟨fn_l_szByteS, fn_l_szEp, trivial⟩)) Try.func87 (by kernel_rfl) (by kernel_rfl) (fun cx b hp hb => all_of (by kernel_rfl : loopsOf (Try.f87.body.getD .skip) = []) trivial b hb) (R := (YI)) (T := fun (d : aden P_l_szChan) => T_l_szChan d.1 d.2.1) e_l_szChan
def P_l_szCand : List (Bool × List Sh) := [(true, [.int .i64, .int .i64, .sl 5 [.int .u8], .int .i64]), (false, [.int .i64])]
def O_l_szCand (r : (YI)) : List RV × List RV := ([rv (false, [.int .i64]) r], [])
def C_l_szCand : Fns := [(70, .plain, F_l_szByteS)]
def F_l_szCand : Fun1 := funV P_l_szCand (fun d => (T_l_szCand d.1 d.2.1).val) O_l_szCand
def Q_l_szCand : Loops := fun _ _ => .fail
theorem e_l_szCand : ∀ d, pcall ⟨lookT tys, ctrOf C_l_szCand, kindOf C_l_szCand, 3, 4⟩ 0 Q_l_szCand Try.f163 .plain (mkA P_l_szCand d) = (T_l_szCand d.1 d.2.1).run fun r => some (O_l_szCand r) := fun d => by kernel_rfl
theorem fn_l_szCand : Fn Try.prog 163 .plain F_l_szCand := fn_of (cfgOk_of mixed tys_ok (show FnsOk Try.prog C_l_szCand from ⟨fn_l_szByteS, trivial⟩)) Try.func163 (by kernel_rfl) (by kernel_rfl) (fun cx b hp hb => all_of (by kernel_rfl : loopsOf (Try.f163.body.getD .skip) = []) trivial b hb) (R := (YI)) (T := fun (d : aden P_l_szCand) => T_l_szCand d.1 d.2.1) e_l_szCand
def P_l_szCandS : List (Bool × List Sh) := [(false, [.sl 194 [.int .i64, .int .i64, .sl 5 [.int .u8], .int .i64]]), (false, [.int .i64])]
def O_l_szCandS (r : (YI)) : List RV × List RV := ([rv (false, [.int .i64]) r], [])
def C_l_szCandS : Fns := [(163, .plain, F_l_szCand)]
def F_l_szCandS : Fun1 := funV P_l_szCandS (fun d => (T_l_szCandS d.1 d.2.1).val) O_l_szCandS
def K_l_szCandS_5 : Sk := ⟨[(0, .v false [(.sl 194 [.int .i64, .int .i64, .sl 5 [.int .u8], .int .i64], .ro)]), (1, .v false [(.int .i64, .nil)]), (5, .v false [(.int .i64, .nil)])], [], []⟩
def X_l_szCandS_5 : List (Ex × Sk) := [(.ret, ⟨[(4, .v false [(.int .i64, .nil)])], [], []⟩), ((.exit 0), ⟨[(1, .v false [(.int .i64, .nil)])], [], []⟩)]
def Q_l_szCandS : Loops := fun i st => cond (Nat.beq i 5) (lam K_l_szCandS_5 6000000 X_l_szCandS_5 B_l_szCandS_5 st) <| .fail
theorem lp_l_szCandS_5 : ∀ d, bod ⟨lookT tys, ctrOf C_l_szCandS, kindOf C_l_szCandS, 3, 4⟩ 0 Try.f133.ntmps Q_l_szCandS (nthLoop Try.f133 0) K_l_szCandS_5 6000000 X_l_szCandS_5 d = B_l_szCandS_5 d := fun d => by kernel_rfl
theorem lo_l_szCandS_5 (cx : Cx) (hp : cx.pin.length ≤ 0) : LoopOk Try.prog cx Try.f133.ntmps Q_l_szCandS (nthLoop Try.f133 0) := loop_of (cfgOk_of mixed tys_ok (show FnsOk Try.prog C_l_szCandS from ⟨fn_l_szCand, trivial⟩)) hp (all_of (by kernel_rfl : loopsOf (nthLoop Try.f133 0) = []) trivial) (by kernel_rfl) lp_l_szCandS_5
theorem e_l_szCandS : ∀ d, pcall ⟨lookT tys, ctrOf C_l_szCandS, kindOf C_l_szCandS, 3, 4⟩ 0 Q_l_szCandS Try.f133 .plain (mkA P_l_szCandS d) = (T_l_szCandS d.1 d.2.1).run fun r => some (O_l_szCandS r) := fun d => by kernel_rfl
theorem fn_l_szCandS : Fn Try.prog 133 .plain F_l_szCandS := fn_of (cfgOk_of mixed tys_ok (show FnsOk Try.prog C_l_szCandS from ⟨fn_l_szCand, trivial⟩)) Try.func133 (by kernel_rfl) (by kernel_rfl) (fun cx b hp hb => all_of (by kernel_rfl : loopsOf (Try.f133.body.getD .skip) = [nthLoop Try.f133 0]) ⟨lo_l_szCandS_5 cx hp, trivial⟩ b hb) (R := (YI)) (T := fun (d : aden P_l_szCandS) => T_l_szCandS d.1 d.2.1) e_l_szCandS
def P_l_szPaths : List (Bool × List Sh) := [(true, [.int .i64, .int .i64, .sl 194 [.int .i64, .int .i64, .sl 5 [.int .u8], .int .i64]]), (false, [.int .i64])]
def O_l_szPaths (r : (YI)) : List RV × List RV := ([rv (false, [.int .i64]) r], [])
def C_l_szPaths : Fns := [(133, .plain, F_l_szCandS)]
def F_l_szPaths : Fun1 := funV P_l_szPaths (fun d => (T_l_szPaths d.1 d.2.1).val) O_l_szPaths
def Q_l_szPaths : Loops := fun _ _ => .fail
theorem e_l_szPaths : ∀ d, pcall ⟨lookT tys, ctrOf C_l_szPaths, kindOf C_l_szPaths, 3, 4⟩ 0 Q_l_szPaths Try.f88 .plain (mkA P_l_szPaths d) = (T_l_szPaths d.1 d.2.1).run fun r => some (O_l_szPaths r) := fun d => by kernel_rfl
theorem fn_l_szPaths : Fn Try.prog 88 .plain F_l_szPaths := fn_of (cfgOk_of mixed tys_ok (show FnsOk Try.prog C_l_szPaths from ⟨fn_l_szCandS, trivial⟩)) Try.func88 (by kernel_rfl) (by kernel_rfl) (fun cx b hp hb => all_of (by kernel_rfl : loopsOf (Try.f88.body.getD .skip) = []) trivial b hb) (R := (YI)) (T := fun (d : aden P_l_szPaths) => T_l_szPaths d.1 d.2.1) e_l_szPaths
def P_l_szSess : List (Bool × List Sh) := [(true, [.int .i64, .sl 5 [.int .u8], .sl 5 [.int .u8], .int .i64, .sl 5 [.int .u8], .int .i64, .sl 5 [.int .u8], .int .i64, .int .i64, .sl 3 [.int .i64], .int .i64, .sl 5 [.int .u8], .int .i64, .int .i64, .sl 3 [.int .i64], .bool, .int .i64, .sl 5 [.int .u8], .int .i64, .int .i64, .sl 194 [.int .i64, .int .i64, .sl 5 [.int .u8], .int .i64], .int .i64, .int .i64, .bool]), (false, [.int .i64])]
def O_l_szSess (r : (YI)) : List RV × List RV := ([rv (false, [.int .i64]) r], [])
def C_l_szSess : Fns := [(70, .plain, F_l_szByteS), (87, .plain, F_l_szChan), (88, .plain, F_l_szPaths)]
def F_l_szSess : Fun1 := funV P_l_szSess (fun d => (T_l_szSess d.1 d.2.1).val) O_l_szSess
def Q_l_szSess : Loops := fun _ _ => .fail
theorem e_l_szSess : ∀ d, pcall ⟨lookT tys, ctrOf C_l_szSess, kindOf C_l_szSess, 3, 4⟩ 0 Q_l_szSess Try.f50 .plain (mkA P_l_szSess d) = (T_l_szSess d.1 d.2.1).run fun r => some (O_l_szSess r) := fun d => by kernel_rfl
theorem fn_l_szSess : Fn Try.prog 50 .plain F_l_szSess := fn_of (cfgOk_of mixed tys_ok (show FnsOk Try.prog C_l_szSess from ⟨fn_l_szByteS, fn_l_szChan, fn_l_szPaths, trivial⟩)) Try.func50 (by kernel_rfl) (by kernel_rfl) (fun cx b hp hb => all_of (by kernel_rfl : loopsOf (Try.f50.body.getD .skip) = []) trivial b hb) (R := (YI)) (T := fun (d : aden P_l_szSess) => T_l_szSess d.1 d.2.1) e_l_szSess
def P_l_szSessS : List (Bool × List Sh) := [(false, [.sl 85 [.int .i64, .sl 5 [.int .u8], .sl 5 [.int .u8], .int .i64, .sl 5 [.int .u8], .int .i64, .sl 5 [.int .u8], .int .i64, .int .i64, .sl 3 [.int .i64], .int .i64, .sl 5 [.int .u8], .int .i64, .int .i64, .sl 3 [.int .i64], .bool, .int .i64, .sl 5 [.int .u8], .int .i64, .int .i64, .sl 194 [.int .i64, .int .i64, .sl 5 [.int .u8], .int .i64], .int .i64, .int .i64, .bool]]), (false, [.int .i64])]
def O_l_szSessS (r : (YI)) : List RV × List RV := ([rv (false, [.int .i64]) r], [])
def C_l_szSessS : Fns := [(50, .plain, F_l_szSess)]
def F_l_szSessS : Fun1 := funV P_l_szSessS (fun d => (T_l_szSessS d.1 d.2.1).val) O_l_szSessS
def K_l_szSessS_5 : Sk := ⟨[(0, .v false [(.sl 85 [.int .i64, .sl 5 [.int .u8], .sl 5 [.int .u8], .int .i64, .sl 5 [.int .u8], .int .i64, .sl 5 [.int .u8], .int .i64, .int .i64, .sl 3 [.int .i64], .int .i64, .sl 5 [.int .u8], .int .i64, .int .i64, .sl 3 [.int .i64], .bool, .int .i64, .sl 5 [.int .u8], .int .i64, .int .i64, .sl 194 [.int .i64, .int .i64, .sl 5 [.int .u8], .int .i64], .int .i64, .int .i64, .bool], .ro)]), (1, .v false [(.int .i64, .nil)]), (5, .v false [(.int .i64, .nil)])], [], []⟩
def X_l_szSessS_5 : List (Ex × Sk) := [(.ret, ⟨[(4, .v false [(.int .i64, .nil)])], [], []⟩), ((.exit 0), ⟨[(1, .v false [(.int .i64, .nil)])], [], []⟩)]
def Q_l_szSessS : Loops := fun i st => cond (Nat.beq i 5) (lam K_l_szSessS_5 6000000 X_l_szSessS_5 B_l_szSessS_5 st) <| .fail
theorem lp_l_szSessS_5 : ∀ d, bod ⟨lookT tys, ctrOf C_l_szSessS, kindOf C_l_szSessS, 3, 4⟩ 0 Try.f78.ntmps Q_l_szSessS (nthLoop Try.f78 0) K_l_szSessS_5 6000000 X_l_szSessS_5 d = B_l_szSessS_5 d := fun d => by kernel_rfl
theorem lo_l_szSessS_5 (cx : Cx) (hp : cx.pin.length ≤ 0) : LoopOk Try.prog cx Try.f78.ntmps Q_l_szSessS (nthLoop Try.f78 0) := loop_of (cfgOk_of mixed tys_ok (show FnsOk Try.prog C_l_szSessS from ⟨fn_l_szSess, trivial⟩)) hp (all_of (by kernel_rfl : loopsOf (nthLoop Try.f78 0) = []) trivial) (by kernel_rfl) lp_l_szSessS_5
theorem e_l_szSessS : ∀ d, pcall ⟨lookT tys, ctrOf C_l_szSessS, kindOf C_l_szSessS, 3, 4⟩ 0 Q_l_szSessS Try.f78 .plain (mkA P_l_szSessS d) = (T_l_szSessS d.1 d.2.1).run fun r => some (O_l_szSessS r) := fun d => by kernel_rfl
theorem fn_l_szSessS : Fn Try.prog 78 .plain F_l_szSessS := fn_of (cfgOk_of mixed tys_ok (show FnsOk Try.prog C_l_szSessS from ⟨fn_l_szSess, trivial⟩)) Try.func78 (by kernel_rfl) (by kernel_rfl) (fun cx b hp hb => all_of (by kernel_rfl : loopsOf (Try.f78.body.getD .skip) = [nthLoop Try.f78 0]) ⟨lo_l_szSessS_5 cx hp, trivial⟩ b hb) (R := (YI)) (T := fun (d : aden P_l_szSessS) => T_l_szSessS d.1 d.2.1) e_l_szSessS
def P_l_szTab : List (Bool × List Sh) := [(true, [.int .i64, .sl 85 [.int .i64, .sl 5 [.int .u8], .sl 5 [.int .u8], .int .i64, .sl 5 [.int .u8], .int .i64, .sl 5 [.int .u8], .int .i64, .int .i64, .sl 3 [.int .i64], .int .i64, .sl 5 [.int .u8], .int .i64, .int .i64, .sl 3 [.int .i64], .bool, .int .i64, .sl 5 [.int .u8], .int .i64, .int .i64, .sl 194 [.int .i64, .int .i64, .sl 5 [.int .u8], .int .i64], .int .i64, .int .i64, .bool]]), (false, [.int .i64])]
def O_l_szTab (r : (YI)) : List RV × List RV := ([rv (false, [.int .i64]) r], [])
def C_l_szTab : Fns := [(78, .plain, F_l_szSessS)]
def F_l_szTab : Fun1 := funV P_l_szTab (fun d => (T_l_szTab d.1 d.2.1).val) O_l_szTab
def Q_l_szTab : Loops := fun _ _ => .fail
theorem e_l_szTab : ∀ d, pcall ⟨lookT tys, ctrOf C_l_szTab, kindOf C_l_szTab, 3, 4⟩ 0 Q_l_szTab Try.f35 .plain (mkA P_l_szTab d) = (T_l_szTab d.1 d.2.1).run fun r => some (O_l_szTab r) := fun d => by kernel_rfl
theorem fn_l_szTab : Fn Try.prog 35 .plain F_l_szTab := fn_of (cfgOk_of mixed tys_ok (show FnsOk Try.prog C_l_szTab from ⟨fn_l_szSessS, trivial⟩)) Try.func35 (by kernel_rfl) (by kernel_rfl) (fun cx b hp hb => all_of (by kernel_rfl : loopsOf (Try.f35.body.getD .skip) = []) trivial b hb) (R := (YI)) (T := fun (d : aden P_l_szTab) => T_l_szTab d.1 d.2.1) e_l_szTab
def P_l_toByteS : List (Bool × List Sh) := [(false, [.sl 5 [.int .u8]])]
def O_l_toByteS (r : (YBs)) : List RV × List RV := ([rv (false, [.sl 5 [.int .u8]]) r], [])
def C_l_toByteS : Fns := []
def F_l_toByteS : Fun1 := funV P_l_toByteS (fun d => (T_l_toByteS d.1).val) O_l_toByteS
def K_l_toByteS_3 : Sk := ⟨[(0, .v false [(.sl 5 [.int .u8], .ro)]), (3, .v false [(.sl 5 [.int .u8], (.own 4000000))]), (4, .v false [(.int .i64, .nil)])], [], [4000000]⟩
def X_l_toByteS_3 : List (Ex × Sk) := [((.exit 0), ⟨[(3, .v false [(.sl 5 [.int .u8], (.own 4000000))])], [], [4000000]⟩)]
def Q_l_toByteS : Loops := fun i st => cond (Nat.beq i 3) (lam K_l_toByteS_3 4000000 X_l_toByteS_3 B_l_toByteS_3 st) <| .fail
theorem lp_l_toByteS_3 : ∀ d, bod ⟨lookT tys, ctrOf C_l_toByteS, kindOf C_l_toByteS, 3, 4⟩ 0 Try.f43.ntmps Q_l_toByteS (nthLoop Try.f43 0) K_l_toByteS_3 4000000 X_l_toByteS_3 d = B_l_toByteS_3 d := fun d => by kernel_rfl
theorem lo_l_toByteS_3 (cx : Cx) (hp : cx.pin.length ≤ 0) : LoopOk Try.prog cx Try.f43.ntmps Q_l_toByteS (nthLoop Try.f43 0) := loop_of (cfgOk_of mixed tys_ok (show FnsOk Try.prog C_l_toByteS from trivial)) hp (all_of (by kernel_rfl : loopsOf (nthLoop Try.f43 0) = []) trivial) (by kernel_rfl) lp_l_toByteS_3
theorem e_l_toByteS : ∀ d, pcall ⟨lookT tys, ctrOf C_l_toByteS, kindOf C_l_toByteS, 3, 4⟩ 0 Q_l_toByteS Try.f43 .plain (mkA P_l_toByteS d) = (T_l_toByteS d.1).run fun r => some (O_l_toByteS r) := fun d => by kernel_rfl
theorem fn_l_toByteS : Fn Try.prog 43 .plain F_l_toByteS := fn_of (cfgOk_of mixed tys_ok (show FnsOk Try.prog C_l_toByteS from trivial)) Try.func43 (by kernel_rfl) (by kernel_rfl) (fun cx b hp hb => all_of (by kernel_rfl : loopsOf (Try.f43.body.getD .skip) = [nthLoop Try.f43 0]) ⟨lo_l_toByteS_3 cx hp, trivial⟩ b hb) (R := (YBs)) (T := fun (d : aden P_l_toByteS) => T_l_toByteS d.1) e_l_toByteS
def P_l_toIntS : List (Bool × List Sh) := [(false, [.sl 3 [.int .i64]])]
def O_l_toIntS (r : ((List YI) × Unit)) : List RV × List RV := ([rv (false, [.sl 3 [.int .i64]]) r], [])
def C_l_toIntS : Fns := []
def F_l_toIntS : Fun1 := funV P_l_toIntS (fun d => (T_l_toIntS d.1).val) O_l_toIntS
def K_l_toIntS_3 : Sk := ⟨[(0, .v false [(.sl 3 [.int .i64], .ro)]), (3, .v false [(.sl 3 [.int .i64], (.own 4000000))]), (4, .v false [(.int .i64, .nil)])], [], [4000000]⟩
def X_l_toIntS_3 : List (Ex × Sk) := [((.exit 0), ⟨[(3, .v false [(.sl 3 [.int .i64], (.own 4000000))])], [], [4000000]⟩)]
def Q_l_toIntS : Loops := fun i st => cond (Nat.beq i 3) (lam K_l_toIntS_3 4000000 X_l_toIntS_3 B_l_toIntS_3 st) <| .fail
theorem lp_l_toIntS_3 : ∀ d, bod ⟨lookT tys, ctrOf C_l_toIntS, kindOf C_l_toIntS, 3, 4⟩ 0 Try.f177.ntmps Q_l_toIntS (nthLoop Try.f177 0) K_l_toIntS_3 4000000 X_l_toIntS_3 d = B_l_toIntS_3 d := fun d => by kernel_rfl
theorem lo_l_toIntS_3 (cx : Cx) (hp : cx.pin.length ≤ 0) : LoopOk Try.prog cx Try.f177.ntmps Q_l_toIntS (nthLoop Try.f177 0) := loop_of (cfgOk_of mixed tys_ok (show FnsOk Try.prog C_l_toIntS from trivial)) hp (all_of (by kernel_rfl : loopsOf (nthLoop Try.f177 0) = []) trivial) (by kernel_rfl) lp_l_toIntS_3
theorem e_l_toIntS : ∀ d, pcall ⟨lookT tys, ctrOf C_l_toIntS, kindOf C_l_toIntS, 3, 4⟩ 0 Q_l_toIntS Try.f177 .plain (mkA P_l_toIntS d) = (T_l_toIntS d.1).run fun r => some (O_l_toIntS r) := fun d => by kernel_rfl
theorem fn_l_toIntS : Fn Try.prog 177 .plain F_l_toIntS := fn_of (cfgOk_of mixed tys_ok (show FnsOk Try.prog C_l_toIntS from trivial)) Try.func177 (by kernel_rfl) (by kernel_rfl) (fun cx b hp hb => all_of (by kernel_rfl : loopsOf (Try.f177.body.getD .skip) = [nthLoop Try.f177 0]) ⟨lo_l_toIntS_3 cx hp, trivial⟩ b hb) (R := ((List YI) × Unit)) (T := fun (d : aden P_l_toIntS) => T_l_toIntS d.1) e_l_toIntS
def P_l_toWin : List (Bool × List Sh) := [(true, [.int .i64, .sl 3 [.int .i64]])]
def O_l_toWin (r : (YWin)) : List RV × List RV := ([rv (true, [.int .i64, .sl 3 [.int .i64]]) r], [])
def C_l_toWin : Fns := [(177, .plain, F_l_toIntS)]
def F_l_toWin : Fun1 := funV P_l_toWin (fun d => (T_l_toWin d.1).val) O_l_toWin
def Q_l_toWin : Loops := fun _ _ => .fail
theorem e_l_toWin : ∀ d, pcall ⟨lookT tys, ctrOf C_l_toWin, kindOf C_l_toWin, 3, 4⟩ 0 Q_l_toWin Try.f165 .plain (mkA P_l_toWin d) = (T_l_toWin d.1).run fun r => some (O_l_toWin r) := fun d => by kernel_rfl
theorem fn_l_toWin : Fn Try.prog 165 .plain F_l_toWin := fn_of (cfgOk_of mixed tys_ok (show FnsOk Try.prog C_l_toWin from ⟨fn_l_toIntS, trivial⟩)) Try.func165 (by kernel_rfl) (by kernel_rfl) (fun cx b hp hb => all_of (by kernel_rfl : loopsOf (Try.f165.body.getD .skip) = []) trivial b hb) (R := (YWin)) (T := fun (d : aden P_l_toWin) => T_l_toWin d.1) e_l_toWin
def P_l_toEp : List (Bool × List Sh) := [(true, [.int .i64, .sl 5 [.int .u8], .int .i64, .int .i64, .sl 3 [.int .i64]])]
def O_l_toEp (r : (YEp)) : List RV × List RV := ([rv (true, [.int .i64, .sl 5 [.int .u8], .int .i64, .int .i64, .sl 3 [.int .i64]]) r], [])
def C_l_toEp : Fns := [(43, .plain, F_l_toByteS), (165, .plain, F_l_toWin)]
def F_l_toEp : Fun1 := funV P_l_toEp (fun d => (T_l_toEp d.1).val) O_l_toEp
def Q_l_toEp : Loops := fun _ _ => .fail
theorem e_l_toEp : ∀ d, pcall ⟨lookT tys, ctrOf C_l_toEp, kindOf C_l_toEp, 3, 4⟩ 0 Q_l_toEp Try.f136 .plain (mkA P_l_toEp d) = (T_l_toEp d.1).run fun r => some (O_l_toEp r) := fun d => by kernel_rfl
theorem fn_l_toEp : Fn Try.prog 136 .plain F_l_toEp := fn_of (cfgOk_of mixed tys_ok (show FnsOk Try.prog C_l_toEp from ⟨fn_l_toByteS, fn_l_toWin, trivial⟩)) Try.func136 (by kernel_rfl) (by kernel_rfl) (fun cx b hp hb => all_of (by kernel_rfl : loopsOf (Try.f136.body.getD .skip) = []) trivial b hb) (R := (YEp)) (T := fun (d : aden P_l_toEp) => T_l_toEp d.1) e_l_toEp
def P_l_toChan : List (Bool × List Sh) := [(true, [.int .i64, .sl 5 [.int .u8], .int .i64, .sl 5 [.int .u8], .int .i64, .int .i64, .sl 3 [.int .i64], .int .i64, .sl 5 [.int .u8], .int .i64, .int .i64, .sl 3 [.int .i64], .bool, .int .i64, .sl 5 [.int .u8]])]
def O_l_toChan (r : (YChan)) : List RV × List RV := ([rv (true, [.int .i64, .sl 5 [.int .u8], .int .i64, .sl 5 [.int .u8], .int .i64, .int .i64, .sl 3 [.int .i64], .int .i64, .sl 5 [.int .u8], .int .i64, .int .i64, .sl 3 [.int .i64], .bool, .int .i64, .sl 5 [.int .u8]]) r], [])
def C_l_toChan : Fns := [(43, .plain, F_l_toByteS), (136, .plain, F_l_toEp)]
def F_l_toChan : Fun1 := funV P_l_toChan (fun d => (T_l_toChan d.1).val) O_l_toChan
def Q_l_toChan : Loops := fun _ _ => .fail
theorem e_l_toChan : ∀ d, pcall ⟨lookT tys, ctrOf C_l_toChan, kindOf C_l_toChan, 3, 4⟩ 0 Q_l_toChan Try.f93 .plain (mkA P_l_toChan d) = (T_l_toChan d.1).run fun r => some (O_l_toChan r) := fun d => by kernel_rfl
theorem fn_l_toChan : Fn Try.prog 93 .plain F_l_toChan := fn_of (cfgOk_of mixed tys_ok (show FnsOk Try.prog C_l_toChan from ⟨fn_l_toByteS, fn_l_toEp, trivial⟩)) Try.func93 (by kernel_rfl) (by kernel_rfl) (fun cx b hp hb => all_of (by kernel_rfl : loopsOf (Try.f93.body.getD .skip) = []) trivial b hb) (R := (YChan)) (T := fun (d : aden P_l_toChan) => T_l_toChan d.1) e_l_toChan
def P_l_toAddr : List (Bool × List Sh) := [(true, [.int .i64, .int .i64])]
def O_l_toAddr (r : (YAddr)) : List RV × List RV := ([rv (true, [.int .i64, .int .i64]) r], [])
def C_l_toAddr : Fns := []
def F_l_toAddr : Fun1 := funV P_l_toAddr (fun d => (T_l_toAddr d.1).val) O_l_toAddr
def Q_l_toAddr : Loops := fun _ _ => .fail
theorem e_l_toAddr : ∀ d, pcall ⟨lookT tys, ctrOf C_l_toAddr, kindOf C_l_toAddr, 3, 4⟩ 0 Q_l_toAddr Try.f17 .plain (mkA P_l_toAddr d) = (T_l_toAddr d.1).run fun r => some (O_l_toAddr r) := fun d => by kernel_rfl
theorem fn_l_toAddr : Fn Try.prog 17 .plain F_l_toAddr := fn_of (cfgOk_of mixed tys_ok (show FnsOk Try.prog C_l_toAddr from trivial)) Try.func17 (by kernel_rfl) (by kernel_rfl) (fun cx b hp hb => all_of (by kernel_rfl : loopsOf (Try.f17.body.getD .skip) = []) trivial b hb) (R := (YAddr)) (T := fun (d : aden P_l_toAddr) => T_l_toAddr d.1) e_l_toAddr
def P_l_toCand : List (Bool × List Sh) := [(true, [.int .i64, .int .i64, .sl 5 [.int .u8], .int .i64])]
def O_l_toCand (r : (YCand)) : List RV × List RV := ([rv (true, [.int .i64, .int .i64, .sl 5 [.int .u8], .int .i64]) r], [])
def C_l_toCand : Fns := [(17, .plain, F_l_toAddr), (43, .plain, F_l_toByteS)]
def F_l_toCand : Fun1 := funV P_l_toCand (fun d => (T_l_toCand d.1).val) O_l_toCand
def Q_l_toCand : Loops := fun _ _ => .fail
theorem e_l_toCand : ∀ d, pcall ⟨lookT tys, ctrOf C_l_toCand, kindOf C_l_toCand, 3, 4⟩ 0 Q_l_toCand Try.f166 .plain (mkA P_l_toCand d) = (T_l_toCand d.1).run fun r => some (O_l_toCand r) := fun d => by kernel_rfl
theorem fn_l_toCand : Fn Try.prog 166 .plain F_l_toCand := fn_of (cfgOk_of mixed tys_ok (show FnsOk Try.prog C_l_toCand from ⟨fn_l_toAddr, fn_l_toByteS, trivial⟩)) Try.func166 (by kernel_rfl) (by kernel_rfl) (fun cx b hp hb => all_of (by kernel_rfl : loopsOf (Try.f166.body.getD .skip) = []) trivial b hb) (R := (YCand)) (T := fun (d : aden P_l_toCand) => T_l_toCand d.1) e_l_toCand
def P_l_toCandS : List (Bool × List Sh) := [(false, [.sl 194 [.int .i64, .int .i64, .sl 5 [.int .u8], .int .i64]])]
def O_l_toCandS (r : ((List YCand) × Unit)) : List RV × List RV := ([rv (false, [.sl 175 [.int .i64, .int .i64, .sl 5 [.int .u8], .int .i64]]) r], [])
def C_l_toCandS : Fns := [(166, .plain, F_l_toCand)]
def F_l_toCandS : Fun1 := funV P_l_toCandS (fun d => (T_l_toCandS d.1).val) O_l_toCandS
def K_l_toCandS_3 : Sk := ⟨[(0, .v false [(.sl 194 [.int .i64, .int .i64, .sl 5 [.int .u8], .int .i64], .ro)]), (3, .v false [(.sl 175 [.int .i64, .int .i64, .sl 5 [.int .u8], .int .i64], (.own 4000000))]), (4, .v false [(.int .i64, .nil)])], [], [4000000]⟩
def X_l_toCandS_3 : List (Ex × Sk) := [((.exit 0), ⟨[(3, .v false [(.sl 175 [.int .i64, .int .i64, .sl 5 [.int .u8], .int .i64], (.own 4000000))])], [], [4000000]⟩)]
def Q_l_toCandS : Loops := fun i st => cond (Nat.beq i 3) (lam K_l_toCandS_3 4000000 X_l_toCandS_3 B_l_toCandS_3 st) <| .fail
theorem lp_l_toCandS_3 : ∀ d, bod ⟨lookT tys, ctrOf C_l_toCandS, kindOf C_l_toCandS, 3, 4⟩ 0 Try.f137.ntmps Q_l_toCandS (nthLoop Try.f137 0) K_l_toCandS_3 4000000 X_l_toCandS_3 d = B_l_toCandS_3 d := fun d => by kernel_rfl
theorem lo_l_toCandS_3 (cx : Cx) (hp : cx.pin.length ≤ 0) : LoopOk Try.prog cx Try.f137.ntmps Q_l_toCandS (nthLoop Try.f137 0) := loop_of (cfgOk_of mixed tys_ok (show FnsOk Try.prog C_l_toCandS from ⟨fn_l_toCand, trivial⟩)) hp (all_of (by kernel_rfl : loopsOf (nthLoop Try.f137 0) = []) trivial) (by kernel_rfl) lp_l_toCandS_3
theorem e_l_toCandS : ∀ d, pcall ⟨lookT tys, ctrOf C_l_toCandS, kindOf C_l_toCandS, 3, 4⟩ 0 Q_l_toCandS Try.f137 .plain (mkA P_l_toCandS d) = (T_l_toCandS d.1).run fun r => some (O_l_toCandS r) := fun d => by kernel_rfl
theorem fn_l_toCandS : Fn Try.prog 137 .plain F_l_toCandS := fn_of (cfgOk_of mixed tys_ok (show FnsOk Try.prog C_l_toCandS from ⟨fn_l_toCand, trivial⟩)) Try.func137 (by kernel_rfl) (by kernel_rfl) (fun cx b hp hb => all_of (by kernel_rfl : loopsOf (Try.f137.body.getD .skip) = [nthLoop Try.f137 0]) ⟨lo_l_toCandS_3 cx hp, trivial⟩ b hb) (R := ((List YCand) × Unit)) (T := fun (d : aden P_l_toCandS) => T_l_toCandS d.1) e_l_toCandS
def P_l_toPaths : List (Bool × List Sh) := [(true, [.int .i64, .int .i64, .sl 194 [.int .i64, .int .i64, .sl 5 [.int .u8], .int .i64]])]
def O_l_toPaths (r : (YPaths)) : List RV × List RV := ([rv (true, [.int .i64, .int .i64, .sl 175 [.int .i64, .int .i64, .sl 5 [.int .u8], .int .i64]]) r], [])
def C_l_toPaths : Fns := [(17, .plain, F_l_toAddr), (137, .plain, F_l_toCandS)]
def F_l_toPaths : Fun1 := funV P_l_toPaths (fun d => (T_l_toPaths d.1).val) O_l_toPaths
def Q_l_toPaths : Loops := fun _ _ => .fail
theorem e_l_toPaths : ∀ d, pcall ⟨lookT tys, ctrOf C_l_toPaths, kindOf C_l_toPaths, 3, 4⟩ 0 Q_l_toPaths Try.f94 .plain (mkA P_l_toPaths d) = (T_l_toPaths d.1).run fun r => some (O_l_toPaths r) := fun d => by kernel_rfl
theorem fn_l_toPaths : Fn Try.prog 94 .plain F_l_toPaths := fn_of (cfgOk_of mixed tys_ok (show FnsOk Try.prog C_l_toPaths from ⟨fn_l_toAddr, fn_l_toCandS, trivial⟩)) Try.func94 (by kernel_rfl) (by kernel_rfl) (fun cx b hp hb => all_of (by kernel_rfl : loopsOf (Try.f94.body.getD .skip) = []) trivial b hb) (R := (YPaths)) (T := fun (d : aden P_l_toPaths) => T_l_toPaths d.1) e_l_toPaths
def P_l_toSess : List (Bool × List Sh) := [(true, [.int .i64, .sl 5 [.int .u8], .sl 5 [.int .u8], .int .i64, .sl 5 [.int .u8], .int .i64, .sl 5 [.int .u8], .int .i64, .int .i64, .sl 3 [.int .i64], .int .i64, .sl 5 [.int .u8], .int .i64, .int .i64, .sl 3 [.int .i64], .bool, .int .i64, .sl 5 [.int .u8], .int .i64, .int .i64, .sl 194 [.int .i64, .int .i64, .sl 5 [.int .u8], .int .i64], .int .i64, .int .i64, .bool])]
def O_l_toSess (r : (YSess)) : List RV × List RV := ([rv (true, [.int .i64, .sl 5 [.int .u8], .sl 5 [.int .u8], .int .i64, .sl 5 [.int .u8], .int .i64, .sl 5 [.int .u8], .int .i64, .int .i64, .sl 3 [.int .i64], .int .i64, .sl 5 [.int .u8], .int .i64, .int .i64, .sl 3 [.int .i64], .bool, .int .i64, .sl 5 [.int .u8], .int .i64, .int .i64, .sl 175 [.int .i64, .int .i64, .sl 5 [.int .u8], .int .i64], .int .i64, .int .i64, .bool]) r], [])
def C_l_toSess : Fns := [(43, .plain, F_l_toByteS), (93, .plain, F_l_toChan), (94, .plain, F_l_toPaths)]
def F_l_toSess : Fun1 := funV P_l_toSess (fun d => (T_l_toSess d.1).val) O_l_toSess
def Q_l_toSess : Loops := fun _ _ => .fail
theorem e_l_toSess : ∀ d, pcall ⟨lookT tys, ctrOf C_l_toSess, kindOf C_l_toSess, 3, 4⟩ 0 Q_l_toSess Try.f52 .plain (mkA P_l_toSess d) = (T_l_toSess d.1).run fun r => some (O_l_toSess r) := fun d => by kernel_rfl
theorem fn_l_toSess : Fn Try.prog 52 .plain F_l_toSess := fn_of (cfgOk_of mixed tys_ok (show FnsOk Try.prog C_l_toSess from ⟨fn_l_toByteS, fn_l_toChan, fn_l_toPaths, trivial⟩)) Try.func52 (by kernel_rfl) (by kernel_rfl) (fun cx b hp hb => all_of (by kernel_rfl : loopsOf (Try.f52.body.getD .skip) = []) trivial b hb) (R := (YSess)) (T := fun (d : aden P_l_toSess) => T_l_toSess d.1) e_l_toSess
def P_l_toSessS : List (Bool × List Sh) := [(false, [.sl 85 [.int .i64, .sl 5 [.int .u8], .sl 5 [.int .u8], .int .i64, .sl 5 [.int .u8], .int .i64, .sl 5 [.int .u8], .int .i64, .int .i64, .sl 3 [.int .i64], .int .i64, .sl 5 [.int .u8], .int .i64, .int .i64, .sl 3 [.int .i64], .bool, .int .i64, .sl 5 [.int .u8], .int .i64, .int .i64, .sl 194 [.int .i64, .int .i64, .sl 5 [.int .u8], .int .i64], .int .i64, .int .i64, .bool]])]
def O_l_toSessS (r : ((List YSess) × Unit)) : List RV × List RV := ([rv (false, [.sl 97 [.int .i64, .sl 5 [.int .u8], .sl 5 [.int .u8], .int .i64, .sl 5 [.int .u8], .int .i64, .sl 5 [.int .u8], .int .i64, .int .i64, .sl 3 [.int .i64], .int .i64, .sl 5 [.int .u8], .int .i64, .int .i64, .sl 3 [.int .i64], .bool, .int .i64, .sl 5 [.int .u8], .int .i64, .int .i64, .sl 175 [.int .i64, .int .i64, .sl 5 [.int .u8], .int .i64], .int .i64, .int .i64, .bool]]) r], [])
def C_l_toSessS : Fns := [(52, .plain, F_l_toSess)]
def F_l_toSessS : Fun1 := funV P_l_toSessS (fun d => (T_l_toSessS d.1).val) O_l_toSessS
def K_l_toSessS_3 : Sk := ⟨[(0, .v false [(.sl 85 [.int .i64, .sl 5 [.int .u8], .sl 5 [.int .u8], .int .i64, .sl 5 [.int .u8], .int .i64, .sl 5 [.int .u8], .int .i64, .int .i64, .sl 3 [.int .i64], .int .i64, .sl 5 [.int .u8], .int .i64, .int .i64, .sl 3 [.int .i64], .bool, .int .i64, .sl 5 [.int .u8], .int .i64, .int .i64, .sl 194 [.int .i64, .int .i64, .sl 5 [.int .u8], .int .i64], .int .i64, .int .i64, .bool], .ro)]), (3, .v false [(.sl 97 [.int .i64, .sl 5 [.int .u8], .sl 5 [.int .u8], .int .i64, .sl 5 [.int .u8], .int .i64, .sl 5 [.int .u8], .int .i64, .int .i64, .sl 3 [.int .i64], .int .i64, .sl 5 [.int .u8], .int .i64, .int .i64, .sl 3 [.int .i64], .bool, .int .i64, .sl 5 [.int .u8], .int .i64, .int .i64, .sl 175 [.int .i64, .int .i64, .sl 5 [.int .u8], .int .i64], .int .i64, .int .i64, .bool], (.own 4000000))]), (4, .v false [(.int .i64, .nil)])], [], [4000000]⟩
def X_l_toSessS_3 : List (Ex × Sk) := [((.exit 0), ⟨[(3, .v false [(.sl 97 [.int .i64, .sl 5 [.int .u8], .sl 5 [.int .u8], .int .i64, .sl 5 [.int .u8], .int .i64, .sl 5 [.int .u8], .int .i64, .int .i64, .sl 3 [.int .i64], .int .i64, .sl 5 [.int .u8], .int .i64, .int .i64, .sl 3 [.int .i64], .bool, .int .i64, .sl 5 [.int .u8], .int .i64, .int .i64, .sl 175 [.int .i64, .int .i64, .sl 5 [.int .u8], .int .i64], .int .i64, .int .i64, .bool], (.own 4000000))])], [], [4000000]⟩)]
def Q_l_toSessS : Loops := fun i st => cond (Nat.beq i 3) (lam K_l_toSessS_3 4000000 X_l_toSessS_3 B_l_toSessS_3 st) <| .fail
theorem lp_l_toSessS_3 : ∀ d, bod ⟨lookT tys, ctrOf C_l_toSessS, kindOf C_l_toSessS, 3, 4⟩ 0 Try.f79.ntmps Q_l_toSessS (nthLoop Try.f79 0) K_l_toSessS_3 4000000 X_l_toSessS_3 d = B_l_toSessS_3 d := fun d => by kernel_rfl
theorem lo_l_toSessS_3 (cx : Cx) (hp : cx.pin.length ≤ 0) : LoopOk Try.prog cx Try.f79.ntmps Q_l_toSessS (nthLoop Try.f79 0) := loop_of (cfgOk_of mixed tys_ok (show FnsOk Try.prog C_l_toSessS from ⟨fn_l_toSess, trivial⟩)) hp (all_of (by kernel_rfl : loopsOf (nthLoop Try.f79 0) = []) trivial) (by kernel_rfl) lp_l_toSessS_3
theorem e_l_toSessS : ∀ d, pcall ⟨lookT tys, ctrOf C_l_toSessS, kindOf C_l_toSessS, 3, 4⟩ 0 Q_l_toSessS Try.f79 .plain (mkA P_l_toSessS d) = (T_l_toSessS d.1).run fun r => some (O_l_toSessS r) := fun d => by kernel_rfl
theorem fn_l_toSessS : Fn Try.prog 79 .plain F_l_toSessS := fn_of (cfgOk_of mixed tys_ok (show FnsOk Try.prog C_l_toSessS from ⟨fn_l_toSess, trivial⟩)) Try.func79 (by kernel_rfl) (by kernel_rfl) (fun cx b hp hb => all_of (by kernel_rfl : loopsOf (Try.f79.body.getD .skip) = [nthLoop Try.f79 0]) ⟨lo_l_toSessS_3 cx hp, trivial⟩ b hb) (R := ((List YSess) × Unit)) (T := fun (d : aden P_l_toSessS) => T_l_toSessS d.1) e_l_toSessS
def P_l_toTab : List (Bool × List Sh) := [(true, [.int .i64, .sl 85 [.int .i64, .sl 5 [.int .u8], .sl 5 [.int .u8], .int .i64, .sl 5 [.int .u8], .int .i64, .sl 5 [.int .u8], .int .i64, .int .i64, .sl 3 [.int .i64], .int .i64, .sl 5 [.int .u8], .int .i64, .int .i64, .sl 3 [.int .i64], .bool, .int .i64, .sl 5 [.int .u8], .int .i64, .int .i64, .sl 194 [.int .i64, .int .i64, .sl 5 [.int .u8], .int .i64], .int .i64, .int .i64, .bool]])]
def O_l_toTab (r : (YTab)) : List RV × List RV := ([rv (true, [.int .i64, .sl 97 [.int .i64, .sl 5 [.int .u8], .sl 5 [.int .u8], .int .i64, .sl 5 [.int .u8], .int .i64, .sl 5 [.int .u8], .int .i64, .int .i64, .sl 3 [.int .i64], .int .i64, .sl 5 [.int .u8], .int .i64, .int .i64, .sl 3 [.int .i64], .bool, .int .i64, .sl 5 [.int .u8], .int .i64, .int .i64, .sl 175 [.int .i64, .int .i64, .sl 5 [.int .u8], .int .i64], .int .i64, .int .i64, .bool]]) r], [])
def C_l_toTab : Fns := [(79, .plain, F_l_toSessS)]
def F_l_toTab : Fun1 := funV P_l_toTab (fun d => (T_l_toTab d.1).val) O_l_toTab
def Q_l_toTab : Loops := fun _ _ => .fail
theorem e_l_toTab : ∀ d, pcall ⟨lookT tys, ctrOf C_l_toTab, kindOf C_l_toTab, 3, 4⟩ 0 Q_l_toTab Try.f37 .plain (mkA P_l_toTab d) = (T_l_toTab d.1).run fun r => some (O_l_toTab r) := fun d => by kernel_rfl
theorem fn_l_toTab : Fn Try.prog 37 .plain F_l_toTab := fn_of (cfgOk_of mixed tys_ok (show FnsOk Try.prog C_l_toTab from ⟨fn_l_toSessS, trivial⟩)) Try.func37 (by kernel_rfl) (by kernel_rfl) (fun cx b hp hb => all_of (by kernel_rfl : loopsOf (Try.f37.body.getD .skip) = []) trivial b hb) (R := (YTab)) (T := fun (d : aden P_l_toTab) => T_l_toTab d.1) e_l_toTab
def P_s_AtOf : List (Bool × List Sh) := [(true, [.int .i64, .sl 97 [.int .i64, .sl 5 [.int .u8], .sl 5 [.int .u8], .int .i64, .sl 5 [.int .u8], .int .i64, .sl 5 [.int .u8], .int .i64, .int .i64, .sl 3 [.int .i64], .int .i64, .sl 5 [.int .u8], .int .i64, .int .i64, .sl 3 [.int .i64], .bool, .int .i64, .sl 5 [.int .u8], .int .i64, .int .i64, .sl 175 [.int .i64, .int .i64, .sl 5 [.int .u8], .int .i64], .int .i64, .int .i64, .bool]]), (true, [.int .i64, .int .i64])]
def O_s_AtOf (r : (Bool × Unit)) : List RV × List RV := ([rv (false, [.bool]) r], [])
def C_s_AtOf : Fns := []
def F_s_AtOf : Fun1 := funV P_s_AtOf (fun d => (T_s_AtOf d.1 d.2.1).val) O_s_AtOf
def K_s_AtOf_2 : Sk := ⟨[(2, .box 2 0), (3, .box 3 0), (5, .v false [(.int .i64, .nil)])], [(2, [(.int .i64, .nil), (.sl 97 [.int .i64, .sl 5 [.int .u8], .sl 5 [.int .u8], .int .i64, .sl 5 [.int .u8], .int .i64, .sl 5 [.int .u8], .int .i64, .int .i64, .sl 3 [.int .i64], .int .i64, .sl 5 [.int .u8], .int .i64, .int .i64, .sl 3 [.int .i64], .bool, .int .i64, .sl 5 [.int .u8], .int .i64, .int .i64, .sl 175 [.int .i64, .int .i64, .sl 5 [.int .u8], .int .i64], .int .i64, .int .i64, .bool], .ro)]), (3, [(.int .i64, .nil), (.int .i64, .nil)])], []⟩
def X_s_AtOf_2 : List (Ex × Sk) := [(.ret, ⟨[(4, .v false [(.bool, .nil)])], [], []⟩), ((.exit 0), ⟨[], [], []⟩)]
def Q_s_AtOf : Loops := fun i st => cond (Nat.beq i 2) (lam K_s_AtOf_2 3000000 X_s_AtOf_2 B_s_AtOf_2 st) <| .fail
theorem lp_s_AtOf_2 : ∀ d, bod ⟨lookT tys, ctrOf C_s_AtOf, kindOf C_s_AtOf, 3, 4⟩ 0 Try.f36.ntmps Q_s_AtOf (nthLoop Try.f36 0) K_s_AtOf_2 3000000 X_s_AtOf_2 d = B_s_AtOf_2 d := fun d => by kernel_rfl
theorem lo_s_AtOf_2 (cx : Cx) (hp : cx.pin.length ≤ 0) : LoopOk Try.prog cx Try.f36.ntmps Q_s_AtOf (nthLoop Try.f36 0) := loop_of (cfgOk_of mixed tys_ok (show FnsOk Try.prog C_s_AtOf from trivial)) hp (all_of (by kernel_rfl : loopsOf (nthLoop Try.f36 0) = []) trivial) (by kernel_rfl) lp_s_AtOf_2
theorem e_s_AtOf : ∀ d, pcall ⟨lookT tys, ctrOf C_s_AtOf, kindOf C_s_AtOf, 3, 4⟩ 0 Q_s_AtOf Try.f36 .plain (mkA P_s_AtOf d) = (T_s_AtOf d.1 d.2.1).run fun r => some (O_s_AtOf r) := fun d => by kernel_rfl
theorem fn_s_AtOf : Fn Try.prog 36 .plain F_s_AtOf := fn_of (cfgOk_of mixed tys_ok (show FnsOk Try.prog C_s_AtOf from trivial)) Try.func36 (by kernel_rfl) (by kernel_rfl) (fun cx b hp hb => all_of (by kernel_rfl : loopsOf (Try.f36.body.getD .skip) = [nthLoop Try.f36 0]) ⟨lo_s_AtOf_2 cx hp, trivial⟩ b hb) (R := (Bool × Unit)) (T := fun (d : aden P_s_AtOf) => T_s_AtOf d.1 d.2.1) e_s_AtOf
def P_i_AtOf : List (Bool × List Sh) := [(true, [.int .i64, .sl 97 [.int .i64, .sl 5 [.int .u8], .sl 5 [.int .u8], .int .i64, .sl 5 [.int .u8], .int .i64, .sl 5 [.int .u8], .int .i64, .int .i64, .sl 3 [.int .i64], .int .i64, .sl 5 [.int .u8], .int .i64, .int .i64, .sl 3 [.int .i64], .bool, .int .i64, .sl 5 [.int .u8], .int .i64, .int .i64, .sl 175 [.int .i64, .int .i64, .sl 5 [.int .u8], .int .i64], .int .i64, .int .i64, .bool]]), (true, [.int .i64, .int .i64])]
def O_i_AtOf (r : (Bool × Unit)) : List RV × List RV := ([rv (false, [.bool]) r], [])
def C_i_AtOf : Fns := []
def F_i_AtOf : Fun1 := funV P_i_AtOf (fun d => (T_i_AtOf d.1 d.2.1).val) O_i_AtOf
def K_i_AtOf_2 : Sk := ⟨[(3, .box 3 0), (8, .v false [(.sl 97 [.int .i64, .sl 5 [.int .u8], .sl 5 [.int .u8], .int .i64, .sl 5 [.int .u8], .int .i64, .sl 5 [.int .u8], .int .i64, .int .i64, .sl 3 [.int .i64], .int .i64, .sl 5 [.int .u8], .int .i64, .int .i64, .sl 3 [.int .i64], .bool, .int .i64, .sl 5 [.int .u8], .int .i64, .int .i64, .sl 175 [.int .i64, .int .i64, .sl 5 [.int .u8], .int .i64], .int .i64, .int .i64, .bool], .ro)]), (9, .v false [(.int .i64, .nil)]), (10, .v false [(.int .i64, .nil)])], [(3, [(.int .i64, .nil), (.int .i64, .nil)])], []⟩
def X_i_AtOf_2 : List (Ex × Sk) := [(.ret, ⟨[(4, .v false [(.bool, .nil)])], [], []⟩), ((.exit 0), ⟨[], [], []⟩)]
def Q_i_AtOf : Loops := fun i st => cond (Nat.beq i 2) (lam K_i_AtOf_2 3000000 X_i_AtOf_2 B_i_AtOf_2 st) <| .fail
theorem lp_i_AtOf_2 : ∀ d, bod ⟨lookT tys, ctrOf C_i_AtOf, kindOf C_i_AtOf, 3, 4⟩ 0 Try.f38.ntmps Q_i_AtOf (nthLoop Try.f38 0) K_i_AtOf_2 3000000 X_i_AtOf_2 d = B_i_AtOf_2 d := fun d => by kernel_rfl
theorem lo_i_AtOf_2 (cx : Cx) (hp : cx.pin.length ≤ 0) : LoopOk Try.prog cx Try.f38.ntmps Q_i_AtOf (nthLoop Try.f38 0) := loop_of (cfgOk_of mixed tys_ok (show FnsOk Try.prog C_i_AtOf from trivial)) hp (all_of (by kernel_rfl : loopsOf (nthLoop Try.f38 0) = []) trivial) (by kernel_rfl) lp_i_AtOf_2
theorem e_i_AtOf : ∀ d, pcall ⟨lookT tys, ctrOf C_i_AtOf, kindOf C_i_AtOf, 3, 4⟩ 0 Q_i_AtOf Try.f38 .plain (mkA P_i_AtOf d) = (T_i_AtOf d.1 d.2.1).run fun r => some (O_i_AtOf r) := fun d => by kernel_rfl
theorem fn_i_AtOf : Fn Try.prog 38 .plain F_i_AtOf := fn_of (cfgOk_of mixed tys_ok (show FnsOk Try.prog C_i_AtOf from trivial)) Try.func38 (by kernel_rfl) (by kernel_rfl) (fun cx b hp hb => all_of (by kernel_rfl : loopsOf (Try.f38.body.getD .skip) = [nthLoop Try.f38 0]) ⟨lo_i_AtOf_2 cx hp, trivial⟩ b hb) (R := (Bool × Unit)) (T := fun (d : aden P_i_AtOf) => T_i_AtOf d.1 d.2.1) e_i_AtOf
def P_l_eqByteS : List (Bool × List Sh) := [(false, [.sl 5 [.int .u8]]), (false, [.sl 5 [.int .u8]])]
def O_l_eqByteS (r : (Bool × Unit)) : List RV × List RV := ([rv (false, [.bool]) r], [])
def C_l_eqByteS : Fns := []
def F_l_eqByteS : Fun1 := funV P_l_eqByteS (fun d => (T_l_eqByteS d.1 d.2.1).val) O_l_eqByteS
def K_l_eqByteS_4 : Sk := ⟨[(0, .v false [(.sl 5 [.int .u8], .ro)]), (1, .v false [(.sl 5 [.int .u8], .ro)]), (5, .v false [(.int .i64, .nil)])], [], []⟩
def X_l_eqByteS_4 : List (Ex × Sk) := [(.ret, ⟨[(4, .v false [(.bool, .nil)])], [], []⟩), ((.exit 0), ⟨[], [], []⟩)]
def Q_l_eqByteS : Loops := fun i st => cond (Nat.beq i 4) (lam K_l_eqByteS_4 5000000 X_l_eqByteS_4 B_l_eqByteS_4 st) <| .fail
theorem lp_l_eqByteS_4 : ∀ d, bod ⟨lookT tys, ctrOf C_l_eqByteS, kindOf C_l_eqByteS, 3, 4⟩ 0 Try.f45.ntmps Q_l_eqByteS (nthLoop Try.f45 0) K_l_eqByteS_4 5000000 X_l_eqByteS_4 d = B_l_eqByteS_4 d := fun d => by kernel_rfl
theorem lo_l_eqByteS_4 (cx : Cx) (hp : cx.pin.length ≤ 0) : LoopOk Try.prog cx Try.f45.ntmps Q_l_eqByteS (nthLoop Try.f45 0) := loop_of (cfgOk_of mixed tys_ok (show FnsOk Try.prog C_l_eqByteS from trivial)) hp (all_of (by kernel_rfl : loopsOf (nthLoop Try.f45 0) = []) trivial) (by kernel_rfl) lp_l_eqByteS_4
theorem e_l_eqByteS : ∀ d, pcall ⟨lookT tys, ctrOf C_l_eqByteS, kindOf C_l_eqByteS, 3, 4⟩ 0 Q_l_eqByteS Try.f45 .plain (mkA P_l_eqByteS d) = (T_l_eqByteS d.1 d.2.1).run fun r => some (O_l_eqByteS r) := fun d => by kernel_rfl
theorem fn_l_eqByteS : Fn Try.prog 45 .plain F_l_eqByteS := fn_of (cfgOk_of mixed tys_ok (show FnsOk Try.prog C_l_eqByteS from trivial)) Try.func45 (by kernel_rfl) (by kernel_rfl) (fun cx b hp hb => all_of (by kernel_rfl : loopsOf (Try.f45.body.getD .skip) = [nthLoop Try.f45 0]) ⟨lo_l_eqByteS_4 cx hp, trivial⟩ b hb) (R := (Bool × Unit)) (T := fun (d : aden P_l_eqByteS) => T_l_eqByteS d.1 d.2.1) e_l_eqByteS
def P_l_eqIntS : List (Bool × List Sh) := [(false, [.sl 3 [.int .i64]]), (false, [.sl 3 [.int .i64]])]
def O_l_eqIntS (r : (Bool × Unit)) : List RV × List RV := ([rv (false, [.bool]) r], [])
def C_l_eqIntS : Fns := []
def F_l_eqIntS : Fun1 := funV P_l_eqIntS (fun d => (T_l_eqIntS d.1 d.2.1).val) O_l_eqIntS
def K_l_eqIntS_4 : Sk := ⟨[(0, .v false [(.sl 3 [.int .i64], .ro)]), (1, .v false [(.sl 3 [.int .i64], .ro)]), (5, .v false [(.int .i64, .nil)])], [], []⟩
def X_l_eqIntS_4 : List (Ex × Sk) := [(.ret, ⟨[(4, .v false [(.bool, .nil)])], [], []⟩), ((.exit 0), ⟨[], [], []⟩)]
def Q_l_eqIntS : Loops := fun i st => cond (Nat.beq i 4) (lam K_l_eqIntS_4 5000000 X_l_eqIntS_4 B_l_eqIntS_4 st) <| .fail
theorem lp_l_eqIntS_4 : ∀ d, bod ⟨lookT tys, ctrOf C_l_eqIntS, kindOf C_l_eqIntS, 3, 4⟩ 0 Try.f180.ntmps Q_l_eqIntS (nthLoop Try.f180 0) K_l_eqIntS_4 5000000 X_l_eqIntS_4 d = B_l_eqIntS_4 d := fun d => by kernel_rfl
theorem lo_l_eqIntS_4 (cx : Cx) (hp : cx.pin.length ≤ 0) : LoopOk Try.prog cx Try.f180.ntmps Q_l_eqIntS (nthLoop Try.f180 0) := loop_of (cfgOk_of mixed tys_ok (show FnsOk Try.prog C_l_eqIntS from trivial)) hp (all_of (by kernel_rfl : loopsOf (nthLoop Try.f180 0) = []) trivial) (by kernel_rfl) lp_l_eqIntS_4
theorem e_l_eqIntS : ∀ d, pcall ⟨lookT tys, ctrOf C_l_eqIntS, kindOf C_l_eqIntS, 3, 4⟩ 0 Q_l_eqIntS Try.f180 .plain (mkA P_l_eqIntS d) = (T_l_eqIntS d.1 d.2.1).run fun r => some (O_l_eqIntS r) := fun d => by kernel_rfl
theorem fn_l_eqIntS : Fn Try.prog 180 .plain F_l_eqIntS := fn_of (cfgOk_of mixed tys_ok (show FnsOk Try.prog C_l_eqIntS from trivial)) Try.func180 (by kernel_rfl) (by kernel_rfl) (fun cx b hp hb => all_of (by kernel_rfl : loopsOf (Try.f180.body.getD .skip) = [nthLoop Try.f180 0]) ⟨lo_l_eqIntS_4 cx hp, trivial⟩ b hb) (R := (Bool × Unit)) (T := fun (d : aden P_l_eqIntS) => T_l_eqIntS d.1 d.2.1) e_l_eqIntS
def P_l_eqWin : List (Bool × List Sh) := [(true, [.int .i64, .sl 3 [.int .i64]]), (true, [.int .i64, .sl 3 [.int .i64]])]
def O_l_eqWin (r : (Bool × Unit)) : List RV × List RV := ([rv (false, [.bool]) r], [])
def C_l_eqWin : Fns := [(180, .plain, F_l_eqIntS)]
def F_l_eqWin : Fun1 := funV P_l_eqWin (fun d => (T_l_eqWin d.1 d.2.1).val) O_l_eqWin
def Q_l_eqWin : Loops := fun _ _ => .fail
theorem e_l_eqWin : ∀ d, pcall ⟨lookT tys, ctrOf C_l_eqWin, kindOf C_l_eqWin, 3, 4⟩ 0 Q_l_eqWin Try.f169 .plain (mkA P_l_eqWin d) = (T_l_eqWin d.1 d.2.1).run fun r => some (O_l_eqWin r) := fun d => by kernel_rfl
theorem fn_l_eqWin : Fn Try.prog 169 .plain F_l_eqWin := fn_of (cfgOk_of mixed tys_ok (show FnsOk Try.prog C_l_eqWin from ⟨fn_l_eqIntS, trivial⟩)) Try.func169 (by kernel_rfl) (by kernel_rfl) (fun cx b hp hb => all_of (by kernel_rfl : loopsOf (Try.f169.body.getD .skip) = []) trivial b hb) (R := (Bool × Unit)) (T := fun (d : aden P_l_eqWin) => T_l_eqWin d.1 d.2.1) e_l_eqWin
def P_l_eqEp : List (Bool × List Sh) := [(true, [.int .i64, .sl 5 [.int .u8], .int .i64, .int .i64, .sl 3 [.int .i64]]), (true, [.int .i64, .sl 5 [.int .u8], .int .i64, .int .i64, .sl 3 [.int .i64]])]
def O_l_eqEp (r : (Bool × Unit)) : List RV × List RV := ([rv (false, [.bool]) r], [])
def C_l_eqEp : Fns := [(45, .plain, F_l_eqByteS), (169, .plain, F_l_eqWin)]
def F_l_eqEp : Fun1 := funV P_l_eqEp (fun d => (T_l_eqEp d.1 d.2.1).val) O_l_eqEp
def Q_l_eqEp : Loops := fun _ _ => .fail
theorem e_l_eqEp : ∀ d, pcall ⟨lookT tys, ctrOf C_l_eqEp, kindOf C_l_eqEp, 3, 4⟩ 0 Q_l_eqEp Try.f143 .plain (mkA P_l_eqEp d) = (T_l_eqEp d.1 d.2.1).run fun r => some (O_l_eqEp r) := fun d => by kernel_rfl
theorem fn_l_eqEp : Fn Try.prog 143 .plain F_l_eqEp := fn_of (cfgOk_of mixed tys_ok (show FnsOk Try.prog C_l_eqEp from ⟨fn_l_eqByteS, fn_l_eqWin, trivial⟩)) Try.func143 (by kernel_rfl) (by kernel_rfl) (fun cx b hp hb => all_of (by kernel_rfl : loopsOf (Try.f143.body.getD .skip) = []) trivial b hb) (R := (Bool × Unit)) (T := fun (d : aden P_l_eqEp) => T_l_eqEp d.1 d.2.1) e_l_eqEp
def P_l_eqChan : List (Bool × List Sh) := [(true, [.int .i64, .sl 5 [.int .u8], .int .i64, .sl 5 [.int .u8], .int .i64, .int .i64, .sl 3 [.int .i64], .int .i64, .sl 5 [.int .u8], .int .i64, .int .i64, .sl 3 [.int .i64], .bool, .int .i64, .sl 5 [.int .u8]]), (true, [.int .i64, .sl 5 [.int .u8], .int .i64, .sl 5 [.int .u8], .int .i64, .int .i64, .sl 3 [.int .i64], .int .i64, .sl 5 [.int .u8], .int .i64, .int .i64, .sl 3 [.int .i64], .bool, .int .i64, .sl 5 [.int .u8]])]
def O_l_eqChan (r : (Bool × Unit)) : List RV × List RV := ([rv (false, [.bool]) r], [])
def C_l_eqChan : Fns := [(45, .plain, F_l_eqByteS), (143, .plain, F_l_eqEp)]
def F_l_eqChan : Fun1 := funV P_l_eqChan (fun d => (T_l_eqChan d.1 d.2.1).val) O_l_eqChan
def Q_l_eqChan : Loops := fun _ _ => .fail
theorem e_l_eqChan : ∀ d, pcall ⟨lookT tys, ctrOf C_l_eqChan, kindOf C_l_eqChan, 3, 4⟩ 0 Q_l_eqChan Try.f99 .plain (mkA P_l_eqChan d) = (T_l_eqChan d.1 d.2.1).run fun r => some (O_l_eqChan r) := fun d => by kernel_rfl
theorem fn_l_eqChan : Fn Try.prog 99 .plain F_l_eqChan := fn_of (cfgOk_of mixed tys_ok (show FnsOk Try.prog C_l_eqChan from ⟨fn_l_eqByteS, fn_l_eqEp, trivial⟩)) Try.func99 (by kernel_rfl) (by kernel_rfl) (fun cx b hp hb => all_of (by kernel_rfl : loopsOf (Try.f99.body.getD .skip) = []) trivial b hb) (R := (Bool × Unit)) (T := fun (d : aden P_l_eqChan) => T_l_eqChan d.1 d.2.1) e_l_eqChan
def P_l_eqAddr : List (Bool × List Sh) := [(true, [.int .i64, .int .i64]), (true, [.int .i64, .int .i64])]
def O_l_eqAddr (r : (Bool × Unit)) : List RV × List RV := ([rv (false, [.bool]) r], [])
def C_l_eqAddr : Fns := []
def F_l_eqAddr : Fun1 := funV P_l_eqAddr (fun d => (T_l_eqAddr d.1 d.2.1).val) O_l_eqAddr
def Q_l_eqAddr : Loops := fun _ _ => .fail
theorem e_l_eqAddr : ∀ d, pcall ⟨lookT tys, ctrOf C_l_eqAddr, kindOf C_l_eqAddr, 3, 4⟩ 0 Q_l_eqAddr Try.f75 .plain (mkA P_l_eqAddr d) = (T_l_eqAddr d.1 d.2.1).run fun r => some (O_l_eqAddr r) := fun d => by kernel_rfl
theorem fn_l_eqAddr : Fn Try.prog 75 .plain F_l_eqAddr := fn_of (cfgOk_of mixed tys_ok (show FnsOk Try.prog C_l_eqAddr from trivial)) Try.func75 (by kernel_rfl) (by kernel_rfl) (fun cx b hp hb => all_of (by kernel_rfl : loopsOf (Try.f75.body.getD .skip) = []) trivial b hb) (R := (Bool × Unit)) (T := fun (d : aden P_l_eqAddr) => T_l_eqAddr d.1 d.2.1) e_l_eqAddr
def P_l_eqCand : List (Bool × List Sh) := [(true, [.int .i64, .int .i64, .sl 5 [.int .u8], .int .i64]), (true, [.int .i64, .int .i64, .sl 5 [.int .u8], .int .i64])]
def O_l_eqCand (r : (Bool × Unit)) : List RV × List RV := ([rv (false, [.bool]) r], [])
def C_l_eqCand : Fns := [(75, .plain, F_l_eqAddr), (45, .plain, F_l_eqByteS)]
def F_l_eqCand : Fun1 := funV P_l_eqCand (fun d => (T_l_eqCand d.1 d.2.1).val) O_l_eqCand
def Q_l_eqCand : Loops := fun _ _ => .fail
theorem e_l_eqCand : ∀ d, pcall ⟨lookT tys, ctrOf C_l_eqCand, kindOf C_l_eqCand, 3, 4⟩ 0 Q_l_eqCand Try.f170 .plain (mkA P_l_eqCand d) = (T_l_eqCand d.1 d.2.1).run fun r => some (O_l_eqCand r) := fun d => by kernel_rfl
theorem fn_l_eqCand : Fn Try.prog 170 .plain F_l_eqCand := fn_of (cfgOk_of mixed tys_ok (show FnsOk Try.prog C_l_eqCand from ⟨fn_l_eqAddr, fn_l_eqByteS, trivial⟩)) Try.func170 (by kernel_rfl) (by kernel_rfl) (fun cx b hp hb => all_of (by kernel_rfl : loopsOf (Try.f170.body.getD .skip) = []) trivial b hb) (R := (Bool × Unit)) (T := fun (d : aden P_l_eqCand) => T_l_eqCand d.1 d.2.1) e_l_eqCand
def P_l_eqCandS : List (Bool × List Sh) := [(false, [.sl 175 [.int .i64, .int .i64, .sl 5 [.int .u8], .int .i64]]), (false, [.sl 175 [.int .i64, .int .i64, .sl 5 [.int .u8], .int .i64]])]
def O_l_eqCandS (r : (Bool × Unit)) : List RV × List RV := ([rv (false, [.bool]) r], [])
def C_l_eqCandS : Fns := [(170, .plain, F_l_eqCand)]
def F_l_eqCandS : Fun1 := funV P_l_eqCandS (fun d => (T_l_eqCandS d.1 d.2.1).val) O_l_eqCandS
def K_l_eqCandS_4 : Sk := ⟨[(0, .v false [(.sl 175 [.int .i64, .int .i64, .sl 5 [.int .u8], .int .i64], .ro)]), (1, .v false [(.sl 175 [.int .i64, .int .i64, .sl 5 [.int .u8], .int .i64], .ro)]), (5, .v false [(.int .i64, .nil)])], [], []⟩
def X_l_eqCandS_4 : List (Ex × Sk) := [(.ret, ⟨[(4, .v false [(.bool, .nil)])], [], []⟩), ((.exit 0), ⟨[], [], []⟩)]
def Q_l_eqCandS : Loops := fun i st => cond (Nat.beq i 4) (lam K_l_eqCandS_4 5000000 X_l_eqCandS_4 B_l_eqCandS_4 st) <| .fail
theorem lp_l_eqCandS_4 : ∀ d, bod ⟨lookT tys, ctrOf C_l_eqCandS, kindOf C_l_eqCandS, 3, 4⟩ 0 Try.f144.ntmps Q_l_eqCandS (nthLoop Try.f144 0) K_l_eqCandS_4 5000000 X_l_eqCandS_4 d = B_l_eqCandS_4 d := fun d => by kernel_rfl
theorem lo_l_eqCandS_4 (cx : Cx) (hp : cx.pin.length ≤ 0) : LoopOk Try.prog cx Try.f144.ntmps Q_l_eqCandS (nthLoop Try.f144 0) := loop_of (cfgOk_of mixed tys_ok (show FnsOk Try.prog C_l_eqCandS from ⟨fn_l_eqCand, trivial⟩)) hp (all_of (by kernel_rfl : loopsOf (nthLoop Try.f144 0) = []) trivial) (by kernel_rfl) lp_l_eqCandS_4
theorem e_l_eqCandS : ∀ d, pcall ⟨lookT tys, ctrOf C_l_eqCandS, kindOf C_l_eqCandS, 3, 4⟩ 0 Q_l_eqCandS Try.f144 .plain (mkA P_l_eqCandS d) = (T_l_eqCandS d.1 d.2.1).run fun r => some (O_l_eqCandS r) := fun d => by kernel_rfl
theorem fn_l_eqCandS : Fn Try.prog 144 .plain F_l_eqCandS := fn_of (cfgOk_of mixed tys_ok (show FnsOk Try.prog C_l_eqCandS from ⟨fn_l_eqCand, trivial⟩)) Try.func144 (by kernel_rfl) (by kernel_rfl) (fun cx b hp hb => all_of (by kernel_rfl : loopsOf (Try.f144.body.getD .skip) = [nthLoop Try.f144 0]) ⟨lo_l_eqCandS_4 cx hp, trivial⟩ b hb) (R := (Bool × Unit)) (T := fun (d : aden P_l_eqCandS) => T_l_eqCandS d.1 d.2.1) e_l_eqCandS
def P_l_eqPaths : List (Bool × List Sh) := [(true, [.int .i64, .int .i64, .sl 175 [.int .i64, .int .i64, .sl 5 [.int .u8], .int .i64]]), (true, [.int .i64, .int .i64, .sl 175 [.int .i64, .int .i64, .sl 5 [.int .u8], .int .i64]])]
def O_l_eqPaths (r : (Bool × Unit)) : List RV × List RV := ([rv (false, [.bool]) r], [])
def C_l_eqPaths : Fns := [(75, .plain, F_l_eqAddr), (144, .plain, F_l_eqCandS)]
def F_l_eqPaths : Fun1 := funV P_l_eqPaths (fun d => (T_l_eqPaths d.1 d.2.1).val) O_l_eqPaths
def Q_l_eqPaths : Loops := fun _ _ => .fail
theorem e_l_eqPaths : ∀ d, pcall ⟨lookT tys, ctrOf C_l_eqPaths, kindOf C_l_eqPaths, 3, 4⟩ 0 Q_l_eqPaths Try.f100 .plain (mkA P_l_eqPaths d) = (T_l_eqPaths d.1 d.2.1).run fun r => some (O_l_eqPaths r) := fun d => by kernel_rfl
theorem fn_l_eqPaths : Fn Try.prog 100 .plain F_l_eqPaths := fn_of (cfgOk_of mixed tys_ok (show FnsOk Try.prog C_l_eqPaths from ⟨fn_l_eqAddr, fn_l_eqCandS, trivial⟩)) Try.func100 (by kernel_rfl) (by kernel_rfl) (fun cx b hp hb => all_of (by kernel_rfl : loopsOf (Try.f100.body.getD .skip) = []) trivial b hb) (R := (Bool × Unit)) (T := fun (d : aden P_l_eqPaths) => T_l_eqPaths d.1 d.2.1) e_l_eqPaths
def P_l_eqSess : List (Bool × List Sh) := [(true, [.int .i64, .sl 5 [.int .u8], .sl 5 [.int .u8], .int .i64, .sl 5 [.int .u8], .int .i64, .sl 5 [.int .u8], .int .i64, .int .i64, .sl 3 [.int .i64], .int .i64, .sl 5 [.int .u8], .int .i64, .int .i64, .sl 3 [.int .i64], .bool, .int .i64, .sl 5 [.int .u8], .int .i64, .int .i64, .sl 175 [.int .i64, .int .i64, .sl 5 [.int .u8], .int .i64], .int .i64, .int .i64, .bool]), (true, [.int .i64, .sl 5 [.int .u8], .sl 5 [.int .u8], .int .i64, .sl 5 [.int .u8], .int .i64, .sl 5 [.int .u8], .int .i64, .int .i64, .sl 3 [.int .i64], .int .i64, .sl 5 [.int .u8], .int .i64, .int .i64, .sl 3 [.int .i64], .bool, .int .i64, .sl 5 [.int .u8], .int .i64, .int .i64, .sl 175 [.int .i64, .int .i64, .sl 5 [.int .u8], .int .i64], .int .i64, .int .i64, .bool])]
def O_l_eqSess (r : (Bool × Unit)) : List RV × List RV := ([rv (false, [.bool]) r], [])
def C_l_eqSess : Fns := [(45, .plain, F_l_eqByteS), (99, .plain, F_l_eqChan), (100, .plain, F_l_eqPaths)]
def F_l_eqSess : Fun1 := funV P_l_eqSess (fun d => (T_l_eqSess d.1 d.2.1).val) O_l_eqSess
def Q_l_eqSess : Loops := fun _ _ => .fail
theorem e_l_eqSess : ∀ d, pcall ⟨lookT tys, ctrOf C_l_eqSess, kindOf C_l_eqSess, 3, 4⟩ 0 Q_l_eqSess Try.f54 .plain (mkA P_l_eqSess d) = (T_l_eqSess d.1 d.2.1).run fun r => some (O_l_eqSess r) := fun d => by kernel_rfl
theorem fn_l_eqSess : Fn Try.prog 54 .plain F_l_eqSess := fn_of (cfgOk_of mixed tys_ok (show FnsOk Try.prog C_l_eqSess from ⟨fn_l_eqByteS, fn_l_eqChan, fn_l_eqPaths, trivial⟩)) Try.func54 (by kernel_rfl) (by kernel_rfl) (fun cx b hp hb => all_of (by kernel_rfl : loopsOf (Try.f54.body.getD .skip) = []) trivial b hb) (R := (Bool × Unit)) (T := fun (d : aden P_l_eqSess) => T_l_eqSess d.1 d.2.1) e_l_eqSess
def P_l_eqSessS : List (Bool × List Sh) := [(false, [.sl 97 [.int .i64, .sl 5 [.int .u8], .sl 5 [.int .u8], .int .i64, .sl 5 [.int .u8], .int .i64, .sl 5 [.int .u8], .int .i64, .int .i64, .sl 3 [.int .i64], .int .i64, .sl 5 [.int .u8], .int .i64, .int .i64, .sl 3 [.int .i64], .bool, .int .i64, .sl 5 [.int .u8], .int .i64, .int .i64, .sl 175 [.int .i64, .int .i64, .sl 5 [.int .u8], .int .i64], .int .i64, .int .i64, .bool]]), (false, [.sl 97 [.int .i64, .sl 5 [.int .u8], .sl 5 [.int .u8], .int .i64, .sl 5 [.int .u8], .int .i64, .sl 5 [.int .u8], .int .i64, .int .i64, .sl 3 [.int .i64], .int .i64, .sl 5 [.int .u8], .int .i64, .int .i64, .sl 3 [.int .i64], .bool, .int .i64, .sl 5 [.int .u8], .int .i64, .int .i64, .sl 175 [.int .i64, .int .i64, .sl 5 [.int .u8], .int .i64], .int .i64, .int .i64, .bool]])]
def O_l_eqSessS (r : (Bool × Unit)) : List RV × List RV := ([rv (false, [.bool]) r], [])
def C_l_eqSessS : Fns := [(54, .plain, F_l_eqSess)]
def F_l_eqSessS : Fun1 := funV P_l_eqSessS (fun d => (T_l_eqSessS d.1 d.2.1).val) O_l_eqSessS
def K_l_eqSessS_4 : Sk := ⟨[(0, .v false [(.sl 97 [.int .i64, .sl 5 [.int .u8], .sl 5 [.int .u8], .int .i64, .sl 5 [.int .u8], .int .i64, .sl 5 [.int .u8], .int .i64, .int .i64, .sl 3 [.int .i64], .int .i64, .sl 5 [.int .u8], .int .i64, .int .i64, .sl 3 [.int .i64], .bool, .int .i64, .sl 5 [.int .u8], .int .i64, .int .i64, .sl 175 [.int .i64, .int .i64, .sl 5 [.int .u8], .int .i64], .int .i64, .int .i64, .bool], .ro)]), (1, .v false [(.sl 97 [.int .i64, .sl 5 [.int .u8], .sl 5 [.int .u8], .int .i64, .sl 5 [.int .u8], .int .i64, .sl 5 [.int .u8], .int .i64, .int .i64, .sl 3 [.int .i64], .int .i64, .sl 5 [.int .u8], .int .i64, .int .i64, .sl 3 [.int .i64], .bool, .int .i64, .sl 5 [.int .u8], .int .i64, .int .i64, .sl 175 [.int .i64, .int .i64, .sl 5 [.int .u8], .int .i64], .int .i64, .int .i64, .bool], .ro)]), (5, .v false [(.int .i64, .nil)])], [], []⟩
def X_l_eqSessS_4 : List (Ex × Sk) := [(.ret, ⟨[(4, .v false [(.bool, .nil)])], [], []⟩), ((.exit 0), ⟨[], [], []⟩)]
def Q_l_eqSessS : Loops := fun i st => cond (Nat.beq i 4) (lam K_l_eqSessS_4 5000000 X_l_eqSessS_4 B_l_eqSessS_4 st) <| .fail
theorem lp_l_eqSessS_4 : ∀ d, bod ⟨lookT tys, ctrOf C_l_eqSessS, kindOf C_l_eqSessS, 3, 4⟩ 0 Try.f80.ntmps Q_l_eqSessS (nthLoop Try.f80 0) K_l_eqSessS_4 5000000 X_l_eqSessS_4 d = B_l_eqSessS_4 d := fun d => by kernel_rfl
theorem lo_l_eqSessS_4 (cx : Cx) (hp : cx.pin.length ≤ 0) : LoopOk Try.prog cx Try.f80.ntmps Q_l_eqSessS (nthLoop Try.f80 0) := loop_of (cfgOk_of mixed tys_ok (show FnsOk Try.prog C_l_eqSessS from ⟨fn_l_eqSess, trivial⟩)) hp (all_of (by kernel_rfl : loopsOf (nthLoop Try.f80 0) = []) trivial) (by kernel_rfl) lp_l_eqSessS_4
theorem e_l_eqSessS : ∀ d, pcall ⟨lookT tys, ctrOf C_l_eqSessS, kindOf C_l_eqSessS, 3, 4⟩ 0 Q_l_eqSessS Try.f80 .plain (mkA P_l_eqSessS d) = (T_l_eqSessS d.1 d.2.1).run fun r => some (O_l_eqSessS r) := fun d => by kernel_rfl
theorem fn_l_eqSessS : Fn Try.prog 80 .plain F_l_eqSessS := fn_of (cfgOk_of mixed tys_ok (show FnsOk Try.prog C_l_eqSessS from ⟨fn_l_eqSess, trivial⟩)) Try.func80 (by kernel_rfl) (by kernel_rfl) (fun cx b hp hb => all_of (by kernel_rfl : loopsOf (Try.f80.body.getD .skip) = [nthLoop Try.f80 0]) ⟨lo_l_eqSessS_4 cx hp, trivial⟩ b hb) (R := (Bool × Unit)) (T := fun (d : aden P_l_eqSessS) => T_l_eqSessS d.1 d.2.1) e_l_eqSessS
def P_l_eqTab : List (Bool × List Sh) := [(true, [.int .i64, .sl 97 [.int .i64, .sl 5 [.int .u8], .sl 5 [.int .u8], .int .i64, .sl 5 [.int .u8], .int .i64, .sl 5 [.int .u8], .int .i64, .int .i64, .sl 3 [.int .i64], .int .i64, .sl 5 [.int .u8], .int .i64, .int .i64, .sl 3 [.int .i64], .bool, .int .i64, .sl 5 [.int .u8], .int .i64, .int .i64, .sl 175 [.int .i64, .int .i64, .sl 5 [.int .u8], .int .i64], .int .i64, .int .i64, .bool]]), (true, [.int .i64, .sl 97 [.int .i64, .sl 5 [.int .u8], .sl 5 [.int .u8], .int .i64, .sl 5 [.int .u8], .int .i64, .sl 5 [.int .u8], .int .i64, .int .i64, .sl 3 [.int .i64], .int .i64, .sl 5 [.int .u8], .int .i64, .int .i64, .sl 3 [.int .i64], .bool, .int .i64, .sl 5 [.int .u8], .int .i64, .int .i64, .sl 175 [.int .i64, .int .i64, .sl 5 [.int .u8], .int .i64], .int .i64, .int .i64, .bool]])]
def O_l_eqTab (r : (Bool × Unit)) : List RV × List RV := ([rv (false, [.bool]) r], [])
def C_l_eqTab : Fns := [(80, .plain, F_l_eqSessS)]
def F_l_eqTab : Fun1 := funV P_l_eqTab (fun d => (T_l_eqTab d.1 d.2.1).val) O_l_eqTab
def Q_l_eqTab : Loops := fun _ _ => .fail
theorem e_l_eqTab : ∀ d, pcall ⟨lookT tys, ctrOf C_l_eqTab, kindOf C_l_eqTab, 3, 4⟩ 0 Q_l_eqTab Try.f39 .plain (mkA P_l_eqTab d) = (T_l_eqTab d.1 d.2.1).run fun r => some (O_l_eqTab r) := fun d => by kernel_rfl
theorem fn_l_eqTab : Fn Try.prog 39 .plain F_l_eqTab := fn_of (cfgOk_of mixed tys_ok (show FnsOk Try.prog C_l_eqTab from ⟨fn_l_eqSessS, trivial⟩)) Try.func39 (by kernel_rfl) (by kernel_rfl) (fun cx b hp hb => all_of (by kernel_rfl : loopsOf (Try.f39.body.getD .skip) = []) trivial b hb) (R := (Bool × Unit)) (T := fun (d : aden P_l_eqTab) => T_l_eqTab d.1 d.2.1) e_l_eqTab
def P_l_FnExactAtOf : List (Bool × List Sh) := [(true, [.int .i64, .sl 85 [.int .i64, .sl 5 [.int .u8], .sl 5 [.int .u8], .int .i64, .sl 5 [.int .u8], .int .i64, .sl 5 [.int .u8], .int .i64, .int .i64, .sl 3 [.int .i64], .int .i64, .sl 5 [.int .u8], .int .i64, .int .i64, .sl 3 [.int .i64], .bool, .int .i64, .sl 5 [.int .u8], .int .i64, .int .i64, .sl 194 [.int .i64, .int .i64, .sl 5 [.int .u8], .int .i64], .int .i64, .int .i64, .bool]]), (true, [.int .i64, .int .i64])]
def O_l_FnExactAtOf (r : (Bool × Unit)) : List RV × List RV := ([rv (false, [.bool]) r], [])
def C_l_FnExactAtOf : Fns := [(35, .plain, F_l_szTab), (37, .plain, F_l_toTab), (17, .plain, F_l_toAddr), (36, .plain, F_s_AtOf), (38, .plain, F_i_AtOf), (39, .plain, F_l_eqTab)]
def F_l_FnExactAtOf : Fun1 := funV P_l_FnExactAtOf (fun d => (T_l_FnExactAtOf d.1 d.2.1).val) O_l_FnExactAtOf
def Q_l_FnExactAtOf : Loops := fun _ _ => .fail
theorem e_l_FnExactAtOf : ∀ d, pcall ⟨lookT tys, ctrOf C_l_FnExactAtOf, kindOf C_l_FnExactAtOf, 3, 4⟩ 0 Q_l_FnExactAtOf Try.f6 .plain (mkA P_l_FnExactAtOf d) = (T_l_FnExactAtOf d.1 d.2.1).run fun r => some (O_l_FnExactAtOf r) := fun d => by kernel_rfl
theorem fn_l_FnExactAtOf : Fn Try.prog 6 .plain F_l_FnExactAtOf := fn_of (cfgOk_of mixed tys_ok (show FnsOk Try.prog C_l_FnExactAtOf from ⟨fn_l_szTab, fn_l_toTab, fn_l_toAddr, fn_s_AtOf, fn_i_AtOf, fn_l_eqTab, trivial⟩)) Try.func6 (by kernel_rfl) (by kernel_rfl) (fun cx b hp hb => all_of (by kernel_rfl : loopsOf (Try.f6.body.getD .skip) = []) trivial b hb) (R := (Bool × Unit)) (T := fun (d : aden P_l_FnExactAtOf) => T_l_FnExactAtOf d.1 d.2.1) e_l_FnExactAtOf
def P_s_Live : List (Bool × List Sh) := [(true, [.int .i64, .sl 97 [.int .i64, .sl 5 [.int .u8], .sl 5 [.int .u8], .int .i64, .sl 5 [.int .u8], .int .i64, .sl 5 [.int .u8], .int .i64, .int .i64, .sl 3 [.int .i64], .int .i64, .sl 5 [.int .u8], .int .i64, .int .i64, .sl 3 [.int .i64], .bool, .int .i64, .sl 5 [.int .u8], .int .i64, .int .i64, .sl 175 [.int .i64, .int .i64, .sl 5 [.int .u8], .int .i64], .int .i64, .int .i64, .bool]])]
def O_s_Live (r : (YI)) : List RV × List RV := ([rv (false, [.int .i64]) r], [])
def C_s_Live : Fns := []
def F_s_Live : Fun1 := funV P_s_Live (fun d => (T_s_Live d.1).val) O_s_Live
def K_s_Live_3 : Sk := ⟨[(1, .box 1 0), (3, .v false [(.int .i64, .nil)]), (4, .v false [(.int .i64, .nil)])], [(1, [(.int .i64, .nil), (.sl 97 [.int .i64, .sl 5 [.int .u8], .sl 5 [.int .u8], .int .i64, .sl 5 [.int .u8], .int .i64, .sl 5 [.int .u8], .int .i64, .int .i64, .sl 3 [.int .i64], .int .i64, .sl 5 [.int .u8], .int .i64, .int .i64, .sl 3 [.int .i64], .bool, .int .i64, .sl 5 [.int .u8], .int .i64, .int .i64, .sl 175 [.int .i64, .int .i64, .sl 5 [.int .u8], .int .i64], .int .i64, .int .i64, .bool], .ro)])], []⟩
def X_s_Live_3 : List (Ex × Sk) := [((.exit 0), ⟨[(3, .v false [(.int .i64, .nil)])], [], []⟩)]
def Q_s_Live : Loops := fun i st => cond (Nat.beq i 3) (lam K_s_Live_3 4000000 X_s_Live_3 B_s_Live_3 st) <| .fail
theorem lp_s_Live_3 : ∀ d, bod ⟨lookT tys, ctrOf C_s_Live, kindOf C_s_Live, 3, 4⟩ 0 Try.f40.ntmps Q_s_Live (nthLoop Try.f40 0) K_s_Live_3 4000000 X_s_Live_3 d = B_s_Live_3 d := fun d => by kernel_rfl
theorem lo_s_Live_3 (cx : Cx) (hp : cx.pin.length ≤ 0) : LoopOk Try.prog cx Try.f40.ntmps Q_s_Live (nthLoop Try.f40 0) := loop_of (cfgOk_of mixed tys_ok (show FnsOk Try.prog C_s_Live from trivial)) hp (all_of (by kernel_rfl : loopsOf (nthLoop Try.f40 0) = []) trivial) (by kernel_rfl) lp_s_Live_3
theorem e_s_Live : ∀ d, pcall ⟨lookT tys, ctrOf C_s_Live, kindOf C_s_Live, 3, 4⟩ 0 Q_s_Live Try.f40 .plain (mkA P_s_Live d) = (T_s_Live d.1).run fun r => some (O_s_Live r) := fun d => by kernel_rfl
theorem fn_s_Live : Fn Try.prog 40 .plain F_s_Live := fn_of (cfgOk_of mixed tys_ok (show FnsOk Try.prog C_s_Live from trivial)) Try.func40 (by kernel_rfl) (by kernel_rfl) (fun cx b hp hb => all_of (by kernel_rfl : loopsOf (Try.f40.body.getD .skip) = [nthLoop Try.f40 0]) ⟨lo_s_Live_3 cx hp, trivial⟩ b hb) (R := (YI)) (T := fun (d : aden P_s_Live) => T_s_Live d.1) e_s_Live
def P_i_Live : List (Bool × List Sh) := [(true, [.int .i64, .sl 97 [.int .i64, .sl 5 [.int .u8], .sl 5 [.int .u8], .int .i64, .sl 5 [.int .u8], .int .i64, .sl 5 [.int .u8], .int .i64, .int .i64, .sl 3 [.int .i64], .int .i64, .sl 5 [.int .u8], .int .i64, .int .i64, .sl 3 [.int .i64], .bool, .int .i64, .sl 5 [.int .u8], .int .i64, .int .i64, .sl 175 [.int .i64, .int .i64, .sl 5 [.int .u8], .int .i64], .int .i64, .int .i64, .bool]])]
def O_i_Live (r : (YI)) : List RV × List RV := ([rv (false, [.int .i64]) r], [])
def C_i_Live : Fns := []
def F_i_Live : Fun1 := funV P_i_Live (fun d => (T_i_Live d.1).val) O_i_Live
def K_i_Live_3 : Sk := ⟨[(3, .v false [(.int .i64, .nil)]), (7, .v false [(.sl 97 [.int .i64, .sl 5 [.int .u8], .sl 5 [.int .u8], .int .i64, .sl 5 [.int .u8], .int .i64, .sl 5 [.int .u8], .int .i64, .int .i64, .sl 3 [.int .i64], .int .i64, .sl 5 [.int .u8], .int .i64, .int .i64, .sl 3 [.int .i64], .bool, .int .i64, .sl 5 [.int .u8], .int .i64, .int .i64, .sl 175 [.int .i64, .int .i64, .sl 5 [.int .u8], .int .i64], .int .i64, .int .i64, .bool], .ro)]), (8, .v false [(.int .i64, .nil)]), (9, .v false [(.int .i64, .nil)])], [], []⟩
def X_i_Live_3 : List (Ex × Sk) := [((.exit 0), ⟨[(3, .v false [(.int .i64, .nil)])], [], []⟩)]
def Q_i_Live : Loops := fun i st => cond (Nat.beq i 3) (lam K_i_Live_3 4000000 X_i_Live_3 B_i_Live_3 st) <| .fail
theorem lp_i_Live_3 : ∀ d, bod ⟨lookT tys, ctrOf C_i_Live, kindOf C_i_Live, 3, 4⟩ 0 Try.f41.ntmps Q_i_Live (nthLoop Try.f41 0) K_i_Live_3 4000000 X_i_Live_3 d = B_i_Live_3 d := fun d => by kernel_rfl
theorem lo_i_Live_3 (cx : Cx) (hp : cx.pin.length ≤ 0) : LoopOk Try.prog cx Try.f41.ntmps Q_i_Live (nthLoop Try.f41 0) := loop_of (cfgOk_of mixed tys_ok (show FnsOk Try.prog C_i_Live from trivial)) hp (all_of (by kernel_rfl : loopsOf (nthLoop Try.f41 0) = []) trivial) (by kernel_rfl) lp_i_Live_3
theorem e_i_Live : ∀ d, pcall ⟨lookT tys, ctrOf C_i_Live, kindOf C_i_Live, 3, 4⟩ 0 Q_i_Live Try.f41 .plain (mkA P_i_Live d) = (T_i_Live d.1).run fun r => some (O_i_Live r) := fun d => by kernel_rfl
theorem fn_i_Live : Fn Try.prog 41 .plain F_i_Live := fn_of (cfgOk_of mixed tys_ok (show FnsOk Try.prog C_i_Live from trivial)) Try.func41 (by kernel_rfl) (by kernel_rfl) (fun cx b hp hb => all_of (by kernel_rfl : loopsOf (Try.f41.body.getD .skip) = [nthLoop Try.f41 0]) ⟨lo_i_Live_3 cx hp, trivial⟩ b hb) (R := (YI)) (T := fun (d : aden P_i_Live) => T_i_Live d.1) e_i_Live
def P_l_FnExactLive : List (Bool × List Sh) := [(true, [.int .i64, .sl 85 [.int .i64, .sl 5 [.int .u8], .sl 5 [.int .u8], .int .i64, .sl 5 [.int .u8], .int .i64, .sl 5 [.int .u8], .int .i64, .int .i64, .sl 3 [.int .i64], .int .i64, .sl 5 [.int .u8], .int .i64, .int .i64, .sl 3 [.int .i64], .bool, .int .i64, .sl 5 [.int .u8], .int .i64, .int .i64, .sl 194 [.int .i64, .int .i64, .sl 5 [.int .u8], .int .i64], .int .i64, .int .i64, .bool]])]
def O_l_FnExactLive (r : (Bool × Unit)) : List RV × List RV := ([rv (false, [.bool]) r], [])
def C_l_FnExactLive : Fns := [(35, .plain, F_l_szTab), (37, .plain, F_l_toTab), (40, .plain, F_s_Live), (41, .plain, F_i_Live), (39, .plain, F_l_eqTab)]
def F_l_FnExactLive : Fun1 := funV P_l_FnExactLive (fun d => (T_l_FnExactLive d.1).val) O_l_FnExactLive
def Q_l_FnExactLive : Loops := fun _ _ => .fail
theorem e_l_FnExactLive : ∀ d, pcall ⟨lookT tys, ctrOf C_l_FnExactLive, kindOf C_l_FnExactLive, 3, 4⟩ 0 Q_l_FnExactLive Try.f7 .plain (mkA P_l_FnExactLive d) = (T_l_FnExactLive d.1).run fun r => some (O_l_FnExactLive r) := fun d => by kernel_rfl
theorem fn_l_FnExactLive : Fn Try.prog 7 .plain F_l_FnExactLive := fn_of (cfgOk_of mixed tys_ok (show FnsOk Try.prog C_l_FnExactLive from ⟨fn_l_szTab, fn_l_toTab, fn_s_Live, fn_i_Live, fn_l_eqTab, trivial⟩)) Try.func7 (by kernel_rfl) (by kernel_rfl) (fun cx b hp hb => all_of (by kernel_rfl : loopsOf (Try.f7.body.getD .skip) = []) trivial b hb) (R := (Bool × Unit)) (T := fun (d : aden P_l_FnExactLive) => T_l_FnExactLive d.1) e_l_FnExactLive
def P_s_l1Same : List (Bool × List Sh) := [(false, [.sl 5 [.int .u8]]), (false, [.sl 5 [.int .u8]])]
def O_s_l1Same (r : (Bool × Unit)) : List RV × List RV := ([rv (false, [.bool]) r], [])
def C_s_l1Same : Fns := []
def F_s_l1Same : Fun1 := funV P_s_l1Same (fun d => (T_s_l1Same d.1 d.2.1).val) O_s_l1Same
def Q_s_l1Same : Loops := fun _ _ => .fail
theorem e_s_l1Same : ∀ d, pcall ⟨lookT tys, ctrOf C_s_l1Same, kindOf C_s_l1Same, 3, 4⟩ 0 Q_s_l1Same Try.f81 .plain (mkA P_s_l1Same d) = (T_s_l1Same d.1 d.2.1).run fun r => some (O_s_l1Same r) := fun d => by kernel_rfl
theorem fn_s_l1Same : Fn Try.prog 81 .plain F_s_l1Same := fn_of (cfgOk_of mixed tys_ok (show FnsOk Try.prog C_s_l1Same from trivial)) Try.func81 (by kernel_rfl) (by kernel_rfl) (fun cx b hp hb => all_of (by kernel_rfl : loopsOf (Try.f81.body.getD .skip) = []) trivial b hb) (R := (Bool × Unit)) (T := fun (d : aden P_s_l1Same) => T_s_l1Same d.1 d.2.1) e_s_l1Same
def P_s_FindSn : List (Bool × List Sh) := [(true, [.int .i64, .sl 97 [.int .i64, .sl 5 [.int .u8], .sl 5 [.int .u8], .int .i64, .sl 5 [.int .u8], .int .i64, .sl 5 [.int .u8], .int .i64, .int .i64, .sl 3 [.int .i64], .int .i64, .sl 5 [.int .u8], .int .i64, .int .i64, .sl 3 [.int .i64], .bool, .int .i64, .sl 5 [.int .u8], .int .i64, .int .i64, .sl 175 [.int .i64, .int .i64, .sl 5 [.int .u8], .int .i64], .int .i64, .int .i64, .bool]]), (false, [.sl 5 [.int .u8]])]
def O_s_FindSn (r : (YI)) : List RV × List RV := ([rv (false, [.int .i64]) r], [])
def C_s_FindSn : Fns := [(81, .plain, F_s_l1Same)]
def F_s_FindSn : Fun1 := funV P_s_FindSn (fun d => (T_s_FindSn d.1 d.2.1).val) O_s_FindSn
def K_s_FindSn_2 : Sk := ⟨[(1, .v false [(.sl 5 [.int .u8], .ro)]), (2, .box 2 0), (5, .v false [(.int .i64, .nil)])], [(2, [(.int .i64, .nil), (.sl 97 [.int .i64, .sl 5 [.int .u8], .sl 5 [.int .u8], .int .i64, .sl 5 [.int .u8], .int .i64, .sl 5 [.int .u8], .int .i64, .int .i64, .sl 3 [.int .i64], .int .i64, .sl 5 [.int .u8], .int .i64, .int .i64, .sl 3 [.int .i64], .bool, .int .i64, .sl 5 [.int .u8], .int .i64, .int .i64, .sl 175 [.int .i64, .int .i64, .sl 5 [.int .u8], .int .i64], .int .i64, .int .i64, .bool], .ro)])], []⟩
def X_s_FindSn_2 : List (Ex × Sk) := [(.ret, ⟨[(4, .v false [(.int .i64, .nil)])], [], []⟩), ((.exit 0), ⟨[], [], []⟩)]
def Q_s_FindSn : Loops := fun i st => cond (Nat.beq i 2) (lam K_s_FindSn_2 3000000 X_s_FindSn_2 B_s_FindSn_2 st) <| .fail
theorem lp_s_FindSn_2 : ∀ d, bod ⟨lookT tys, ctrOf C_s_FindSn, kindOf C_s_FindSn, 3, 4⟩ 0 Try.f42.ntmps Q_s_FindSn (nthLoop Try.f42 0) K_s_FindSn_2 3000000 X_s_FindSn_2 d = B_s_FindSn_2 d := fun d => by kernel_rfl
theorem lo_s_FindSn_2 (cx : Cx) (hp : cx.pin.length ≤ 0) : LoopOk Try.prog cx Try.f42.ntmps Q_s_FindSn (nthLoop Try.f42 0) := loop_of (cfgOk_of mixed tys_ok (show FnsOk Try.prog C_s_FindSn from ⟨fn_s_l1Same, trivial⟩)) hp (all_of (by kernel_rfl : loopsOf (nthLoop Try.f42 0) = []) trivial) (by kernel_rfl) lp_s_FindSn_2
theorem e_s_FindSn : ∀ d, pcall ⟨lookT tys, ctrOf C_s_FindSn, kindOf C_s_FindSn, 3, 4⟩ 0 Q_s_FindSn Try.f42 .plain (mkA P_s_FindSn d) = (T_s_FindSn d.1 d.2.1).run fun r => some (O_s_FindSn r) := fun d => by kernel_rfl
theorem fn_s_FindSn : Fn Try.prog 42 .plain F_s_FindSn := fn_of (cfgOk_of mixed tys_ok (show FnsOk Try.prog C_s_FindSn from ⟨fn_s_l1Same, trivial⟩)) Try.func42 (by kernel_rfl) (by kernel_rfl) (fun cx b hp hb => all_of (by kernel_rfl : loopsOf (Try.f42.body.getD .skip) = [nthLoop Try.f42 0]) ⟨lo_s_FindSn_2 cx hp, trivial⟩ b hb) (R := (YI)) (T := fun (d : aden P_s_FindSn) => T_s_FindSn d.1 d.2.1) e_s_FindSn
def P_bytes_Equal : List (Bool × List Sh) := [(false, [.sl 5 [.int .u8]]), (false, [.sl 5 [.int .u8]])]
def O_bytes_Equal (r : (Bool × Unit)) : List RV × List RV := ([rv (false, [.bool]) r], [])
def C_bytes_Equal : Fns := []
def F_bytes_Equal : Fun1 := funV P_bytes_Equal (fun d => (T_bytes_Equal d.1 d.2.1).val) O_bytes_Equal
def Q_bytes_Equal : Loops := fun _ _ => .fail
theorem e_bytes_Equal : ∀ d, pcall ⟨lookT tys, ctrOf C_bytes_Equal, kindOf C_bytes_Equal, 3, 4⟩ 0 Q_bytes_Equal Try.f82 .plain (mkA P_bytes_Equal d) = (T_bytes_Equal d.1 d.2.1).run fun r => some (O_bytes_Equal r) := fun d => by kernel_rfl
theorem fn_bytes_Equal : Fn Try.prog 82 .plain F_bytes_Equal := fn_of (cfgOk_of mixed tys_ok (show FnsOk Try.prog C_bytes_Equal from trivial)) Try.func82 (by kernel_rfl) (by kernel_rfl) (fun cx b hp hb => all_of (by kernel_rfl : loopsOf (Try.f82.body.getD .skip) = []) trivial b hb) (R := (Bool × Unit)) (T := fun (d : aden P_bytes_Equal) => T_bytes_Equal d.1 d.2.1) e_bytes_Equal
def P_i_FindSn : List (Bool × List Sh) := [(true, [.int .i64, .sl 97 [.int .i64, .sl 5 [.int .u8], .sl 5 [.int .u8], .int .i64, .sl 5 [.int .u8], .int .i64, .sl 5 [.int .u8], .int .i64, .int .i64, .sl 3 [.int .i64], .int .i64, .sl 5 [.int .u8], .int .i64, .int .i64, .sl 3 [.int .i64], .bool, .int .i64, .sl 5 [.int .u8], .int .i64, .int .i64, .sl 175 [.int .i64, .int .i64, .sl 5 [.int .u8], .int .i64], .int .i64, .int .i64, .bool]]), (false, [.sl 5 [.int .u8]])]
def O_i_FindSn (r : (YI)) : List RV × List RV := ([rv (false, [.int .i64]) r], [])
def C_i_FindSn : Fns := [(82, .plain, F_bytes_Equal)]
def F_i_FindSn : Fun1 := funV P_i_FindSn (fun d => (T_i_FindSn d.1 d.2.1).val) O_i_FindSn
def K_i_FindSn_2 : Sk := ⟨[(1, .v false [(.sl 5 [.int .u8], .ro)]), (8, .v false [(.sl 97 [.int .i64, .sl 5 [.int .u8], .sl 5 [.int .u8], .int .i64, .sl 5 [.int .u8], .int .i64, .sl 5 [.int .u8], .int .i64, .int .i64, .sl 3 [.int .i64], .int .i64, .sl 5 [.int .u8], .int .i64, .int .i64, .sl 3 [.int .i64], .bool, .int .i64, .sl 5 [.int .u8], .int .i64, .int .i64, .sl 175 [.int .i64, .int .i64, .sl 5 [.int .u8], .int .i64], .int .i64, .int .i64, .bool], .ro)]), (9, .v false [(.int .i64, .nil)]), (10, .v false [(.int .i64, .nil)])], [], []⟩
def X_i_FindSn_2 : List (Ex × Sk) := [(.ret, ⟨[(4, .v false [(.int .i64, .nil)])], [], []⟩), ((.exit 0), ⟨[], [], []⟩)]
def Q_i_FindSn : Loops := fun i st => cond (Nat.beq i 2) (lam K_i_FindSn_2 3000000 X_i_FindSn_2 B_i_FindSn_2 st) <| .fail
theorem lp_i_FindSn_2 : ∀ d, bod ⟨lookT tys, ctrOf C_i_FindSn, kindOf C_i_FindSn, 3, 4⟩ 0 Try.f44.ntmps Q_i_FindSn (nthLoop Try.f44 0) K_i_FindSn_2 3000000 X_i_FindSn_2 d = B_i_FindSn_2 d := fun d => by kernel_rfl
theorem lo_i_FindSn_2 (cx : Cx) (hp : cx.pin.length ≤ 0) : LoopOk Try.prog cx Try.f44.ntmps Q_i_FindSn (nthLoop Try.f44 0) := loop_of (cfgOk_of mixed tys_ok (show FnsOk Try.prog C_i_FindSn from ⟨fn_bytes_Equal, trivial⟩)) hp (all_of (by kernel_rfl : loopsOf (nthLoop Try.f44 0) = []) trivial) (by kernel_rfl) lp_i_FindSn_2
theorem e_i_FindSn : ∀ d, pcall ⟨lookT tys, ctrOf C_i_FindSn, kindOf C_i_FindSn, 3, 4⟩ 0 Q_i_FindSn Try.f44 .plain (mkA P_i_FindSn d) = (T_i_FindSn d.1 d.2.1).run fun r => some (O_i_FindSn r) := fun d => by kernel_rfl
theorem fn_i_FindSn : Fn Try.prog 44 .plain F_i_FindSn := fn_of (cfgOk_of mixed tys_ok (show FnsOk Try.prog C_i_FindSn from ⟨fn_bytes_Equal, trivial⟩)) Try.func44 (by kernel_rfl) (by kernel_rfl) (fun cx b hp hb => all_of (by kernel_rfl : loopsOf (Try.f44.body.getD .skip) = [nthLoop Try.f44 0]) ⟨lo_i_FindSn_2 cx hp, trivial⟩ b hb) (R := (YI)) (T := fun (d : aden P_i_FindSn) => T_i_FindSn d.1 d.2.1) e_i_FindSn
def P_l_FnExactFindSn : List (Bool × List Sh) := [(true, [.int .i64, .sl 85 [.int .i64, .sl 5 [.int .u8], .sl 5 [.int .u8], .int .i64, .sl 5 [.int .u8], .int .i64, .sl 5 [.int .u8], .int .i64, .int .i64, .sl 3 [.int .i64], .int .i64, .sl 5 [.int .u8], .int .i64, .int .i64, .sl 3 [.int .i64], .bool, .int .i64, .sl 5 [.int .u8], .int .i64, .int .i64, .sl 194 [.int .i64, .int .i64, .sl 5 [.int .u8], .int .i64], .int .i64, .int .i64, .bool]]), (false, [.sl 5 [.int .u8]])]
def O_l_FnExactFindSn (r : (Bool × Unit)) : List RV × List RV := ([rv (false, [.bool]) r], [])
def C_l_FnExactFindSn : Fns := [(35, .plain, F_l_szTab), (37, .plain, F_l_toTab), (43, .plain, F_l_toByteS), (42, .plain, F_s_FindSn), (44, .plain, F_i_FindSn), (39, .plain, F_l_eqTab), (45, .plain, F_l_eqByteS)]
def F_l_FnExactFindSn : Fun1 := funV P_l_FnExactFindSn (fun d => (T_l_FnExactFindSn d.1 d.2.1).val) O_l_FnExactFindSn
def Q_l_FnExactFindSn : Loops := fun _ _ => .fail
theorem e_l_FnExactFindSn : ∀ d, pcall ⟨lookT tys, ctrOf C_l_FnExactFindSn, kindOf C_l_FnExactFindSn, 3, 4⟩ 0 Q_l_FnExactFindSn Try.f8 .plain (mkA P_l_FnExactFindSn d) = (T_l_FnExactFindSn d.1 d.2.1).run fun r => some (O_l_FnExactFindSn r) := fun d => by kernel_rfl
theorem fn_l_FnExactFindSn : Fn Try.prog 8 .plain F_l_FnExactFindSn := fn_of (cfgOk_of mixed tys_ok (show FnsOk Try.prog C_l_FnExactFindSn from ⟨fn_l_szTab, fn_l_toTab, fn_l_toByteS, fn_s_FindSn, fn_i_FindSn, fn_l_eqTab, fn_l_eqByteS, trivial⟩)) Try.func8 (by kernel_rfl) (by kernel_rfl) (fun cx b hp hb => all_of (by kernel_rfl : loopsOf (Try.f8.body.getD .skip) = []) trivial b hb) (R := (Bool × Unit)) (T := fun (d : aden P_l_FnExactFindSn) => T_l_FnExactFindSn d.1 d.2.1) e_l_FnExactFindSn
def P_s_l1In : List (Bool × List Sh) := [(false, [.int .i64]), (false, [.int .i64]), (false, [.int .i64])]
def O_s_l1In (r : (Bool × Unit)) : List RV × List RV := ([rv (false, [.bool]) r], [])
def C_s_l1In : Fns := []
def F_s_l1In : Fun1 := funV P_s_l1In (fun d => (T_s_l1In d.1 d.2.1 d.2.2.1).val) O_s_l1In
def Q_s_l1In : Loops := fun _ _ => .fail
theorem e_s_l1In : ∀ d, pcall ⟨lookT tys, ctrOf C_s_l1In, kindOf C_s_l1In, 3, 4⟩ 0 Q_s_l1In Try.f83 .plain (mkA P_s_l1In d) = (T_s_l1In d.1 d.2.1 d.2.2.1).run fun r => some (O_s_l1In r) := fun d => by kernel_rfl
theorem fn_s_l1In : Fn Try.prog 83 .plain F_s_l1In := fn_of (cfgOk_of mixed tys_ok (show FnsOk Try.prog C_s_l1In from trivial)) Try.func83 (by kernel_rfl) (by kernel_rfl) (fun cx b hp hb => all_of (by kernel_rfl : loopsOf (Try.f83.body.getD .skip) = []) trivial b hb) (R := (Bool × Unit)) (T := fun (d : aden P_s_l1In) => T_s_l1In d.1 d.2.1 d.2.2.1) e_s_l1In
def P_s_TabNew : List (Bool × List Sh) := [(false, [.int .i64])]
def O_s_TabNew (r : (YTab)) : List RV × List RV := ([rv (true, [.int .i64, .sl 97 [.int .i64, .sl 5 [.int .u8], .sl 5 [.int .u8], .int .i64, .sl 5 [.int .u8], .int .i64, .sl 5 [.int .u8], .int .i64, .int .i64, .sl 3 [.int .i64], .int .i64, .sl 5 [.int .u8], .int .i64, .int .i64, .sl 3 [.int .i64], .bool, .int .i64, .sl 5 [.int .u8], .int .i64, .int .i64, .sl 175 [.int .i64, .int .i64, .sl 5 [.int .u8], .int .i64], .int .i64, .int .i64, .bool]]) r], [])
def C_s_TabNew : Fns := [(83, .plain, F_s_l1In)]
def F_s_TabNew : Fun1 := funV P_s_TabNew (fun d => (T_s_TabNew d.1).val) O_s_TabNew
def Q_s_TabNew : Loops := fun _ _ => .fail
theorem e_s_TabNew : ∀ d, pcall ⟨lookT tys, ctrOf C_s_TabNew, kindOf C_s_TabNew, 3, 4⟩ 0 Q_s_TabNew Try.f46 .plain (mkA P_s_TabNew d) = (T_s_TabNew d.1).run fun r => some (O_s_TabNew r) := fun d => by kernel_rfl
theorem fn_s_TabNew : Fn Try.prog 46 .plain F_s_TabNew := fn_of (cfgOk_of mixed tys_ok (show FnsOk Try.prog C_s_TabNew from ⟨fn_s_l1In, trivial⟩)) Try.func46 (by kernel_rfl) (by kernel_rfl) (fun cx b hp hb => all_of (by kernel_rfl : loopsOf (Try.f46.body.getD .skip) = []) trivial b hb) (R := (YTab)) (T := fun (d : aden P_s_TabNew) => T_s_TabNew d.1) e_s_TabNew
def P_i_within : List (Bool × List Sh) := [(false, [.int .i64]), (false, [.int .i64]), (false, [.int .i64])]
def O_i_within (r : (Bool × Unit)) : List RV × List RV := ([rv (false, [.bool]) r], [])
def C_i_within : Fns := []
def F_i_within : Fun1 := funV P_i_within (fun d => (T_i_within d.1 d.2.1 d.2.2.1).val) O_i_within
def Q_i_within : Loops := fun _ _ => .fail
theorem e_i_within : ∀ d, pcall ⟨lookT tys, ctrOf C_i_within, kindOf C_i_within, 3, 4⟩ 0 Q_i_within Try.f84 .plain (mkA P_i_within d) = (T_i_within d.1 d.2.1 d.2.2.1).run fun r => some (O_i_within r) := fun d => by kernel_rfl
theorem fn_i_within : Fn Try.prog 84 .plain F_i_within := fn_of (cfgOk_of mixed tys_ok (show FnsOk Try.prog C_i_within from trivial)) Try.func84 (by kernel_rfl) (by kernel_rfl) (fun cx b hp hb => all_of (by kernel_rfl : loopsOf (Try.f84.body.getD .skip) = []) trivial b hb) (R := (Bool × Unit)) (T := fun (d : aden P_i_within) => T_i_within d.1 d.2.1 d.2.2.1) e_i_within
def P_i_TabNew : List (Bool × List Sh) := [(false, [.int .i64])]
def O_i_TabNew (r : (YTab)) : List RV × List RV := ([rv (true, [.int .i64, .sl 97 [.int .i64, .sl 5 [.int .u8], .sl 5 [.int .u8], .int .i64, .sl 5 [.int .u8], .int .i64, .sl 5 [.int .u8], .int .i64, .int .i64, .sl 3 [.int .i64], .int .i64, .sl 5 [.int .u8], .int .i64, .int .i64, .sl 3 [.int .i64], .bool, .int .i64, .sl 5 [.int .u8], .int .i64, .int .i64, .sl 175 [.int .i64, .int .i64, .sl 5 [.int .u8], .int .i64], .int .i64, .int .i64, .bool]]) r], [])
def C_i_TabNew : Fns := [(84, .plain, F_i_within)]
def F_i_TabNew : Fun1 := funV P_i_TabNew (fun d => (T_i_TabNew d.1).val) O_i_TabNew
def Q_i_TabNew : Loops := fun _ _ => .fail
theorem e_i_TabNew : ∀ d, pcall ⟨lookT tys, ctrOf C_i_TabNew, kindOf C_i_TabNew, 3, 4⟩ 0 Q_i_TabNew Try.f47 .plain (mkA P_i_TabNew d) = (T_i_TabNew d.1).run fun r => some (O_i_TabNew r) := fun d => by kernel_rfl
theorem fn_i_TabNew : Fn Try.prog 47 .plain F_i_TabNew := fn_of (cfgOk_of mixed tys_ok (show FnsOk Try.prog C_i_TabNew from ⟨fn_i_within, trivial⟩)) Try.func47 (by kernel_rfl) (by kernel_rfl) (fun cx b hp hb => all_of (by kernel_rfl : loopsOf (Try.f47.body.getD .skip) = []) trivial b hb) (R := (YTab)) (T := fun (d : aden P_i_TabNew) => T_i_TabNew d.1) e_i_TabNew
def P_l_markByteS : List (Bool × List Sh) := [(false, [.sl 5 [.int .u8]]), (false, [.int .i64])]
def O_l_markByteS (r : (YI) × (YBs)) : List RV × List RV := ([rv (false, [.int .i64]) r.1], [rv (false, [.sl 5 [.int .u8]]) r.2])
def C_l_markByteS : Fns := []
def F_l_markByteS : Fun1 := funV P_l_markByteS (fun d => (T_l_markByteS d.1 d.2.1).val) O_l_markByteS
def K_l_markByteS_2 : Sk := ⟨[(0, .v false [(.sl 5 [.int .u8], (.own 3000000))]), (1, .v false [(.int .i64, .nil)]), (5, .v false [(.int .i64, .nil)])], [], [3000000]⟩
def X_l_markByteS_2 : List (Ex × Sk) := [((.exit 0), ⟨[(0, .v false [(.sl 5 [.int .u8], (.own 3000000))]), (1, .v false [(.int .i64, .nil)])], [], [3000000]⟩)]
def Q_l_markByteS : Loops := fun i st => cond (Nat.beq i 2) (lam K_l_markByteS_2 3000000 X_l_markByteS_2 B_l_markByteS_2 st) <| .fail
theorem lp_l_markByteS_2 : ∀ d, bod ⟨lookT tys, ctrOf C_l_markByteS, kindOf C_l_markByteS, 3, 4⟩ 1 Try.f65.ntmps Q_l_markByteS (nthLoop Try.f65 0) K_l_markByteS_2 3000000 X_l_markByteS_2 d = B_l_markByteS_2 d := fun d => by kernel_rfl
theorem lo_l_markByteS_2 (cx : Cx) (hp : cx.pin.length ≤ 1) : LoopOk Try.prog cx Try.f65.ntmps Q_l_markByteS (nthLoop Try.f65 0) := loop_of (cfgOk_of mixed tys_ok (show FnsOk Try.prog C_l_markByteS from trivial)) hp (all_of (by kernel_rfl : loopsOf (nthLoop Try.f65 0) = []) trivial) (by kernel_rfl) lp_l_markByteS_2
theorem e_l_markByteS : ∀ d, pcall ⟨lookT tys, ctrOf C_l_markByteS, kindOf C_l_markByteS, 3, 4⟩ 1 Q_l_markByteS Try.f65 (.lend [1]) (mkA P_l_markByteS d) = (T_l_markByteS d.1 d.2.1).run fun r => some (O_l_markByteS r) := fun d => by kernel_rfl
theorem fn_l_markByteS : Fn Try.prog 65 (.lend [1]) F_l_markByteS := fn_of (cfgOk_of mixed tys_ok (show FnsOk Try.prog C_l_markByteS from trivial)) Try.func65 (by kernel_rfl) (by kernel_rfl) (fun cx b hp hb => all_of (by kernel_rfl : loopsOf (Try.f65.body.getD .skip) = [nthLoop Try.f65 0]) ⟨lo_l_markByteS_2 cx hp, trivial⟩ b hb) (R := (YI) × (YBs)) (T := fun (d : aden P_l_markByteS) => T_l_markByteS d.1 d.2.1) e_l_markByteS
def P_l_markIntS : List (Bool × List Sh) := [(false, [.sl 3 [.int .i64]]), (false, [.int .i64])]
def O_l_markIntS (r : (YI) × ((List YI) × Unit)) : List RV × List RV := ([rv (false, [.int .i64]) r.1], [rv (false, [.sl 3 [.int .i64]]) r.2])
def C_l_markIntS : Fns := []
def F_l_markIntS : Fun1 := funV P_l_markIntS (fun d => (T_l_markIntS d.1 d.2.1).val) O_l_markIntS
def K_l_markIntS_2 : Sk := ⟨[(0, .v false [(.sl 3 [.int .i64], (.own 3000000))]), (1, .v false [(.int .i64, .nil)]), (5, .v false [(.int .i64, .nil)])], [], [3000000]⟩
def X_l_markIntS_2 : List (Ex × Sk) := [((.exit 0), ⟨[(0, .v false [(.sl 3 [.int .i64], (.own 3000000))]), (1, .v false [(.int .i64, .nil)])], [], [3000000]⟩)]
def Q_l_markIntS : Loops := fun i st => cond (Nat.beq i 2) (lam K_l_markIntS_2 3000000 X_l_markIntS_2 B_l_markIntS_2 st) <| .fail
theorem lp_l_markIntS_2 : ∀ d, bod ⟨lookT tys, ctrOf C_l_markIntS, kindOf C_l_markIntS, 3, 4⟩ 1 Try.f128.ntmps Q_l_markIntS (nthLoop Try.f128 0) K_l_markIntS_2 3000000 X_l_markIntS_2 d = B_l_markIntS_2 d := fun d => by kernel_rfl
theorem lo_l_markIntS_2 (cx : Cx) (hp : cx.pin.length ≤ 1) : LoopOk Try.prog cx Try.f128.ntmps Q_l_markIntS (nthLoop Try.f128 0) := loop_of (cfgOk_of mixed tys_ok (show FnsOk Try.prog C_l_markIntS from trivial)) hp (all_of (by kernel_rfl : loopsOf (nthLoop Try.f128 0) = []) trivial) (by kernel_rfl) lp_l_markIntS_2
theorem e_l_markIntS : ∀ d, pcall ⟨lookT tys, ctrOf C_l_markIntS, kindOf C_l_markIntS, 3, 4⟩ 1 Q_l_markIntS Try.f128 (.lend [1]) (mkA P_l_markIntS d) = (T_l_markIntS d.1 d.2.1).run fun r => some (O_l_markIntS r) := fun d => by kernel_rfl
theorem fn_l_markIntS : Fn Try.prog 128 (.lend [1]) F_l_markIntS := fn_of (cfgOk_of mixed tys_ok (show FnsOk Try.prog C_l_markIntS from trivial)) Try.func128 (by kernel_rfl) (by kernel_rfl) (fun cx b hp hb => all_of (by kernel_rfl : loopsOf (Try.f128.body.getD .skip) = [nthLoop Try.f128 0]) ⟨lo_l_markIntS_2 cx hp, trivial⟩ b hb) (R := (YI) × ((List YI) × Unit)) (T := fun (d : aden P_l_markIntS) => T_l_markIntS d.1 d.2.1) e_l_markIntS
def P_l_markCandS : List (Bool × List Sh) := [(false, [.sl 175 [.int .i64, .int .i64, .sl 5 [.int .u8], .int .i64]]), (false, [.int .i64])]
def O_l_markCandS (r : (YI) × ((List YCand) × Unit)) : List RV × List RV := ([rv (false, [.int .i64]) r.1], [rv (false, [.sl 175 [.int .i64, .int .i64, .sl 5 [.int .u8], .int .i64]]) r.2])
def C_l_markCandS : Fns := [(65, (.lend [1]), F_l_markByteS)]
def F_l_markCandS : Fun1 := funV P_l_markCandS (fun d => (T_l_markCandS d.1 d.2.1).val) O_l_markCandS
def K_l_markCandS_2 : Sk := ⟨[(0, .v false [(.sl 175 [.int .i64, .int .i64, .sl 5 [.int .u8], .int .i64], (.own 3000000))]), (1, .v false [(.int .i64, .nil)]), (5, .v false [(.int .i64, .nil)])], [], [3000000]⟩
def X_l_markCandS_2 : List (Ex × Sk) := [((.exit 0), ⟨[(0, .v false [(.sl 175 [.int .i64, .int .i64, .sl 5 [.int .u8], .int .i64], (.own 3000000))]), (1, .v false [(.int .i64, .nil)])], [], [3000000]⟩)]
def Q_l_markCandS : Loops := fun i st => cond (Nat.beq i 2) (lam K_l_markCandS_2 3000000 X_l_markCandS_2 B_l_markCandS_2 st) <| .fail
theorem lp_l_markCandS_2 : ∀ d, bod ⟨lookT tys, ctrOf C_l_markCandS, kindOf C_l_markCandS, 3, 4⟩ 1 Try.f129.ntmps Q_l_markCandS (nthLoop Try.f129 0) K_l_markCandS_2 3000000 X_l_markCandS_2 d = B_l_markCandS_2 d := fun d => by kernel_rfl
theorem lo_l_markCandS_2 (cx : Cx) (hp : cx.pin.length ≤ 1) : LoopOk Try.prog cx Try.f129.ntmps Q_l_markCandS (nthLoop Try.f129 0) := loop_of (cfgOk_of mixed tys_ok (show FnsOk Try.prog C_l_markCandS from ⟨fn_l_markByteS, trivial⟩)) hp (all_of (by kernel_rfl : loopsOf (nthLoop Try.f129 0) = []) trivial) (by kernel_rfl) lp_l_markCandS_2
theorem e_l_markCandS : ∀ d, pcall ⟨lookT tys, ctrOf C_l_markCandS, kindOf C_l_markCandS, 3, 4⟩ 1 Q_l_markCandS Try.f129 (.lend [1]) (mkA P_l_markCandS d) = (T_l_markCandS d.1 d.2.1).run fun r => some (O_l_markCandS r) := fun d => by kernel_rfl
theorem fn_l_markCandS : Fn Try.prog 129 (.lend [1]) F_l_markCandS := fn_of (cfgOk_of mixed tys_ok (show FnsOk Try.prog C_l_markCandS from ⟨fn_l_markByteS, trivial⟩)) Try.func129 (by kernel_rfl) (by kernel_rfl) (fun cx b hp hb => all_of (by kernel_rfl : loopsOf (Try.f129.body.getD .skip) = [nthLoop Try.f129 0]) ⟨lo_l_markCandS_2 cx hp, trivial⟩ b hb) (R := (YI) × ((List YCand) × Unit)) (T := fun (d : aden P_l_markCandS) => T_l_markCandS d.1 d.2.1) e_l_markCandS
def P_l_markSessS : List (Bool × List Sh) := [(false, [.sl 97 [.int .i64, .sl 5 [.int .u8], .sl 5 [.int .u8], .int .i64, .sl 5 [.int .u8], .int .i64, .sl 5 [.int .u8], .int .i64, .int .i64, .sl 3 [.int .i64], .int .i64, .sl 5 [.int .u8], .int .i64, .int .i64, .sl 3 [.int .i64], .bool, .int .i64, .sl 5 [.int .u8], .int .i64, .int .i64, .sl 175 [.int .i64, .int .i64, .sl 5 [.int .u8], .int .i64], .int .i64, .int .i64, .bool]]), (false, [.int .i64])]
def O_l_markSessS (r : (YI) × ((List YSess) × Unit)) : List RV × List RV := ([rv (false, [.int .i64]) r.1], [rv (false, [.sl 97 [.int .i64, .sl 5 [.int .u8], .sl 5 [.int .u8], .int .i64, .sl 5 [.int .u8], .int .i64, .sl 5 [.int .u8], .int .i64, .int .i64, .sl 3 [.int .i64], .int .i64, .sl 5 [.int .u8], .int .i64, .int .i64, .sl 3 [.int .i64], .bool, .int .i64, .sl 5 [.int .u8], .int .i64, .int .i64, .sl 175 [.int .i64, .int .i64, .sl 5 [.int .u8], .int .i64], .int .i64, .int .i64, .bool]]) r.2])
def C_l_markSessS : Fns := [(65, (.lend [1]), F_l_markByteS), (128, (.lend [1]), F_l_markIntS), (129, (.lend [1]), F_l_markCandS)]
def F_l_markSessS : Fun1 := funV P_l_markSessS (fun d => (T_l_markSessS d.1 d.2.1).val) O_l_markSessS
def K_l_markSessS_2 : Sk := ⟨[(0, .v false [(.sl 97 [.int .i64, .sl 5 [.int .u8], .sl 5 [.int .u8], .int .i64, .sl 5 [.int .u8], .int .i64, .sl 5 [.int .u8], .int .i64, .int .i64, .sl 3 [.int .i64], .int .i64, .sl 5 [.int .u8], .int .i64, .int .i64, .sl 3 [.int .i64], .bool, .int .i64, .sl 5 [.int .u8], .int .i64, .int .i64, .sl 175 [.int .i64, .int .i64, .sl 5 [.int .u8], .int .i64], .int .i64, .int .i64, .bool], (.own 3000000))]), (1, .v false [(.int .i64, .nil)]), (5, .v false [(.int .i64, .nil)])], [], [3000000]⟩
def X_l_markSessS_2 : List (Ex × Sk) := [((.exit 0), ⟨[(0, .v false [(.sl 97 [.int .i64, .sl 5 [.int .u8], .sl 5 [.int .u8], .int .i64, .sl 5 [.int .u8], .int .i64, .sl 5 [.int .u8], .int .i64, .int .i64, .sl 3 [.int .i64], .int .i64, .sl 5 [.int .u8], .int .i64, .int .i64, .sl 3 [.int .i64], .bool, .int .i64, .sl 5 [.int .u8], .int .i64, .int .i64, .sl 175 [.int .i64, .int .i64, .sl 5 [.int .u8], .int .i64], .int .i64, .int .i64, .bool], (.own 3000000))]), (1, .v false [(.int .i64, .nil)])], [], [3000000]⟩)]
def Q_l_markSessS : Loops := fun i st => cond (Nat.beq i 2) (lam K_l_markSessS_2 3000000 X_l_markSessS_2 B_l_markSessS_2 st) <| .fail
theorem lp_l_markSessS_2 : ∀ d, bod ⟨lookT tys, ctrOf C_l_markSessS, kindOf C_l_markSessS, 3, 4⟩ 1 Try.f85.ntmps Q_l_markSessS (nthLoop Try.f85 0) K_l_markSessS_2 3000000 X_l_markSessS_2 d = B_l_markSessS_2 d := fun d => by kernel_rfl
theorem lo_l_markSessS_2 (cx : Cx) (hp : cx.pin.length ≤ 1) : LoopOk Try.prog cx Try.f85.ntmps Q_l_markSessS (nthLoop Try.f85 0) := loop_of (cfgOk_of mixed tys_ok (show FnsOk Try.prog C_l_markSessS from ⟨fn_l_markByteS, fn_l_markIntS, fn_l_markCandS, trivial⟩)) hp (all_of (by kernel_rfl : loopsOf (nthLoop Try.f85 0) = []) trivial) (by kernel_rfl) lp_l_markSessS_2
theorem e_l_markSessS : ∀ d, pcall ⟨lookT tys, ctrOf C_l_markSessS, kindOf C_l_markSessS, 3, 4⟩ 1 Q_l_markSessS Try.f85 (.lend [1]) (mkA P_l_markSessS d) = (T_l_markSessS d.1 d.2.1).run fun r => some (O_l_markSessS r) := fun d => by kernel_rfl
theorem fn_l_markSessS : Fn Try.prog 85 (.lend [1]) F_l_markSessS := fn_of (cfgOk_of mixed tys_ok (show FnsOk Try.prog C_l_markSessS from ⟨fn_l_markByteS, fn_l_markIntS, fn_l_markCandS, trivial⟩)) Try.func85 (by kernel_rfl) (by kernel_rfl) (fun cx b hp hb => all_of (by kernel_rfl : loopsOf (Try.f85.body.getD .skip) = [nthLoop Try.f85 0]) ⟨lo_l_markSessS_2 cx hp, trivial⟩ b hb) (R := (YI) × ((List YSess) × Unit)) (T := fun (d : aden P_l_markSessS) => T_l_markSessS d.1 d.2.1) e_l_markSessS
def P_l_markTab : List (Bool × List Sh) := [(true, [.int .i64, .sl 97 [.int .i64, .sl 5 [.int .u8], .sl 5 [.int .u8], .int .i64, .sl 5 [.int .u8], .int .i64, .sl 5 [.int .u8], .int .i64, .int .i64, .sl 3 [.int .i64], .int .i64, .sl 5 [.int .u8], .int .i64, .int .i64, .sl 3 [.int .i64], .bool, .int .i64, .sl 5 [.int .u8], .int .i64, .int .i64, .sl 175 [.int .i64, .int .i64, .sl 5 [.int .u8], .int .i64], .int .i64, .int .i64, .bool]]), (false, [.int .i64])]
def O_l_markTab (r : (YI) × (YTab)) : List RV × List RV := ([rv (false, [.int .i64]) r.1], [rv (true, [.int .i64, .sl 97 [.int .i64, .sl 5 [.int .u8], .sl 5 [.int .u8], .int .i64, .sl 5 [.int .u8], .int .i64, .sl 5 [.int .u8], .int .i64, .int .i64, .sl 3 [.int .i64], .int .i64, .sl 5 [.int .u8], .int .i64, .int .i64, .sl 3 [.int .i64], .bool, .int .i64, .sl 5 [.int .u8], .int .i64, .int .i64, .sl 175 [.int .i64, .int .i64, .sl 5 [.int .u8], .int .i64], .int .i64, .int .i64, .bool]]) r.2])
def C_l_markTab : Fns := [(85, (.lend [1]), F_l_markSessS)]
def F_l_markTab : Fun1 := funV P_l_markTab (fun d => (T_l_markTab d.1 d.2.1).val) O_l_markTab
def Q_l_markTab : Loops := fun _ _ => .fail
theorem e_l_markTab : ∀ d, pcall ⟨lookT tys, ctrOf C_l_markTab, kindOf C_l_markTab, 3, 4⟩ 1 Q_l_markTab Try.f48 (.lend [1]) (mkA P_l_markTab d) = (T_l_markTab d.1 d.2.1).run fun r => some (O_l_markTab r) := fun d => by kernel_rfl
theorem fn_l_markTab : Fn Try.prog 48 (.lend [1]) F_l_markTab := fn_of (cfgOk_of mixed tys_ok (show FnsOk Try.prog C_l_markTab from ⟨fn_l_markSessS, trivial⟩)) Try.func48 (by kernel_rfl) (by kernel_rfl) (fun cx b hp hb => all_of (by kernel_rfl : loopsOf (Try.f48.body.getD .skip) = []) trivial b hb) (R := (YI) × (YTab)) (T := fun (d : aden P_l_markTab) => T_l_markTab d.1 d.2.1) e_l_markTab
def P_l_heldByteS : List (Bool × List Sh) := [(false, [.sl 5 [.int .u8]]), (false, [.int .i64])]
def O_l_heldByteS (r : (YI)) : List RV × List RV := ([rv (false, [.int .i64]) r], [])
def C_l_heldByteS : Fns := []
def F_l_heldByteS : Fun1 := funV P_l_heldByteS (fun d => (T_l_heldByteS d.1 d.2.1).val) O_l_heldByteS
def K_l_heldByteS_2 : Sk := ⟨[(0, .v false [(.sl 5 [.int .u8], .ro)]), (1, .v false [(.int .i64, .nil)]), (5, .v false [(.int .i64, .nil)])], [], []⟩
def X_l_heldByteS_2 : List (Ex × Sk) := [(.ret, ⟨[(4, .v false [(.int .i64, .nil)])], [], []⟩), ((.exit 0), ⟨[(1, .v false [(.int .i64, .nil)])], [], []⟩)]
def Q_l_heldByteS : Loops := fun i st => cond (Nat.beq i 2) (lam K_l_heldByteS_2 3000000 X_l_heldByteS_2 B_l_heldByteS_2 st) <| .fail
theorem lp_l_heldByteS_2 : ∀ d, bod ⟨lookT tys, ctrOf C_l_heldByteS, kindOf C_l_heldByteS, 3, 4⟩ 0 Try.f69.ntmps Q_l_heldByteS (nthLoop Try.f69 0) K_l_heldByteS_2 3000000 X_l_heldByteS_2 d = B_l_heldByteS_2 d := fun d => by kernel_rfl
theorem lo_l_heldByteS_2 (cx : Cx) (hp : cx.pin.length ≤ 0) : LoopOk Try.prog cx Try.f69.ntmps Q_l_heldByteS (nthLoop Try.f69 0) := loop_of (cfgOk_of mixed tys_ok (show FnsOk Try.prog C_l_heldByteS from trivial)) hp (all_of (by kernel_rfl : loopsOf (nthLoop Try.f69 0) = []) trivial) (by kernel_rfl) lp_l_heldByteS_2
theorem e_l_heldByteS : ∀ d, pcall ⟨lookT tys, ctrOf C_l_heldByteS, kindOf C_l_heldByteS, 3, 4⟩ 0 Q_l_heldByteS Try.f69 .plain (mkA P_l_heldByteS d) = (T_l_heldByteS d.1 d.2.1).run fun r => some (O_l_heldByteS r) := fun d => by kernel_rfl
theorem fn_l_heldByteS : Fn Try.prog 69 .plain F_l_heldByteS := fn_of (cfgOk_of mixed tys_ok (show FnsOk Try.prog C_l_heldByteS from trivial)) Try.func69 (by kernel_rfl) (by kernel_rfl) (fun cx b hp hb => all_of (by kernel_rfl : loopsOf (Try.f69.body.getD .skip) = [nthLoop Try.f69 0]) ⟨lo_l_heldByteS_2 cx hp, trivial⟩ b hb) (R := (YI)) (T := fun (d : aden P_l_heldByteS) => T_l_heldByteS d.1 d.2.1) e_l_heldByteS
def P_l_heldIntS : List (Bool × List Sh) := [(false, [.sl 3 [.int .i64]]), (false, [.int .i64])]
def O_l_heldIntS (r : (YI)) : List RV × List RV := ([rv (false, [.int .i64]) r], [])
def C_l_heldIntS : Fns := []
def F_l_heldIntS : Fun1 := funV P_l_heldIntS (fun d => (T_l_heldIntS d.1 d.2.1).val) O_l_heldIntS
def K_l_heldIntS_2 : Sk := ⟨[(0, .v false [(.sl 3 [.int .i64], .ro)]), (1, .v false [(.int .i64, .nil)]), (5, .v false [(.int .i64, .nil)])], [], []⟩
def X_l_heldIntS_2 : List (Ex × Sk) := [(.ret, ⟨[(4, .v false [(.int .i64, .nil)])], [], []⟩), ((.exit 0), ⟨[(1, .v false [(.int .i64, .nil)])], [], []⟩)]
def Q_l_heldIntS : Loops := fun i st => cond (Nat.beq i 2) (lam K_l_heldIntS_2 3000000 X_l_heldIntS_2 B_l_heldIntS_2 st) <| .fail
theorem lp_l_heldIntS_2 : ∀ d, bod ⟨lookT tys, ctrOf C_l_heldIntS, kindOf C_l_heldIntS, 3, 4⟩ 0 Try.f130.ntmps Q_l_heldIntS (nthLoop Try.f130 0) K_l_heldIntS_2 3000000 X_l_heldIntS_2 d = B_l_heldIntS_2 d := fun d => by kernel_rfl
theorem lo_l_heldIntS_2 (cx : Cx) (hp : cx.pin.length ≤ 0) : LoopOk Try.prog cx Try.f130.ntmps Q_l_heldIntS (nthLoop Try.f130 0) := loop_of (cfgOk_of mixed tys_ok (show FnsOk Try.prog C_l_heldIntS from trivial)) hp (all_of (by kernel_rfl : loopsOf (nthLoop Try.f130 0) = []) trivial) (by kernel_rfl) lp_l_heldIntS_2
theorem e_l_heldIntS : ∀ d, pcall ⟨lookT tys, ctrOf C_l_heldIntS, kindOf C_l_heldIntS, 3, 4⟩ 0 Q_l_heldIntS Try.f130 .plain (mkA P_l_heldIntS d) = (T_l_heldIntS d.1 d.2.1).run fun r => some (O_l_heldIntS r) := fun d => by kernel_rfl
theorem fn_l_heldIntS : Fn Try.prog 130 .plain F_l_heldIntS := fn_of (cfgOk_of mixed tys_ok (show FnsOk Try.prog C_l_heldIntS from trivial)) Try.func130 (by kernel_rfl) (by kernel_rfl) (fun cx b hp hb => all_of (by kernel_rfl : loopsOf (Try.f130.body.getD .skip) = [nthLoop Try.f130 0]) ⟨lo_l_heldIntS_2 cx hp, trivial⟩ b hb) (R := (YI)) (T := fun (d : aden P_l_heldIntS) => T_l_heldIntS d.1 d.2.1) e_l_heldIntS
def P_l_heldCandS : List (Bool × List Sh) := [(false, [.sl 175 [.int .i64, .int .i64, .sl 5 [.int .u8], .int .i64]]), (false, [.int .i64])]
def O_l_heldCandS (r : (YI)) : List RV × List RV := ([rv (false, [.int .i64]) r], [])
def C_l_heldCandS : Fns := [(69, .plain, F_l_heldByteS)]
def F_l_heldCandS : Fun1 := funV P_l_heldCandS (fun d => (T_l_heldCandS d.1 d.2.1).val) O_l_heldCandS
def K_l_heldCandS_2 : Sk := ⟨[(0, .v false [(.sl 175 [.int .i64, .int .i64, .sl 5 [.int .u8], .int .i64], .ro)]), (1, .v false [(.int .i64, .nil)]), (5, .v false [(.int .i64, .nil)])], [], []⟩
def X_l_heldCandS_2 : List (Ex × Sk) := [(.ret, ⟨[(4, .v false [(.int .i64, .nil)])], [], []⟩), ((.exit 0), ⟨[(1, .v false [(.int .i64, .nil)])], [], []⟩)]
def Q_l_heldCandS : Loops := fun i st => cond (Nat.beq i 2) (lam K_l_heldCandS_2 3000000 X_l_heldCandS_2 B_l_heldCandS_2 st) <| .fail
theorem lp_l_heldCandS_2 : ∀ d, bod ⟨lookT tys, ctrOf C_l_heldCandS, kindOf C_l_heldCandS, 3, 4⟩ 0 Try.f131.ntmps Q_l_heldCandS (nthLoop Try.f131 0) K_l_heldCandS_2 3000000 X_l_heldCandS_2 d = B_l_heldCandS_2 d := fun d => by kernel_rfl
theorem lo_l_heldCandS_2 (cx : Cx) (hp : cx.pin.length ≤ 0) : LoopOk Try.prog cx Try.f131.ntmps Q_l_heldCandS (nthLoop Try.f131 0) := loop_of (cfgOk_of mixed tys_ok (show FnsOk Try.prog C_l_heldCandS from ⟨fn_l_heldByteS, trivial⟩)) hp (all_of (by kernel_rfl : loopsOf (nthLoop Try.f131 0) = []) trivial) (by kernel_rfl) lp_l_heldCandS_2
theorem e_l_heldCandS : ∀ d, pcall ⟨lookT tys, ctrOf C_l_heldCandS, kindOf C_l_heldCandS, 3, 4⟩ 0 Q_l_heldCandS Try.f131 .plain (mkA P_l_heldCandS d) = (T_l_heldCandS d.1 d.2.1).run fun r => some (O_l_heldCandS r) := fun d => by kernel_rfl
theorem fn_l_heldCandS : Fn Try.prog 131 .plain F_l_heldCandS := fn_of (cfgOk_of mixed tys_ok (show FnsOk Try.prog C_l_heldCandS from ⟨fn_l_heldByteS, trivial⟩)) Try.func131 (by kernel_rfl) (by kernel_rfl) (fun cx b hp hb => all_of (by kernel_rfl : loopsOf (Try.f131.body.getD .skip) = [nthLoop Try.f131 0]) ⟨lo_l_heldCandS_2 cx hp, trivial⟩ b hb) (R := (YI)) (T := fun (d : aden P_l_heldCandS) => T_l_heldCandS d.1 d.2.1) e_l_heldCandS
def P_l_heldSessS : List (Bool × List Sh) := [(false, [.sl 97 [.int .i64, .sl 5 [.int .u8], .sl 5 [.int .u8], .int .i64, .sl 5 [.int .u8], .int .i64, .sl 5 [.int .u8], .int .i64, .int .i64, .sl 3 [.int .i64], .int .i64, .sl 5 [.int .u8], .int .i64, .int .i64, .sl 3 [.int .i64], .bool, .int .i64, .sl 5 [.int .u8], .int .i64, .int .i64, .sl 175 [.int .i64, .int .i64, .sl 5 [.int .u8], .int .i64], .int .i64, .int .i64, .bool]]), (false, [.int .i64])]
def O_l_heldSessS (r : (YI)) : List RV × List RV := ([rv (false, [.int .i64]) r], [])
def C_l_heldSessS : Fns := [(69, .plain, F_l_heldByteS), (130, .plain, F_l_heldIntS), (131, .plain, F_l_heldCandS)]
def F_l_heldSessS : Fun1 := funV P_l_heldSessS (fun d => (T_l_heldSessS d.1 d.2.1).val) O_l_heldSessS
def K_l_heldSessS_2 : Sk := ⟨[(0, .v false [(.sl 97 [.int .i64, .sl 5 [.int .u8], .sl 5 [.int .u8], .int .i64, .sl 5 [.int .u8], .int .i64, .sl 5 [.int .u8], .int .i64, .int .i64, .sl 3 [.int .i64], .int .i64, .sl 5 [.int .u8], .int .i64, .int .i64, .sl 3 [.int .i64], .bool, .int .i64, .sl 5 [.int .u8], .int .i64, .int .i64, .sl 175 [.int .i64, .int .i64, .sl 5 [.int .u8], .int .i64], .int .i64, .int .i64, .bool], .ro)]), (1, .v false [(.int .i64, .nil)]), (5, .v false [(.int .i64, .nil)])], [], []⟩
def X_l_heldSessS_2 : List (Ex × Sk) := [(.ret, ⟨[(4, .v false [(.int .i64, .nil)])], [], []⟩), ((.exit 0), ⟨[(1, .v false [(.int .i64, .nil)])], [], []⟩)]
def Q_l_heldSessS : Loops := fun i st => cond (Nat.beq i 2) (lam K_l_heldSessS_2 3000000 X_l_heldSessS_2 B_l_heldSessS_2 st) <| .fail
theorem lp_l_heldSessS_2 : ∀ d, bod ⟨lookT tys, ctrOf C_l_heldSessS, kindOf C_l_heldSessS, 3, 4⟩ 0 Try.f86.ntmps Q_l_heldSessS (nthLoop Try.f86 0) K_l_heldSessS_2 3000000 X_l_heldSessS_2 d = B_l_heldSessS_2 d := fun d => by kernel_rfl
theorem lo_l_heldSessS_2 (cx : Cx) (hp : cx.pin.length ≤ 0) : LoopOk Try.prog cx Try.f86.ntmps Q_l_heldSessS (nthLoop Try.f86 0) := loop_of (cfgOk_of mixed tys_ok (show FnsOk Try.prog C_l_heldSessS from ⟨fn_l_heldByteS, fn_l_heldIntS, fn_l_heldCandS, trivial⟩)) hp (all_of (by kernel_rfl : loopsOf (nthLoop Try.f86 0) = []) trivial) (by kernel_rfl) lp_l_heldSessS_2
theorem e_l_heldSessS : ∀ d, pcall ⟨lookT tys, ctrOf C_l_heldSessS, kindOf C_l_heldSessS, 3, 4⟩ 0 Q_l_heldSessS Try.f86 .plain (mkA P_l_heldSessS d) = (T_l_heldSessS d.1 d.2.1).run fun r => some (O_l_heldSessS r) := fun d => by kernel_rfl
theorem fn_l_heldSessS : Fn Try.prog 86 .plain F_l_heldSessS := fn_of (cfgOk_of mixed tys_ok (show FnsOk Try.prog C_l_heldSessS from ⟨fn_l_heldByteS, fn_l_heldIntS, fn_l_heldCandS, trivial⟩)) Try.func86 (by kernel_rfl) (by kernel_rfl) (fun cx b hp hb => all_of (by kernel_rfl : loopsOf (Try.f86.body.getD .skip) = [nthLoop Try.f86 0]) ⟨lo_l_heldSessS_2 cx hp, trivial⟩ b hb) (R := (YI)) (T := fun (d : aden P_l_heldSessS) => T_l_heldSessS d.1 d.2.1) e_l_heldSessS
def P_l_heldTab : List (Bool × List Sh) := [(true, [.int .i64, .sl 97 [.int .i64, .sl 5 [.int .u8], .sl 5 [.int .u8], .int .i64, .sl 5 [.int .u8], .int .i64, .sl 5 [.int .u8], .int .i64, .int .i64, .sl 3 [.int .i64], .int .i64, .sl 5 [.int .u8], .int .i64, .int .i64, .sl 3 [.int .i64], .bool, .int .i64, .sl 5 [.int .u8], .int .i64, .int .i64, .sl 175 [.int .i64, .int .i64, .sl 5 [.int .u8], .int .i64], .int .i64, .int .i64, .bool]]), (false, [.int .i64])]
def O_l_heldTab (r : (YI)) : List RV × List RV := ([rv (false, [.int .i64]) r], [])
def C_l_heldTab : Fns := [(86, .plain, F_l_heldSessS)]
def F_l_heldTab : Fun1 := funV P_l_heldTab (fun d => (T_l_heldTab d.1 d.2.1).val) O_l_heldTab
def Q_l_heldTab : Loops := fun _ _ => .fail
theorem e_l_heldTab : ∀ d, pcall ⟨lookT tys, ctrOf C_l_heldTab, kindOf C_l_heldTab, 3, 4⟩ 0 Q_l_heldTab Try.f49 .plain (mkA P_l_heldTab d) = (T_l_heldTab d.1 d.2.1).run fun r => some (O_l_heldTab r) := fun d => by kernel_rfl
theorem fn_l_heldTab : Fn Try.prog 49 .plain F_l_heldTab := fn_of (cfgOk_of mixed tys_ok (show FnsOk Try.prog C_l_heldTab from ⟨fn_l_heldSessS, trivial⟩)) Try.func49 (by kernel_rfl) (by kernel_rfl) (fun cx b hp hb => all_of (by kernel_rfl : loopsOf (Try.f49.body.getD .skip) = []) trivial b hb) (R := (YI)) (T := fun (d : aden P_l_heldTab) => T_l_heldTab d.1 d.2.1) e_l_heldTab
def P_l_FnExactTabNew : List (Bool × List Sh) := [(false, [.int .i64])]
def O_l_FnExactTabNew (r : (Bool × Unit)) : List RV × List RV := ([rv (false, [.bool]) r], [])
def C_l_FnExactTabNew : Fns := [(46, .plain, F_s_TabNew), (47, .plain, F_i_TabNew), (39, .plain, F_l_eqTab), (48, (.lend [1]), F_l_markTab), (49, .plain, F_l_heldTab)]
def F_l_FnExactTabNew : Fun1 := funV P_l_FnExactTabNew (fun d => (T_l_FnExactTabNew d.1).val) O_l_FnExactTabNew
def Q_l_FnExactTabNew : Loops := fun _ _ => .fail
theorem e_l_FnExactTabNew : ∀ d, pcall ⟨lookT tys, ctrOf C_l_FnExactTabNew, kindOf C_l_FnExactTabNew, 3, 4⟩ 0 Q_l_FnExactTabNew Try.f9 .plain (mkA P_l_FnExactTabNew d) = (T_l_FnExactTabNew d.1).run fun r => some (O_l_FnExactTabNew r) := fun d => by kernel_rfl
theorem fn_l_FnExactTabNew : Fn Try.prog 9 .plain F_l_FnExactTabNew := fn_of (cfgOk_of mixed tys_ok (show FnsOk Try.prog C_l_FnExactTabNew from ⟨fn_s_TabNew, fn_i_TabNew, fn_l_eqTab, fn_l_markTab, fn_l_heldTab, trivial⟩)) Try.func9 (by kernel_rfl) (by kernel_rfl) (fun cx b hp hb => all_of (by kernel_rfl : loopsOf (Try.f9.body.getD .skip) = []) trivial b hb) (R := (Bool × Unit)) (T := fun (d : aden P_l_FnExactTabNew) => T_l_FnExactTabNew d.1) e_l_FnExactTabNew
end
end Go.Proofs.Ythcbhopanefaiaa

/-
  That the functions of the seat answer what the terms of text W say; nothing is assumed.
-/
import Derived.Test.YtndbndcibmfgdaaGreatW
import Derived.Test.YtndbndcibmfgdaaGreatProg
import Derived.KernelRfl
namespace Go.Proofs.YtndbndcibmfgdaaGreat
open Go.RowKit
set_option linter.unusedVariables false
set_option maxRecDepth 100000
set_option maxHeartbeats 4000000
noncomputable section
abbrev h_0 : List Sh := [.int .i64, .int .i64, .bool, .int .u8]
abbrev h_1 : List Sh := [.int .i64, .int .i64, .int .i64, .int .i64]
abbrev h_2 : List Sh := [.sl 3 [.int .i64], .sl 5 [.int .u8], .int .i64]
abbrev h_3 : List Sh := [.int .i64, .int .i64, .sl 5 [.int .u8], .int .i64]
abbrev h_4 : List Sh := [.int .i64, .sl 5 [.int .u8], .int .i64, .int .i64, .sl 3 [.int .i64]]
abbrev h_5 : List Sh := [.int .i64, .int .i64, .sl 263 h_3]
abbrev h_6 : List Sh := [.int .i64, .int .i64, .sl 224 h_3]
abbrev h_7 : List Sh := [.int .i64, .int .i64, .int .i64, .sl 5 [.int .u8], .sl 5 [.int .u8], .int .i64, .int .i64, .sl 5 [.int .u8], .sl 5 [.int .u8], .int .i64, .int .i64, .int .i64]
abbrev h_8 : List Sh := [.int .i64, .int .i64, .sl 5 [.int .u8], .sl 5 [.int .u8], .int .i64, .sl 5 [.int .u8], .sl 5 [.int .u8], .int .i64, .int .i64, .sl 5 [.int .u8], .sl 5 [.int .u8]]
abbrev h_9 : List Sh := [.int .i64, .int .i64, .int .i64, .int .i64, .sl 5 [.int .u8], .sl 5 [.int .u8], .int .i64, .sl 5 [.int .u8], .sl 5 [.int .u8], .int .i64, .int .i64, .sl 5 [.int .u8], .sl 5 [.int .u8]]
abbrev h_10 : List Sh := [.int .i64, .sl 5 [.int .u8], .int .i64, .sl 5 [.int .u8], .int .i64, .int .i64, .sl 3 [.int .i64], .int .i64, .sl 5 [.int .u8], .int .i64, .int .i64, .sl 3 [.int .i64], .bool, .int .i64, .sl 5 [.int .u8]]
abbrev h_11 : List Sh := [.int .i64, .sl 5 [.int .u8], .sl 5 [.int .u8], .int .i64, .sl 5 [.int .u8], .int .i64, .sl 5 [.int .u8], .int .i64, .int .i64, .sl 3 [.int .i64], .int .i64, .sl 5 [.int .u8], .int .i64, .int .i64, .sl 3 [.int .i64], .bool, .int .i64, .sl 5 [.int .u8], .int .i64, .int .i64, .sl 263 h_3, .int .i64, .int .i64, .bool]
abbrev h_12 : List Sh := [.int .i64, .sl 5 [.int .u8], .sl 5 [.int .u8], .int .i64, .sl 5 [.int .u8], .int .i64, .sl 5 [.int .u8], .int .i64, .int .i64, .sl 3 [.int .i64], .int .i64, .sl 5 [.int .u8], .int .i64, .int .i64, .sl 3 [.int .i64], .bool, .int .i64, .sl 5 [.int .u8], .int .i64, .int .i64, .sl 224 h_3, .int .i64, .int .i64, .bool]
abbrev h_13 : List Sh := [.sl 35 [.sl 5 [.int .u8]], .sl 5 [.int .u8], .sl 5 [.int .u8], .int .i64, .int .i64, .sl 71 h_11, .sl 207 h_1]
abbrev h_14 : List Sh := [.sl 35 [.sl 5 [.int .u8]], .sl 5 [.int .u8], .sl 5 [.int .u8], .int .i64, .int .i64, .sl 86 h_12, .sl 204 h_1]
def tys : List (Nat × Ty) := [(3, ⟨false, [.int .i64], [], false, []⟩),
  (4, ⟨false, [.bool], [], false, []⟩),
  (5, ⟨false, [.int .u8], [], false, []⟩),
  (9, ⟨false, [.str], [], false, []⟩),
  (22, ⟨false, [.sl 71 h_11], [], false, []⟩),
  (24, ⟨true, [.int .i64, .sl 71 h_11], [(0, 1), (1, 1)], false, []⟩),
  (26, ⟨false, [.sl 86 h_12], [], false, []⟩),
  (28, ⟨true, [.int .i64, .sl 86 h_12], [(0, 1), (1, 1)], false, []⟩),
  (34, ⟨false, [.sl 35 [.sl 5 [.int .u8]]], [], false, []⟩),
  (35, ⟨false, [.sl 5 [.int .u8]], [], false, []⟩),
  (37, ⟨true, [.sl 5 [.int .u8]], [(0, 1)], false, []⟩),
  (39, ⟨true, [.sl 5 [.int .u8], .int .i64], [(0, 1), (1, 1)], false, []⟩),
  (40, ⟨false, [.sl 207 h_1], [], false, []⟩),
  (42, ⟨true, h_13, [(0, 1), (1, 1), (2, 2), (4, 2), (6, 1)], false, []⟩),
  (44, ⟨true, [.sl 5 [.int .u8]], [(0, 1)], false, []⟩),
  (45, ⟨true, [.sl 5 [.int .u8], .int .i64], [(0, 1), (1, 1)], false, []⟩),
  (46, ⟨false, [.sl 204 h_1], [], false, []⟩),
  (48, ⟨true, h_14, [(0, 1), (1, 1), (2, 2), (4, 2), (6, 1)], false, []⟩),
  (49, ⟨false, [.sl 123 h_7], [], false, []⟩),
  (58, ⟨false, [.sl 3 [.int .i64]], [], false, []⟩),
  (60, ⟨true, [.int .i64, .sl 3 [.int .i64]], [(0, 1), (1, 1)], false, []⟩),
  (62, ⟨true, h_4, [(0, 1), (1, 1), (2, 1), (3, 2)], false, []⟩),
  (64, ⟨true, h_10, [(0, 1), (1, 1), (2, 5), (7, 5), (12, 1), (13, 1), (14, 1)], false, []⟩),
  (66, ⟨true, [.int .i64, .int .i64], [(0, 1), (1, 1)], true, []⟩),
  (67, ⟨false, [.sl 263 h_3], [], false, []⟩),
  (69, ⟨true, h_5, [(0, 2), (2, 1)], false, []⟩),
  (71, ⟨true, h_11, [(0, 1), (1, 1), (2, 1), (3, 15), (18, 3), (21, 1), (22, 1), (23, 1)], false, []⟩),
  (76, ⟨true, [.int .i64, .sl 3 [.int .i64]], [(0, 1), (1, 1)], false, []⟩),
  (78, ⟨true, h_4, [(0, 1), (1, 1), (2, 1), (3, 2)], false, []⟩),
  (80, ⟨true, h_10, [(0, 1), (1, 1), (2, 5), (7, 5), (12, 1), (13, 1), (14, 1)], false, []⟩),
  (81, ⟨true, [.int .i64, .int .i64], [(0, 1), (1, 1)], true, []⟩),
  (82, ⟨false, [.sl 224 h_3], [], false, []⟩),
  (84, ⟨true, h_6, [(0, 2), (2, 1)], false, [81, 82]⟩),
  (86, ⟨true, h_12, [(0, 1), (1, 1), (2, 1), (3, 15), (18, 3), (21, 1), (22, 1), (23, 1)], false, []⟩),
  (123, ⟨true, h_7, [(0, 1), (1, 1), (2, 1), (3, 1), (4, 1), (5, 1), (6, 1), (7, 1), (8, 1), (9, 2), (11, 1)], false, []⟩),
  (204, ⟨true, h_1, [(0, 2), (2, 1), (3, 1)], false, []⟩),
  (207, ⟨true, h_1, [(0, 2), (2, 1), (3, 1)], false, []⟩),
  (224, ⟨true, h_3, [(0, 2), (2, 1), (3, 1)], false, []⟩),
  (263, ⟨true, h_3, [(0, 2), (2, 1), (3, 1)], false, []⟩)]
theorem tys_ok : tysB Tryz.prog tys = true := by kernel_rfl
theorem mixed : Tryz.prog.follows .mixedOrders = true := by kernel_rfl
theorem mkF {f : FuncId} {fn : Func} {kd : Kind} {ps : List (Bool × List Sh)} {R : Type} {T : aden ps → Tree R} {rvs : R → List RV × List RV} (C : Fns) (hc : FnsOk Tryz.prog C) (hf : Tryz.prog.funcs[f]? = some fn) (hn : (fn.name == "runtime.NumGoroutine") = false) (hb : fn.body.isSome = true) (hl : loopsOf (fn.body.getD .skip) = []) (np : Nat)
    (he : ∀ d, pcall ⟨lookT tys, ctrOf C, kindOf C, 3, 4⟩ np (fun _ _ => .fail) fn kd (mkA ps d) = (T d).run fun r => some (rvs r)) : Fn Tryz.prog f kd (funV ps (fun d => (T d).val) rvs) :=
  fn_of (cfgOk_of mixed tys_ok hc) hf hn hb (fun cx b hp hbb => by rw [hl] at hbb; cases hbb) he
def P_l_szByteS : List (Bool × List Sh) := [(false, [.sl 5 [.int .u8]]), (false, [.int .i64])]
def O_l_szByteS (r : (YI)) : List RV × List RV := ([rv (false, [.int .i64]) r], [])
def C_l_szByteS : Fns := []
def F_l_szByteS : Fun1 := funV P_l_szByteS (fun d => (T_l_szByteS d.1 d.2.1).val) O_l_szByteS
def Q_l_szByteS : Loops := fun _ _ => .fail
theorem e_l_szByteS : ∀ d, pcall ⟨lookT tys, ctrOf C_l_szByteS, kindOf C_l_szByteS, 3, 4⟩ 0 Q_l_szByteS Tryz.f87 .plain (mkA P_l_szByteS d) = (T_l_szByteS d.1 d.2.1).run fun r => some (O_l_szByteS r) := fun d => by kernel_rfl
theorem fn_l_szByteS : Fn Tryz.prog 87 .plain F_l_szByteS := fn_of (cfgOk_of mixed tys_ok (show FnsOk Tryz.prog C_l_szByteS from trivial)) Tryz.func87 (by kernel_rfl) (by kernel_rfl) (fun cx b hp hb => all_of (by kernel_rfl : loopsOf (Tryz.f87.body.getD .skip) = []) trivial b hb) (R := (YI)) (T := fun (d : aden P_l_szByteS) => T_l_szByteS d.1 d.2.1) e_l_szByteS
def P_l_szIntS : List (Bool × List Sh) := [(false, [.sl 3 [.int .i64]]), (false, [.int .i64])]
def O_l_szIntS (r : (YI)) : List RV × List RV := ([rv (false, [.int .i64]) r], [])
def C_l_szIntS : Fns := []
def F_l_szIntS : Fun1 := funV P_l_szIntS (fun d => (T_l_szIntS d.1 d.2.1).val) O_l_szIntS
def Q_l_szIntS : Loops := fun _ _ => .fail
theorem e_l_szIntS : ∀ d, pcall ⟨lookT tys, ctrOf C_l_szIntS, kindOf C_l_szIntS, 3, 4⟩ 0 Q_l_szIntS Tryz.f307 .plain (mkA P_l_szIntS d) = (T_l_szIntS d.1 d.2.1).run fun r => some (O_l_szIntS r) := fun d => by kernel_rfl
theorem fn_l_szIntS : Fn Tryz.prog 307 .plain F_l_szIntS := fn_of (cfgOk_of mixed tys_ok (show FnsOk Tryz.prog C_l_szIntS from trivial)) Tryz.func307 (by kernel_rfl) (by kernel_rfl) (fun cx b hp hb => all_of (by kernel_rfl : loopsOf (Tryz.f307.body.getD .skip) = []) trivial b hb) (R := (YI)) (T := fun (d : aden P_l_szIntS) => T_l_szIntS d.1 d.2.1) e_l_szIntS
def P_l_szWin : List (Bool × List Sh) := [(true, [.int .i64, .sl 3 [.int .i64]]), (false, [.int .i64])]
def O_l_szWin (r : (YI)) : List RV × List RV := ([rv (false, [.int .i64]) r], [])
def C_l_szWin : Fns := [(307, .plain, F_l_szIntS)]
def F_l_szWin : Fun1 := funV P_l_szWin (fun d => (T_l_szWin d.1 d.2.1).val) O_l_szWin
def Q_l_szWin : Loops := fun _ _ => .fail
theorem e_l_szWin : ∀ d, pcall ⟨lookT tys, ctrOf C_l_szWin, kindOf C_l_szWin, 3, 4⟩ 0 Q_l_szWin Tryz.f258 .plain (mkA P_l_szWin d) = (T_l_szWin d.1 d.2.1).run fun r => some (O_l_szWin r) := fun d => by kernel_rfl
theorem fn_l_szWin : Fn Tryz.prog 258 .plain F_l_szWin := fn_of (cfgOk_of mixed tys_ok (show FnsOk Tryz.prog C_l_szWin from ⟨fn_l_szIntS, trivial⟩)) Tryz.func258 (by kernel_rfl) (by kernel_rfl) (fun cx b hp hb => all_of (by kernel_rfl : loopsOf (Tryz.f258.body.getD .skip) = []) trivial b hb) (R := (YI)) (T := fun (d : aden P_l_szWin) => T_l_szWin d.1 d.2.1) e_l_szWin
def P_l_szEp : List (Bool × List Sh) := [(true, h_4), (false, [.int .i64])]
def O_l_szEp (r : (YI)) : List RV × List RV := ([rv (false, [.int .i64]) r], [])
def C_l_szEp : Fns := [(87, .plain, F_l_szByteS), (258, .plain, F_l_szWin)]
def F_l_szEp : Fun1 := funV P_l_szEp (fun d => (T_l_szEp d.1 d.2.1).val) O_l_szEp
def Q_l_szEp : Loops := fun _ _ => .fail
theorem e_l_szEp : ∀ d, pcall ⟨lookT tys, ctrOf C_l_szEp, kindOf C_l_szEp, 3, 4⟩ 0 Q_l_szEp Tryz.f179 .plain (mkA P_l_szEp d) = (T_l_szEp d.1 d.2.1).run fun r => some (O_l_szEp r) := fun d => by kernel_rfl
theorem fn_l_szEp : Fn Tryz.prog 179 .plain F_l_szEp := fn_of (cfgOk_of mixed tys_ok (show FnsOk Tryz.prog C_l_szEp from ⟨fn_l_szByteS, fn_l_szWin, trivial⟩)) Tryz.func179 (by kernel_rfl) (by kernel_rfl) (fun cx b hp hb => all_of (by kernel_rfl : loopsOf (Tryz.f179.body.getD .skip) = []) trivial b hb) (R := (YI)) (T := fun (d : aden P_l_szEp) => T_l_szEp d.1 d.2.1) e_l_szEp
def P_l_szChan : List (Bool × List Sh) := [(true, h_10), (false, [.int .i64])]
def O_l_szChan (r : (YI)) : List RV × List RV := ([rv (false, [.int .i64]) r], [])
def C_l_szChan : Fns := [(87, .plain, F_l_szByteS), (179, .plain, F_l_szEp)]
def F_l_szChan : Fun1 := funV P_l_szChan (fun d => (T_l_szChan d.1 d.2.1).val) O_l_szChan
def Q_l_szChan : Loops := fun _ _ => .fail
theorem e_l_szChan : ∀ d, pcall ⟨lookT tys, ctrOf C_l_szChan, kindOf C_l_szChan, 3, 4⟩ 0 Q_l_szChan Tryz.f88 .plain (mkA P_l_szChan d) = (T_l_szChan d.1 d.2.1).run fun r => some (O_l_szChan r) := fun d => by kernel_rfl
theorem fn_l_szChan : Fn Tryz.prog 88 .plain F_l_szChan := fn_of (cfgOk_of mixed tys_ok (show FnsOk Tryz.prog C_l_szChan from ⟨fn_l_szByteS, fn_l_szEp, trivial⟩)) Tryz.func88 (by kernel_rfl) (by kernel_rfl) (fun cx b hp hb => all_of (by kernel_rfl : loopsOf (Tryz.f88.body.getD .skip) = []) trivial b hb) (R := (YI)) (T := fun (d : aden P_l_szChan) => T_l_szChan d.1 d.2.1) e_l_szChan
def P_l_szCand : List (Bool × List Sh) := [(true, h_3), (false, [.int .i64])]
def O_l_szCand (r : (YI)) : List RV × List RV := ([rv (false, [.int .i64]) r], [])
def C_l_szCand : Fns := [(87, .plain, F_l_szByteS)]
def F_l_szCand : Fun1 := funV P_l_szCand (fun d => (T_l_szCand d.1 d.2.1).val) O_l_szCand
def Q_l_szCand : Loops := fun _ _ => .fail
theorem e_l_szCand : ∀ d, pcall ⟨lookT tys, ctrOf C_l_szCand, kindOf C_l_szCand, 3, 4⟩ 0 Q_l_szCand Tryz.f259 .plain (mkA P_l_szCand d) = (T_l_szCand d.1 d.2.1).run fun r => some (O_l_szCand r) := fun d => by kernel_rfl
theorem fn_l_szCand : Fn Tryz.prog 259 .plain F_l_szCand := fn_of (cfgOk_of mixed tys_ok (show FnsOk Tryz.prog C_l_szCand from ⟨fn_l_szByteS, trivial⟩)) Tryz.func259 (by kernel_rfl) (by kernel_rfl) (fun cx b hp hb => all_of (by kernel_rfl : loopsOf (Tryz.f259.body.getD .skip) = []) trivial b hb) (R := (YI)) (T := fun (d : aden P_l_szCand) => T_l_szCand d.1 d.2.1) e_l_szCand
def P_l_szCandS : List (Bool × List Sh) := [(false, [.sl 263 h_3]), (false, [.int .i64])]
def O_l_szCandS (r : (YI)) : List RV × List RV := ([rv (false, [.int .i64]) r], [])
def C_l_szCandS : Fns := [(259, .plain, F_l_szCand)]
def F_l_szCandS : Fun1 := funV P_l_szCandS (fun d => (T_l_szCandS d.1 d.2.1).val) O_l_szCandS
def K_l_szCandS_5 : Sk := ⟨[(0, .v false [(.sl 263 h_3, .ro)]), (1, .v false [(.int .i64, .nil)]), (5, .v false [(.int .i64, .nil)])], [], []⟩
def X_l_szCandS_5 : List (Ex × Sk) := [(.ret, ⟨[(4, .v false [(.int .i64, .nil)])], [], []⟩), ((.exit 0), ⟨[(1, .v false [(.int .i64, .nil)])], [], []⟩)]
def Q_l_szCandS : Loops := fun i st => cond (Nat.beq i 5) (lam K_l_szCandS_5 6000000 X_l_szCandS_5 B_l_szCandS_5 st) <| .fail
theorem lp_l_szCandS_5 : ∀ d, bod ⟨lookT tys, ctrOf C_l_szCandS, kindOf C_l_szCandS, 3, 4⟩ 0 Tryz.f180.ntmps Q_l_szCandS (nthLoop Tryz.f180 0) K_l_szCandS_5 6000000 X_l_szCandS_5 d = B_l_szCandS_5 d := fun d => by kernel_rfl
theorem lo_l_szCandS_5 (cx : Cx) (hp : cx.pin.length ≤ 0) : LoopOk Tryz.prog cx Tryz.f180.ntmps Q_l_szCandS (nthLoop Tryz.f180 0) := loop_of (cfgOk_of mixed tys_ok (show FnsOk Tryz.prog C_l_szCandS from ⟨fn_l_szCand, trivial⟩)) hp (all_of (by kernel_rfl : loopsOf (nthLoop Tryz.f180 0) = []) trivial) (by kernel_rfl) lp_l_szCandS_5
theorem e_l_szCandS : ∀ d, pcall ⟨lookT tys, ctrOf C_l_szCandS, kindOf C_l_szCandS, 3, 4⟩ 0 Q_l_szCandS Tryz.f180 .plain (mkA P_l_szCandS d) = (T_l_szCandS d.1 d.2.1).run fun r => some (O_l_szCandS r) := fun d => by kernel_rfl
theorem fn_l_szCandS : Fn Tryz.prog 180 .plain F_l_szCandS := fn_of (cfgOk_of mixed tys_ok (show FnsOk Tryz.prog C_l_szCandS from ⟨fn_l_szCand, trivial⟩)) Tryz.func180 (by kernel_rfl) (by kernel_rfl) (fun cx b hp hb => all_of (by kernel_rfl : loopsOf (Tryz.f180.body.getD .skip) = [nthLoop Tryz.f180 0]) ⟨lo_l_szCandS_5 cx hp, trivial⟩ b hb) (R := (YI)) (T := fun (d : aden P_l_szCandS) => T_l_szCandS d.1 d.2.1) e_l_szCandS
def P_l_szPaths : List (Bool × List Sh) := [(true, h_5), (false, [.int .i64])]
def O_l_szPaths (r : (YI)) : List RV × List RV := ([rv (false, [.int .i64]) r], [])
def C_l_szPaths : Fns := [(180, .plain, F_l_szCandS)]
def F_l_szPaths : Fun1 := funV P_l_szPaths (fun d => (T_l_szPaths d.1 d.2.1).val) O_l_szPaths
def Q_l_szPaths : Loops := fun _ _ => .fail
theorem e_l_szPaths : ∀ d, pcall ⟨lookT tys, ctrOf C_l_szPaths, kindOf C_l_szPaths, 3, 4⟩ 0 Q_l_szPaths Tryz.f89 .plain (mkA P_l_szPaths d) = (T_l_szPaths d.1 d.2.1).run fun r => some (O_l_szPaths r) := fun d => by kernel_rfl
theorem fn_l_szPaths : Fn Tryz.prog 89 .plain F_l_szPaths := fn_of (cfgOk_of mixed tys_ok (show FnsOk Tryz.prog C_l_szPaths from ⟨fn_l_szCandS, trivial⟩)) Tryz.func89 (by kernel_rfl) (by kernel_rfl) (fun cx b hp hb => all_of (by kernel_rfl : loopsOf (Tryz.f89.body.getD .skip) = []) trivial b hb) (R := (YI)) (T := fun (d : aden P_l_szPaths) => T_l_szPaths d.1 d.2.1) e_l_szPaths
def P_l_szSess : List (Bool × List Sh) := [(true, h_11), (false, [.int .i64])]
def O_l_szSess (r : (YI)) : List RV × List RV := ([rv (false, [.int .i64]) r], [])
def C_l_szSess : Fns := [(87, .plain, F_l_szByteS), (88, .plain, F_l_szChan), (89, .plain, F_l_szPaths)]
def F_l_szSess : Fun1 := funV P_l_szSess (fun d => (T_l_szSess d.1 d.2.1).val) O_l_szSess
def Q_l_szSess : Loops := fun _ _ => .fail
theorem e_l_szSess : ∀ d, pcall ⟨lookT tys, ctrOf C_l_szSess, kindOf C_l_szSess, 3, 4⟩ 0 Q_l_szSess Tryz.f24 .plain (mkA P_l_szSess d) = (T_l_szSess d.1 d.2.1).run fun r => some (O_l_szSess r) := fun d => by kernel_rfl
theorem fn_l_szSess : Fn Tryz.prog 24 .plain F_l_szSess := fn_of (cfgOk_of mixed tys_ok (show FnsOk Tryz.prog C_l_szSess from ⟨fn_l_szByteS, fn_l_szChan, fn_l_szPaths, trivial⟩)) Tryz.func24 (by kernel_rfl) (by kernel_rfl) (fun cx b hp hb => all_of (by kernel_rfl : loopsOf (Tryz.f24.body.getD .skip) = []) trivial b hb) (R := (YI)) (T := fun (d : aden P_l_szSess) => T_l_szSess d.1 d.2.1) e_l_szSess
def P_l_szSessS : List (Bool × List Sh) := [(false, [.sl 71 h_11]), (false, [.int .i64])]
def O_l_szSessS (r : (YI)) : List RV × List RV := ([rv (false, [.int .i64]) r], [])
def C_l_szSessS : Fns := [(24, .plain, F_l_szSess)]
def F_l_szSessS : Fun1 := funV P_l_szSessS (fun d => (T_l_szSessS d.1 d.2.1).val) O_l_szSessS
def K_l_szSessS_5 : Sk := ⟨[(0, .v false [(.sl 71 h_11, .ro)]), (1, .v false [(.int .i64, .nil)]), (5, .v false [(.int .i64, .nil)])], [], []⟩
def X_l_szSessS_5 : List (Ex × Sk) := [(.ret, ⟨[(4, .v false [(.int .i64, .nil)])], [], []⟩), ((.exit 0), ⟨[(1, .v false [(.int .i64, .nil)])], [], []⟩)]
def Q_l_szSessS : Loops := fun i st => cond (Nat.beq i 5) (lam K_l_szSessS_5 6000000 X_l_szSessS_5 B_l_szSessS_5 st) <| .fail
theorem lp_l_szSessS_5 : ∀ d, bod ⟨lookT tys, ctrOf C_l_szSessS, kindOf C_l_szSessS, 3, 4⟩ 0 Tryz.f44.ntmps Q_l_szSessS (nthLoop Tryz.f44 0) K_l_szSessS_5 6000000 X_l_szSessS_5 d = B_l_szSessS_5 d := fun d => by kernel_rfl
theorem lo_l_szSessS_5 (cx : Cx) (hp : cx.pin.length ≤ 0) : LoopOk Tryz.prog cx Tryz.f44.ntmps Q_l_szSessS (nthLoop Tryz.f44 0) := loop_of (cfgOk_of mixed tys_ok (show FnsOk Tryz.prog C_l_szSessS from ⟨fn_l_szSess, trivial⟩)) hp (all_of (by kernel_rfl : loopsOf (nthLoop Tryz.f44 0) = []) trivial) (by kernel_rfl) lp_l_szSessS_5
theorem e_l_szSessS : ∀ d, pcall ⟨lookT tys, ctrOf C_l_szSessS, kindOf C_l_szSessS, 3, 4⟩ 0 Q_l_szSessS Tryz.f44 .plain (mkA P_l_szSessS d) = (T_l_szSessS d.1 d.2.1).run fun r => some (O_l_szSessS r) := fun d => by kernel_rfl
theorem fn_l_szSessS : Fn Tryz.prog 44 .plain F_l_szSessS := fn_of (cfgOk_of mixed tys_ok (show FnsOk Tryz.prog C_l_szSessS from ⟨fn_l_szSess, trivial⟩)) Tryz.func44 (by kernel_rfl) (by kernel_rfl) (fun cx b hp hb => all_of (by kernel_rfl : loopsOf (Tryz.f44.body.getD .skip) = [nthLoop Tryz.f44 0]) ⟨lo_l_szSessS_5 cx hp, trivial⟩ b hb) (R := (YI)) (T := fun (d : aden P_l_szSessS) => T_l_szSessS d.1 d.2.1) e_l_szSessS
def P_l_szTab : List (Bool × List Sh) := [(true, [.int .i64, .sl 71 h_11]), (false, [.int .i64])]
def O_l_szTab (r : (YI)) : List RV × List RV := ([rv (false, [.int .i64]) r], [])
def C_l_szTab : Fns := [(44, .plain, F_l_szSessS)]
def F_l_szTab : Fun1 := funV P_l_szTab (fun d => (T_l_szTab d.1 d.2.1).val) O_l_szTab
def Q_l_szTab : Loops := fun _ _ => .fail
theorem e_l_szTab : ∀ d, pcall ⟨lookT tys, ctrOf C_l_szTab, kindOf C_l_szTab, 3, 4⟩ 0 Q_l_szTab Tryz.f7 .plain (mkA P_l_szTab d) = (T_l_szTab d.1 d.2.1).run fun r => some (O_l_szTab r) := fun d => by kernel_rfl
theorem fn_l_szTab : Fn Tryz.prog 7 .plain F_l_szTab := fn_of (cfgOk_of mixed tys_ok (show FnsOk Tryz.prog C_l_szTab from ⟨fn_l_szSessS, trivial⟩)) Tryz.func7 (by kernel_rfl) (by kernel_rfl) (fun cx b hp hb => all_of (by kernel_rfl : loopsOf (Tryz.f7.body.getD .skip) = []) trivial b hb) (R := (YI)) (T := fun (d : aden P_l_szTab) => T_l_szTab d.1 d.2.1) e_l_szTab
def P_l_toByteS : List (Bool × List Sh) := [(false, [.sl 5 [.int .u8]])]
def O_l_toByteS (r : (YBs)) : List RV × List RV := ([rv (false, [.sl 5 [.int .u8]]) r], [])
def C_l_toByteS : Fns := []
def F_l_toByteS : Fun1 := funV P_l_toByteS (fun d => (T_l_toByteS d.1).val) O_l_toByteS
def K_l_toByteS_3 : Sk := ⟨[(0, .v false [(.sl 5 [.int .u8], .ro)]), (3, .v false [(.sl 5 [.int .u8], (.own 4000000))]), (4, .v false [(.int .i64, .nil)])], [], [4000000]⟩
def X_l_toByteS_3 : List (Ex × Sk) := [((.exit 0), ⟨[(3, .v false [(.sl 5 [.int .u8], (.own 4000000))])], [], [4000000]⟩)]
def Q_l_toByteS : Loops := fun i st => cond (Nat.beq i 3) (lam K_l_toByteS_3 4000000 X_l_toByteS_3 B_l_toByteS_3 st) <| .fail
theorem lp_l_toByteS_3 : ∀ d, bod ⟨lookT tys, ctrOf C_l_toByteS, kindOf C_l_toByteS, 3, 4⟩ 0 Tryz.f30.ntmps Q_l_toByteS (nthLoop Tryz.f30 0) K_l_toByteS_3 4000000 X_l_toByteS_3 d = B_l_toByteS_3 d := fun d => by kernel_rfl
theorem lo_l_toByteS_3 (cx : Cx) (hp : cx.pin.length ≤ 0) : LoopOk Tryz.prog cx Tryz.f30.ntmps Q_l_toByteS (nthLoop Tryz.f30 0) := loop_of (cfgOk_of mixed tys_ok (show FnsOk Tryz.prog C_l_toByteS from trivial)) hp (all_of (by kernel_rfl : loopsOf (nthLoop Tryz.f30 0) = []) trivial) (by kernel_rfl) lp_l_toByteS_3
theorem e_l_toByteS : ∀ d, pcall ⟨lookT tys, ctrOf C_l_toByteS, kindOf C_l_toByteS, 3, 4⟩ 0 Q_l_toByteS Tryz.f30 .plain (mkA P_l_toByteS d) = (T_l_toByteS d.1).run fun r => some (O_l_toByteS r) := fun d => by kernel_rfl
theorem fn_l_toByteS : Fn Tryz.prog 30 .plain F_l_toByteS := fn_of (cfgOk_of mixed tys_ok (show FnsOk Tryz.prog C_l_toByteS from trivial)) Tryz.func30 (by kernel_rfl) (by kernel_rfl) (fun cx b hp hb => all_of (by kernel_rfl : loopsOf (Tryz.f30.body.getD .skip) = [nthLoop Tryz.f30 0]) ⟨lo_l_toByteS_3 cx hp, trivial⟩ b hb) (R := (YBs)) (T := fun (d : aden P_l_toByteS) => T_l_toByteS d.1) e_l_toByteS
def P_l_toIntS : List (Bool × List Sh) := [(false, [.sl 3 [.int .i64]])]
def O_l_toIntS (r : ((List YI) × Unit)) : List RV × List RV := ([rv (false, [.sl 3 [.int .i64]]) r], [])
def C_l_toIntS : Fns := []
def F_l_toIntS : Fun1 := funV P_l_toIntS (fun d => (T_l_toIntS d.1).val) O_l_toIntS
def K_l_toIntS_3 : Sk := ⟨[(0, .v false [(.sl 3 [.int .i64], .ro)]), (3, .v false [(.sl 3 [.int .i64], (.own 4000000))]), (4, .v false [(.int .i64, .nil)])], [], [4000000]⟩
def X_l_toIntS_3 : List (Ex × Sk) := [((.exit 0), ⟨[(3, .v false [(.sl 3 [.int .i64], (.own 4000000))])], [], [4000000]⟩)]
def Q_l_toIntS : Loops := fun i st => cond (Nat.beq i 3) (lam K_l_toIntS_3 4000000 X_l_toIntS_3 B_l_toIntS_3 st) <| .fail
theorem lp_l_toIntS_3 : ∀ d, bod ⟨lookT tys, ctrOf C_l_toIntS, kindOf C_l_toIntS, 3, 4⟩ 0 Tryz.f313.ntmps Q_l_toIntS (nthLoop Tryz.f313 0) K_l_toIntS_3 4000000 X_l_toIntS_3 d = B_l_toIntS_3 d := fun d => by kernel_rfl
theorem lo_l_toIntS_3 (cx : Cx) (hp : cx.pin.length ≤ 0) : LoopOk Tryz.prog cx Tryz.f313.ntmps Q_l_toIntS (nthLoop Tryz.f313 0) := loop_of (cfgOk_of mixed tys_ok (show FnsOk Tryz.prog C_l_toIntS from trivial)) hp (all_of (by kernel_rfl : loopsOf (nthLoop Tryz.f313 0) = []) trivial) (by kernel_rfl) lp_l_toIntS_3
theorem e_l_toIntS : ∀ d, pcall ⟨lookT tys, ctrOf C_l_toIntS, kindOf C_l_toIntS, 3, 4⟩ 0 Q_l_toIntS Tryz.f313 .plain (mkA P_l_toIntS d) = (T_l_toIntS d.1).run fun r => some (O_l_toIntS r) := fun d => by kernel_rfl
theorem fn_l_toIntS : Fn Tryz.prog 313 .plain F_l_toIntS := fn_of (cfgOk_of mixed tys_ok (show FnsOk Tryz.prog C_l_toIntS from trivial)) Tryz.func313 (by kernel_rfl) (by kernel_rfl) (fun cx b hp hb => all_of (by kernel_rfl : loopsOf (Tryz.f313.body.getD .skip) = [nthLoop Tryz.f313 0]) ⟨lo_l_toIntS_3 cx hp, trivial⟩ b hb) (R := ((List YI) × Unit)) (T := fun (d : aden P_l_toIntS) => T_l_toIntS d.1) e_l_toIntS
def P_l_toWin : List (Bool × List Sh) := [(true, [.int .i64, .sl 3 [.int .i64]])]
def O_l_toWin (r : (YWin)) : List RV × List RV := ([rv (true, [.int .i64, .sl 3 [.int .i64]]) r], [])
def C_l_toWin : Fns := [(313, .plain, F_l_toIntS)]
def F_l_toWin : Fun1 := funV P_l_toWin (fun d => (T_l_toWin d.1).val) O_l_toWin
def Q_l_toWin : Loops := fun _ _ => .fail
theorem e_l_toWin : ∀ d, pcall ⟨lookT tys, ctrOf C_l_toWin, kindOf C_l_toWin, 3, 4⟩ 0 Q_l_toWin Tryz.f270 .plain (mkA P_l_toWin d) = (T_l_toWin d.1).run fun r => some (O_l_toWin r) := fun d => by kernel_rfl
theorem fn_l_toWin : Fn Tryz.prog 270 .plain F_l_toWin := fn_of (cfgOk_of mixed tys_ok (show FnsOk Tryz.prog C_l_toWin from ⟨fn_l_toIntS, trivial⟩)) Tryz.func270 (by kernel_rfl) (by kernel_rfl) (fun cx b hp hb => all_of (by kernel_rfl : loopsOf (Tryz.f270.body.getD .skip) = []) trivial b hb) (R := (YWin)) (T := fun (d : aden P_l_toWin) => T_l_toWin d.1) e_l_toWin
def P_l_toEp : List (Bool × List Sh) := [(true, h_4)]
def O_l_toEp (r : (YEp)) : List RV × List RV := ([rv (true, h_4) r], [])
def C_l_toEp : Fns := [(30, .plain, F_l_toByteS), (270, .plain, F_l_toWin)]
def F_l_toEp : Fun1 := funV P_l_toEp (fun d => (T_l_toEp d.1).val) O_l_toEp
def Q_l_toEp : Loops := fun _ _ => .fail
theorem e_l_toEp : ∀ d, pcall ⟨lookT tys, ctrOf C_l_toEp, kindOf C_l_toEp, 3, 4⟩ 0 Q_l_toEp Tryz.f196 .plain (mkA P_l_toEp d) = (T_l_toEp d.1).run fun r => some (O_l_toEp r) := fun d => by kernel_rfl
theorem fn_l_toEp : Fn Tryz.prog 196 .plain F_l_toEp := fn_of (cfgOk_of mixed tys_ok (show FnsOk Tryz.prog C_l_toEp from ⟨fn_l_toByteS, fn_l_toWin, trivial⟩)) Tryz.func196 (by kernel_rfl) (by kernel_rfl) (fun cx b hp hb => all_of (by kernel_rfl : loopsOf (Tryz.f196.body.getD .skip) = []) trivial b hb) (R := (YEp)) (T := fun (d : aden P_l_toEp) => T_l_toEp d.1) e_l_toEp
def P_l_toChan : List (Bool × List Sh) := [(true, h_10)]
def O_l_toChan (r : (YChan)) : List RV × List RV := ([rv (true, h_10) r], [])
def C_l_toChan : Fns := [(30, .plain, F_l_toByteS), (196, .plain, F_l_toEp)]
def F_l_toChan : Fun1 := funV P_l_toChan (fun d => (T_l_toChan d.1).val) O_l_toChan
def Q_l_toChan : Loops := fun _ _ => .fail
theorem e_l_toChan : ∀ d, pcall ⟨lookT tys, ctrOf C_l_toChan, kindOf C_l_toChan, 3, 4⟩ 0 Q_l_toChan Tryz.f103 .plain (mkA P_l_toChan d) = (T_l_toChan d.1).run fun r => some (O_l_toChan r) := fun d => by kernel_rfl
theorem fn_l_toChan : Fn Tryz.prog 103 .plain F_l_toChan := fn_of (cfgOk_of mixed tys_ok (show FnsOk Tryz.prog C_l_toChan from ⟨fn_l_toByteS, fn_l_toEp, trivial⟩)) Tryz.func103 (by kernel_rfl) (by kernel_rfl) (fun cx b hp hb => all_of (by kernel_rfl : loopsOf (Tryz.f103.body.getD .skip) = []) trivial b hb) (R := (YChan)) (T := fun (d : aden P_l_toChan) => T_l_toChan d.1) e_l_toChan
def P_l_toAddr : List (Bool × List Sh) := [(true, [.int .i64, .int .i64])]
def O_l_toAddr (r : (YAddr)) : List RV × List RV := ([rv (true, [.int .i64, .int .i64]) r], [])
def C_l_toAddr : Fns := []
def F_l_toAddr : Fun1 := funV P_l_toAddr (fun d => (T_l_toAddr d.1).val) O_l_toAddr
def Q_l_toAddr : Loops := fun _ _ => .fail
theorem e_l_toAddr : ∀ d, pcall ⟨lookT tys, ctrOf C_l_toAddr, kindOf C_l_toAddr, 3, 4⟩ 0 Q_l_toAddr Tryz.f28 .plain (mkA P_l_toAddr d) = (T_l_toAddr d.1).run fun r => some (O_l_toAddr r) := fun d => by kernel_rfl
theorem fn_l_toAddr : Fn Tryz.prog 28 .plain F_l_toAddr := fn_of (cfgOk_of mixed tys_ok (show FnsOk Tryz.prog C_l_toAddr from trivial)) Tryz.func28 (by kernel_rfl) (by kernel_rfl) (fun cx b hp hb => all_of (by kernel_rfl : loopsOf (Tryz.f28.body.getD .skip) = []) trivial b hb) (R := (YAddr)) (T := fun (d : aden P_l_toAddr) => T_l_toAddr d.1) e_l_toAddr
def P_l_toCand : List (Bool × List Sh) := [(true, h_3)]
def O_l_toCand (r : (YCand)) : List RV × List RV := ([rv (true, h_3) r], [])
def C_l_toCand : Fns := [(28, .plain, F_l_toAddr), (30, .plain, F_l_toByteS)]
def F_l_toCand : Fun1 := funV P_l_toCand (fun d => (T_l_toCand d.1).val) O_l_toCand
def Q_l_toCand : Loops := fun _ _ => .fail
theorem e_l_toCand : ∀ d, pcall ⟨lookT tys, ctrOf C_l_toCand, kindOf C_l_toCand, 3, 4⟩ 0 Q_l_toCand Tryz.f271 .plain (mkA P_l_toCand d) = (T_l_toCand d.1).run fun r => some (O_l_toCand r) := fun d => by kernel_rfl
theorem fn_l_toCand : Fn Tryz.prog 271 .plain F_l_toCand := fn_of (cfgOk_of mixed tys_ok (show FnsOk Tryz.prog C_l_toCand from ⟨fn_l_toAddr, fn_l_toByteS, trivial⟩)) Tryz.func271 (by kernel_rfl) (by kernel_rfl) (fun cx b hp hb => all_of (by kernel_rfl : loopsOf (Tryz.f271.body.getD .skip) = []) trivial b hb) (R := (YCand)) (T := fun (d : aden P_l_toCand) => T_l_toCand d.1) e_l_toCand
def P_l_toCandS : List (Bool × List Sh) := [(false, [.sl 263 h_3])]
def O_l_toCandS (r : ((List YCand) × Unit)) : List RV × List RV := ([rv (false, [.sl 224 h_3]) r], [])
def C_l_toCandS : Fns := [(271, .plain, F_l_toCand)]
def F_l_toCandS : Fun1 := funV P_l_toCandS (fun d => (T_l_toCandS d.1).val) O_l_toCandS
def K_l_toCandS_3 : Sk := ⟨[(0, .v false [(.sl 263 h_3, .ro)]), (3, .v false [(.sl 224 h_3, (.own 4000000))]), (4, .v false [(.int .i64, .nil)])], [], [4000000]⟩
def X_l_toCandS_3 : List (Ex × Sk) := [((.exit 0), ⟨[(3, .v false [(.sl 224 h_3, (.own 4000000))])], [], [4000000]⟩)]
def Q_l_toCandS : Loops := fun i st => cond (Nat.beq i 3) (lam K_l_toCandS_3 4000000 X_l_toCandS_3 B_l_toCandS_3 st) <| .fail
theorem lp_l_toCandS_3 : ∀ d, bod ⟨lookT tys, ctrOf C_l_toCandS, kindOf C_l_toCandS, 3, 4⟩ 0 Tryz.f197.ntmps Q_l_toCandS (nthLoop Tryz.f197 0) K_l_toCandS_3 4000000 X_l_toCandS_3 d = B_l_toCandS_3 d := fun d => by kernel_rfl
theorem lo_l_toCandS_3 (cx : Cx) (hp : cx.pin.length ≤ 0) : LoopOk Tryz.prog cx Tryz.f197.ntmps Q_l_toCandS (nthLoop Tryz.f197 0) := loop_of (cfgOk_of mixed tys_ok (show FnsOk Tryz.prog C_l_toCandS from ⟨fn_l_toCand, trivial⟩)) hp (all_of (by kernel_rfl : loopsOf (nthLoop Tryz.f197 0) = []) trivial) (by kernel_rfl) lp_l_toCandS_3
theorem e_l_toCandS : ∀ d, pcall ⟨lookT tys, ctrOf C_l_toCandS, kindOf C_l_toCandS, 3, 4⟩ 0 Q_l_toCandS Tryz.f197 .plain (mkA P_l_toCandS d) = (T_l_toCandS d.1).run fun r => some (O_l_toCandS r) := fun d => by kernel_rfl
theorem fn_l_toCandS : Fn Tryz.prog 197 .plain F_l_toCandS := fn_of (cfgOk_of mixed tys_ok (show FnsOk Tryz.prog C_l_toCandS from ⟨fn_l_toCand, trivial⟩)) Tryz.func197 (by kernel_rfl) (by kernel_rfl) (fun cx b hp hb => all_of (by kernel_rfl : loopsOf (Tryz.f197.body.getD .skip) = [nthLoop Tryz.f197 0]) ⟨lo_l_toCandS_3 cx hp, trivial⟩ b hb) (R := ((List YCand) × Unit)) (T := fun (d : aden P_l_toCandS) => T_l_toCandS d.1) e_l_toCandS
def P_l_toPaths : List (Bool × List Sh) := [(true, h_5)]
def O_l_toPaths (r : (YPaths)) : List RV × List RV := ([rv (true, h_6) r], [])
def C_l_toPaths : Fns := [(28, .plain, F_l_toAddr), (197, .plain, F_l_toCandS)]
def F_l_toPaths : Fun1 := funV P_l_toPaths (fun d => (T_l_toPaths d.1).val) O_l_toPaths
def Q_l_toPaths : Loops := fun _ _ => .fail
theorem e_l_toPaths : ∀ d, pcall ⟨lookT tys, ctrOf C_l_toPaths, kindOf C_l_toPaths, 3, 4⟩ 0 Q_l_toPaths Tryz.f104 .plain (mkA P_l_toPaths d) = (T_l_toPaths d.1).run fun r => some (O_l_toPaths r) := fun d => by kernel_rfl
theorem fn_l_toPaths : Fn Tryz.prog 104 .plain F_l_toPaths := fn_of (cfgOk_of mixed tys_ok (show FnsOk Tryz.prog C_l_toPaths from ⟨fn_l_toAddr, fn_l_toCandS, trivial⟩)) Tryz.func104 (by kernel_rfl) (by kernel_rfl) (fun cx b hp hb => all_of (by kernel_rfl : loopsOf (Tryz.f104.body.getD .skip) = []) trivial b hb) (R := (YPaths)) (T := fun (d : aden P_l_toPaths) => T_l_toPaths d.1) e_l_toPaths
def P_l_toSess : List (Bool × List Sh) := [(true, h_11)]
def O_l_toSess (r : (YSess)) : List RV × List RV := ([rv (true, h_12) r], [])
def C_l_toSess : Fns := [(30, .plain, F_l_toByteS), (103, .plain, F_l_toChan), (104, .plain, F_l_toPaths)]
def F_l_toSess : Fun1 := funV P_l_toSess (fun d => (T_l_toSess d.1).val) O_l_toSess
def Q_l_toSess : Loops := fun _ _ => .fail
theorem e_l_toSess : ∀ d, pcall ⟨lookT tys, ctrOf C_l_toSess, kindOf C_l_toSess, 3, 4⟩ 0 Q_l_toSess Tryz.f27 .plain (mkA P_l_toSess d) = (T_l_toSess d.1).run fun r => some (O_l_toSess r) := fun d => by kernel_rfl
theorem fn_l_toSess : Fn Tryz.prog 27 .plain F_l_toSess := fn_of (cfgOk_of mixed tys_ok (show FnsOk Tryz.prog C_l_toSess from ⟨fn_l_toByteS, fn_l_toChan, fn_l_toPaths, trivial⟩)) Tryz.func27 (by kernel_rfl) (by kernel_rfl) (fun cx b hp hb => all_of (by kernel_rfl : loopsOf (Tryz.f27.body.getD .skip) = []) trivial b hb) (R := (YSess)) (T := fun (d : aden P_l_toSess) => T_l_toSess d.1) e_l_toSess
def P_l_toSessS : List (Bool × List Sh) := [(false, [.sl 71 h_11])]
def O_l_toSessS (r : ((List YSess) × Unit)) : List RV × List RV := ([rv (false, [.sl 86 h_12]) r], [])
def C_l_toSessS : Fns := [(27, .plain, F_l_toSess)]
def F_l_toSessS : Fun1 := funV P_l_toSessS (fun d => (T_l_toSessS d.1).val) O_l_toSessS
def K_l_toSessS_3 : Sk := ⟨[(0, .v false [(.sl 71 h_11, .ro)]), (3, .v false [(.sl 86 h_12, (.own 4000000))]), (4, .v false [(.int .i64, .nil)])], [], [4000000]⟩
def X_l_toSessS_3 : List (Ex × Sk) := [((.exit 0), ⟨[(3, .v false [(.sl 86 h_12, (.own 4000000))])], [], [4000000]⟩)]
def Q_l_toSessS : Loops := fun i st => cond (Nat.beq i 3) (lam K_l_toSessS_3 4000000 X_l_toSessS_3 B_l_toSessS_3 st) <| .fail
theorem lp_l_toSessS_3 : ∀ d, bod ⟨lookT tys, ctrOf C_l_toSessS, kindOf C_l_toSessS, 3, 4⟩ 0 Tryz.f49.ntmps Q_l_toSessS (nthLoop Tryz.f49 0) K_l_toSessS_3 4000000 X_l_toSessS_3 d = B_l_toSessS_3 d := fun d => by kernel_rfl
theorem lo_l_toSessS_3 (cx : Cx) (hp : cx.pin.length ≤ 0) : LoopOk Tryz.prog cx Tryz.f49.ntmps Q_l_toSessS (nthLoop Tryz.f49 0) := loop_of (cfgOk_of mixed tys_ok (show FnsOk Tryz.prog C_l_toSessS from ⟨fn_l_toSess, trivial⟩)) hp (all_of (by kernel_rfl : loopsOf (nthLoop Tryz.f49 0) = []) trivial) (by kernel_rfl) lp_l_toSessS_3
theorem e_l_toSessS : ∀ d, pcall ⟨lookT tys, ctrOf C_l_toSessS, kindOf C_l_toSessS, 3, 4⟩ 0 Q_l_toSessS Tryz.f49 .plain (mkA P_l_toSessS d) = (T_l_toSessS d.1).run fun r => some (O_l_toSessS r) := fun d => by kernel_rfl
theorem fn_l_toSessS : Fn Tryz.prog 49 .plain F_l_toSessS := fn_of (cfgOk_of mixed tys_ok (show FnsOk Tryz.prog C_l_toSessS from ⟨fn_l_toSess, trivial⟩)) Tryz.func49 (by kernel_rfl) (by kernel_rfl) (fun cx b hp hb => all_of (by kernel_rfl : loopsOf (Tryz.f49.body.getD .skip) = [nthLoop Tryz.f49 0]) ⟨lo_l_toSessS_3 cx hp, trivial⟩ b hb) (R := ((List YSess) × Unit)) (T := fun (d : aden P_l_toSessS) => T_l_toSessS d.1) e_l_toSessS
def P_l_toTab : List (Bool × List Sh) := [(true, [.int .i64, .sl 71 h_11])]
def O_l_toTab (r : (YTab)) : List RV × List RV := ([rv (true, [.int .i64, .sl 86 h_12]) r], [])
def C_l_toTab : Fns := [(49, .plain, F_l_toSessS)]
def F_l_toTab : Fun1 := funV P_l_toTab (fun d => (T_l_toTab d.1).val) O_l_toTab
def Q_l_toTab : Loops := fun _ _ => .fail
theorem e_l_toTab : ∀ d, pcall ⟨lookT tys, ctrOf C_l_toTab, kindOf C_l_toTab, 3, 4⟩ 0 Q_l_toTab Tryz.f9 .plain (mkA P_l_toTab d) = (T_l_toTab d.1).run fun r => some (O_l_toTab r) := fun d => by kernel_rfl
theorem fn_l_toTab : Fn Tryz.prog 9 .plain F_l_toTab := fn_of (cfgOk_of mixed tys_ok (show FnsOk Tryz.prog C_l_toTab from ⟨fn_l_toSessS, trivial⟩)) Tryz.func9 (by kernel_rfl) (by kernel_rfl) (fun cx b hp hb => all_of (by kernel_rfl : loopsOf (Tryz.f9.body.getD .skip) = []) trivial b hb) (R := (YTab)) (T := fun (d : aden P_l_toTab) => T_l_toTab d.1) e_l_toTab
def P_s_l1In : List (Bool × List Sh) := [(false, [.int .i64]), (false, [.int .i64]), (false, [.int .i64])]
def O_s_l1In (r : (Bool × Unit)) : List RV × List RV := ([rv (false, [.bool]) r], [])
def C_s_l1In : Fns := []
def F_s_l1In : Fun1 := funV P_s_l1In (fun d => (T_s_l1In d.1 d.2.1 d.2.2.1).val) O_s_l1In
def Q_s_l1In : Loops := fun _ _ => .fail
theorem e_s_l1In : ∀ d, pcall ⟨lookT tys, ctrOf C_s_l1In, kindOf C_s_l1In, 3, 4⟩ 0 Q_s_l1In Tryz.f46 .plain (mkA P_s_l1In d) = (T_s_l1In d.1 d.2.1 d.2.2.1).run fun r => some (O_s_l1In r) := fun d => by kernel_rfl
theorem fn_s_l1In : Fn Tryz.prog 46 .plain F_s_l1In := fn_of (cfgOk_of mixed tys_ok (show FnsOk Tryz.prog C_s_l1In from trivial)) Tryz.func46 (by kernel_rfl) (by kernel_rfl) (fun cx b hp hb => all_of (by kernel_rfl : loopsOf (Tryz.f46.body.getD .skip) = []) trivial b hb) (R := (Bool × Unit)) (T := fun (d : aden P_s_l1In) => T_s_l1In d.1 d.2.1 d.2.2.1) e_s_l1In
def P_s_Live : List (Bool × List Sh) := [(true, [.int .i64, .sl 86 h_12])]
def O_s_Live (r : (YI)) : List RV × List RV := ([rv (false, [.int .i64]) r], [])
def C_s_Live : Fns := []
def F_s_Live : Fun1 := funV P_s_Live (fun d => (T_s_Live d.1).val) O_s_Live
def K_s_Live_3 : Sk := ⟨[(1, .box 1 0), (3, .v false [(.int .i64, .nil)]), (4, .v false [(.int .i64, .nil)])], [(1, [(.int .i64, .nil), (.sl 86 h_12, .ro)])], []⟩
def X_s_Live_3 : List (Ex × Sk) := [((.exit 0), ⟨[(3, .v false [(.int .i64, .nil)])], [], []⟩)]
def Q_s_Live : Loops := fun i st => cond (Nat.beq i 3) (lam K_s_Live_3 4000000 X_s_Live_3 B_s_Live_3 st) <| .fail
theorem lp_s_Live_3 : ∀ d, bod ⟨lookT tys, ctrOf C_s_Live, kindOf C_s_Live, 3, 4⟩ 0 Tryz.f152.ntmps Q_s_Live (nthLoop Tryz.f152 0) K_s_Live_3 4000000 X_s_Live_3 d = B_s_Live_3 d := fun d => by kernel_rfl
theorem lo_s_Live_3 (cx : Cx) (hp : cx.pin.length ≤ 0) : LoopOk Tryz.prog cx Tryz.f152.ntmps Q_s_Live (nthLoop Tryz.f152 0) := loop_of (cfgOk_of mixed tys_ok (show FnsOk Tryz.prog C_s_Live from trivial)) hp (all_of (by kernel_rfl : loopsOf (nthLoop Tryz.f152 0) = []) trivial) (by kernel_rfl) lp_s_Live_3
theorem e_s_Live : ∀ d, pcall ⟨lookT tys, ctrOf C_s_Live, kindOf C_s_Live, 3, 4⟩ 0 Q_s_Live Tryz.f152 .plain (mkA P_s_Live d) = (T_s_Live d.1).run fun r => some (O_s_Live r) := fun d => by kernel_rfl
theorem fn_s_Live : Fn Tryz.prog 152 .plain F_s_Live := fn_of (cfgOk_of mixed tys_ok (show FnsOk Tryz.prog C_s_Live from trivial)) Tryz.func152 (by kernel_rfl) (by kernel_rfl) (fun cx b hp hb => all_of (by kernel_rfl : loopsOf (Tryz.f152.body.getD .skip) = [nthLoop Tryz.f152 0]) ⟨lo_s_Live_3 cx hp, trivial⟩ b hb) (R := (YI)) (T := fun (d : aden P_s_Live) => T_s_Live d.1) e_s_Live
def P_s_l14None : List (Bool × List Sh) := [(true, h_4)]
def O_s_l14None (r : (Bool × Unit)) : List RV × List RV := ([rv (false, [.bool]) r], [])
def C_s_l14None : Fns := []
def F_s_l14None : Fun1 := funV P_s_l14None (fun d => (T_s_l14None d.1).val) O_s_l14None
def Q_s_l14None : Loops := fun _ _ => .fail
theorem e_s_l14None : ∀ d, pcall ⟨lookT tys, ctrOf C_s_l14None, kindOf C_s_l14None, 3, 4⟩ 0 Q_s_l14None Tryz.f262 .plain (mkA P_s_l14None d) = (T_s_l14None d.1).run fun r => some (O_s_l14None r) := fun d => by kernel_rfl
theorem fn_s_l14None : Fn Tryz.prog 262 .plain F_s_l14None := fn_of (cfgOk_of mixed tys_ok (show FnsOk Tryz.prog C_s_l14None from trivial)) Tryz.func262 (by kernel_rfl) (by kernel_rfl) (fun cx b hp hb => all_of (by kernel_rfl : loopsOf (Tryz.f262.body.getD .skip) = []) trivial b hb) (R := (Bool × Unit)) (T := fun (d : aden P_s_l14None) => T_s_l14None d.1) e_s_l14None
def P_s_l19NoChan : List (Bool × List Sh) := [(true, h_10)]
def O_s_l19NoChan (r : (Bool × Unit)) : List RV × List RV := ([rv (false, [.bool]) r], [])
def C_s_l19NoChan : Fns := [(262, .plain, F_s_l14None)]
def F_s_l19NoChan : Fun1 := funV P_s_l19NoChan (fun d => (T_s_l19NoChan d.1).val) O_s_l19NoChan
def Q_s_l19NoChan : Loops := fun _ _ => .fail
theorem e_s_l19NoChan : ∀ d, pcall ⟨lookT tys, ctrOf C_s_l19NoChan, kindOf C_s_l19NoChan, 3, 4⟩ 0 Q_s_l19NoChan Tryz.f183 .plain (mkA P_s_l19NoChan d) = (T_s_l19NoChan d.1).run fun r => some (O_s_l19NoChan r) := fun d => by kernel_rfl
theorem fn_s_l19NoChan : Fn Tryz.prog 183 .plain F_s_l19NoChan := fn_of (cfgOk_of mixed tys_ok (show FnsOk Tryz.prog C_s_l19NoChan from ⟨fn_s_l14None, trivial⟩)) Tryz.func183 (by kernel_rfl) (by kernel_rfl) (fun cx b hp hb => all_of (by kernel_rfl : loopsOf (Tryz.f183.body.getD .skip) = []) trivial b hb) (R := (Bool × Unit)) (T := fun (d : aden P_s_l19NoChan) => T_s_l19NoChan d.1) e_s_l19NoChan
def P_s_Near : List (Bool × List Sh) := [(false, [.int .i64])]
def O_s_Near (r : (YAddr)) : List RV × List RV := ([rv (true, [.int .i64, .int .i64]) r], [])
def C_s_Near : Fns := [(46, .plain, F_s_l1In)]
def F_s_Near : Fun1 := funV P_s_Near (fun d => (T_s_Near d.1).val) O_s_Near
def Q_s_Near : Loops := fun _ _ => .fail
theorem e_s_Near : ∀ d, pcall ⟨lookT tys, ctrOf C_s_Near, kindOf C_s_Near, 3, 4⟩ 0 Q_s_Near Tryz.f184 .plain (mkA P_s_Near d) = (T_s_Near d.1).run fun r => some (O_s_Near r) := fun d => by kernel_rfl
theorem fn_s_Near : Fn Tryz.prog 184 .plain F_s_Near := fn_of (cfgOk_of mixed tys_ok (show FnsOk Tryz.prog C_s_Near from ⟨fn_s_l1In, trivial⟩)) Tryz.func184 (by kernel_rfl) (by kernel_rfl) (fun cx b hp hb => all_of (by kernel_rfl : loopsOf (Tryz.f184.body.getD .skip) = []) trivial b hb) (R := (YAddr)) (T := fun (d : aden P_s_Near) => T_s_Near d.1) e_s_Near
def P_s_l8Bit : List (Bool × List Sh) := [(true, [.int .i64, .sl 3 [.int .i64]]), (false, [.int .i64])]
def O_s_l8Bit (r : (Bool × Unit)) : List RV × List RV := ([rv (false, [.bool]) r], [])
def C_s_l8Bit : Fns := []
def F_s_l8Bit : Fun1 := funV P_s_l8Bit (fun d => (T_s_l8Bit d.1 d.2.1).val) O_s_l8Bit
def Q_s_l8Bit : Loops := fun _ _ => .fail
theorem e_s_l8Bit : ∀ d, pcall ⟨lookT tys, ctrOf C_s_l8Bit, kindOf C_s_l8Bit, 3, 4⟩ 0 Q_s_l8Bit Tryz.f311 .plain (mkA P_s_l8Bit d) = (T_s_l8Bit d.1 d.2.1).run fun r => some (O_s_l8Bit r) := fun d => by kernel_rfl
theorem fn_s_l8Bit : Fn Tryz.prog 311 .plain F_s_l8Bit := fn_of (cfgOk_of mixed tys_ok (show FnsOk Tryz.prog C_s_l8Bit from trivial)) Tryz.func311 (by kernel_rfl) (by kernel_rfl) (fun cx b hp hb => all_of (by kernel_rfl : loopsOf (Tryz.f311.body.getD .skip) = []) trivial b hb) (R := (Bool × Unit)) (T := fun (d : aden P_s_l8Bit) => T_s_l8Bit d.1 d.2.1) e_s_l8Bit
def P_s_WinOk : List (Bool × List Sh) := [(true, [.int .i64, .sl 3 [.int .i64]])]
def O_s_WinOk (r : (Bool × Unit)) : List RV × List RV := ([rv (false, [.bool]) r], [])
def C_s_WinOk : Fns := [(46, .plain, F_s_l1In), (311, .plain, F_s_l8Bit)]
def F_s_WinOk : Fun1 := funV P_s_WinOk (fun d => (T_s_WinOk d.1).val) O_s_WinOk
def K_s_WinOk_11 : Sk := ⟨[(1, .box 1 0), (4, .v false [(.int .i64, .nil)])], [(1, [(.int .i64, .nil), (.sl 3 [.int .i64], .ro)])], []⟩
def X_s_WinOk_11 : List (Ex × Sk) := [(.ret, ⟨[(2, .v false [(.bool, .nil)])], [], []⟩), ((.exit 2), ⟨[], [], []⟩)]
def K_s_WinOk_4 : Sk := ⟨[(1, .box 1 0), (3, .v false [(.int .i64, .nil)])], [(1, [(.int .i64, .nil), (.sl 3 [.int .i64], .ro)])], []⟩
def X_s_WinOk_4 : List (Ex × Sk) := [(.ret, ⟨[(2, .v false [(.bool, .nil)])], [], []⟩), ((.exit 0), ⟨[(1, .box 1 0)], [(1, [(.int .i64, .nil), (.sl 3 [.int .i64], .ro)])], []⟩)]
def Q_s_WinOk : Loops := fun i st => cond (Nat.beq i 4) (lam K_s_WinOk_4 5000000 X_s_WinOk_4 B_s_WinOk_4 st) <| cond (Nat.beq i 11) (lam K_s_WinOk_11 12000000 X_s_WinOk_11 B_s_WinOk_11 st) <| .fail
theorem lp_s_WinOk_4 : ∀ d, bod ⟨lookT tys, ctrOf C_s_WinOk, kindOf C_s_WinOk, 3, 4⟩ 0 Tryz.f309.ntmps Q_s_WinOk (nthLoop Tryz.f309 0) K_s_WinOk_4 5000000 X_s_WinOk_4 d = B_s_WinOk_4 d := fun d => by kernel_rfl
theorem lo_s_WinOk_4 (cx : Cx) (hp : cx.pin.length ≤ 0) : LoopOk Tryz.prog cx Tryz.f309.ntmps Q_s_WinOk (nthLoop Tryz.f309 0) := loop_of (cfgOk_of mixed tys_ok (show FnsOk Tryz.prog C_s_WinOk from ⟨fn_s_l1In, fn_s_l8Bit, trivial⟩)) hp (all_of (by kernel_rfl : loopsOf (nthLoop Tryz.f309 0) = []) trivial) (by kernel_rfl) lp_s_WinOk_4
theorem lp_s_WinOk_11 : ∀ d, bod ⟨lookT tys, ctrOf C_s_WinOk, kindOf C_s_WinOk, 3, 4⟩ 0 Tryz.f309.ntmps Q_s_WinOk (nthLoop Tryz.f309 1) K_s_WinOk_11 12000000 X_s_WinOk_11 d = B_s_WinOk_11 d := fun d => by kernel_rfl
theorem lo_s_WinOk_11 (cx : Cx) (hp : cx.pin.length ≤ 0) : LoopOk Tryz.prog cx Tryz.f309.ntmps Q_s_WinOk (nthLoop Tryz.f309 1) := loop_of (cfgOk_of mixed tys_ok (show FnsOk Tryz.prog C_s_WinOk from ⟨fn_s_l1In, fn_s_l8Bit, trivial⟩)) hp (all_of (by kernel_rfl : loopsOf (nthLoop Tryz.f309 1) = []) trivial) (by kernel_rfl) lp_s_WinOk_11
theorem e_s_WinOk : ∀ d, pcall ⟨lookT tys, ctrOf C_s_WinOk, kindOf C_s_WinOk, 3, 4⟩ 0 Q_s_WinOk Tryz.f309 .plain (mkA P_s_WinOk d) = (T_s_WinOk d.1).run fun r => some (O_s_WinOk r) := fun d => by kernel_rfl
theorem fn_s_WinOk : Fn Tryz.prog 309 .plain F_s_WinOk := fn_of (cfgOk_of mixed tys_ok (show FnsOk Tryz.prog C_s_WinOk from ⟨fn_s_l1In, fn_s_l8Bit, trivial⟩)) Tryz.func309 (by kernel_rfl) (by kernel_rfl) (fun cx b hp hb => all_of (by kernel_rfl : loopsOf (Tryz.f309.body.getD .skip) = [nthLoop Tryz.f309 0, nthLoop Tryz.f309 1]) ⟨lo_s_WinOk_4 cx hp, lo_s_WinOk_11 cx hp, trivial⟩ b hb) (R := (Bool × Unit)) (T := fun (d : aden P_s_WinOk) => T_s_WinOk d.1) e_s_WinOk
def P_s_EpOk : List (Bool × List Sh) := [(true, h_4)]
def O_s_EpOk (r : (Bool × Unit)) : List RV × List RV := ([rv (false, [.bool]) r], [])
def C_s_EpOk : Fns := [(46, .plain, F_s_l1In), (309, .plain, F_s_WinOk)]
def F_s_EpOk : Fun1 := funV P_s_EpOk (fun d => (T_s_EpOk d.1).val) O_s_EpOk
def Q_s_EpOk : Loops := fun _ _ => .fail
theorem e_s_EpOk : ∀ d, pcall ⟨lookT tys, ctrOf C_s_EpOk, kindOf C_s_EpOk, 3, 4⟩ 0 Q_s_EpOk Tryz.f263 .plain (mkA P_s_EpOk d) = (T_s_EpOk d.1).run fun r => some (O_s_EpOk r) := fun d => by kernel_rfl
theorem fn_s_EpOk : Fn Tryz.prog 263 .plain F_s_EpOk := fn_of (cfgOk_of mixed tys_ok (show FnsOk Tryz.prog C_s_EpOk from ⟨fn_s_l1In, fn_s_WinOk, trivial⟩)) Tryz.func263 (by kernel_rfl) (by kernel_rfl) (fun cx b hp hb => all_of (by kernel_rfl : loopsOf (Tryz.f263.body.getD .skip) = []) trivial b hb) (R := (Bool × Unit)) (T := fun (d : aden P_s_EpOk) => T_s_EpOk d.1) e_s_EpOk
def P_s_ChanOk : List (Bool × List Sh) := [(true, h_10)]
def O_s_ChanOk (r : (Bool × Unit)) : List RV × List RV := ([rv (false, [.bool]) r], [])
def C_s_ChanOk : Fns := [(46, .plain, F_s_l1In), (263, .plain, F_s_EpOk), (262, .plain, F_s_l14None)]
def F_s_ChanOk : Fun1 := funV P_s_ChanOk (fun d => (T_s_ChanOk d.1).val) O_s_ChanOk
def Q_s_ChanOk : Loops := fun _ _ => .fail
theorem e_s_ChanOk : ∀ d, pcall ⟨lookT tys, ctrOf C_s_ChanOk, kindOf C_s_ChanOk, 3, 4⟩ 0 Q_s_ChanOk Tryz.f185 .plain (mkA P_s_ChanOk d) = (T_s_ChanOk d.1).run fun r => some (O_s_ChanOk r) := fun d => by kernel_rfl
theorem fn_s_ChanOk : Fn Tryz.prog 185 .plain F_s_ChanOk := fn_of (cfgOk_of mixed tys_ok (show FnsOk Tryz.prog C_s_ChanOk from ⟨fn_s_l1In, fn_s_EpOk, fn_s_l14None, trivial⟩)) Tryz.func185 (by kernel_rfl) (by kernel_rfl) (fun cx b hp hb => all_of (by kernel_rfl : loopsOf (Tryz.f185.body.getD .skip) = []) trivial b hb) (R := (Bool × Unit)) (T := fun (d : aden P_s_ChanOk) => T_s_ChanOk d.1) e_s_ChanOk
def P_s_l1Same : List (Bool × List Sh) := [(false, [.sl 5 [.int .u8]]), (false, [.sl 5 [.int .u8]])]
def O_s_l1Same (r : (Bool × Unit)) : List RV × List RV := ([rv (false, [.bool]) r], [])
def C_s_l1Same : Fns := []
def F_s_l1Same : Fun1 := funV P_s_l1Same (fun d => (T_s_l1Same d.1 d.2.1).val) O_s_l1Same
def Q_s_l1Same : Loops := fun _ _ => .fail
theorem e_s_l1Same : ∀ d, pcall ⟨lookT tys, ctrOf C_s_l1Same, kindOf C_s_l1Same, 3, 4⟩ 0 Q_s_l1Same Tryz.f139 .plain (mkA P_s_l1Same d) = (T_s_l1Same d.1 d.2.1).run fun r => some (O_s_l1Same r) := fun d => by kernel_rfl
theorem fn_s_l1Same : Fn Tryz.prog 139 .plain F_s_l1Same := fn_of (cfgOk_of mixed tys_ok (show FnsOk Tryz.prog C_s_l1Same from trivial)) Tryz.func139 (by kernel_rfl) (by kernel_rfl) (fun cx b hp hb => all_of (by kernel_rfl : loopsOf (Tryz.f139.body.getD .skip) = []) trivial b hb) (R := (Bool × Unit)) (T := fun (d : aden P_s_l1Same) => T_s_l1Same d.1 d.2.1) e_s_l1Same
def P_s_AddrOk : List (Bool × List Sh) := [(true, [.int .i64, .int .i64])]
def O_s_AddrOk (r : (Bool × Unit)) : List RV × List RV := ([rv (false, [.bool]) r], [])
def C_s_AddrOk : Fns := [(46, .plain, F_s_l1In)]
def F_s_AddrOk : Fun1 := funV P_s_AddrOk (fun d => (T_s_AddrOk d.1).val) O_s_AddrOk
def Q_s_AddrOk : Loops := fun _ _ => .fail
theorem e_s_AddrOk : ∀ d, pcall ⟨lookT tys, ctrOf C_s_AddrOk, kindOf C_s_AddrOk, 3, 4⟩ 0 Q_s_AddrOk Tryz.f92 .plain (mkA P_s_AddrOk d) = (T_s_AddrOk d.1).run fun r => some (O_s_AddrOk r) := fun d => by kernel_rfl
theorem fn_s_AddrOk : Fn Tryz.prog 92 .plain F_s_AddrOk := fn_of (cfgOk_of mixed tys_ok (show FnsOk Tryz.prog C_s_AddrOk from ⟨fn_s_l1In, trivial⟩)) Tryz.func92 (by kernel_rfl) (by kernel_rfl) (fun cx b hp hb => all_of (by kernel_rfl : loopsOf (Tryz.f92.body.getD .skip) = []) trivial b hb) (R := (Bool × Unit)) (T := fun (d : aden P_s_AddrOk) => T_s_AddrOk d.1) e_s_AddrOk
def P_s_PathsOk : List (Bool × List Sh) := [(true, h_6)]
def O_s_PathsOk (r : (Bool × Unit)) : List RV × List RV := ([rv (false, [.bool]) r], [])
def C_s_PathsOk : Fns := [(92, .plain, F_s_AddrOk), (46, .plain, F_s_l1In)]
def F_s_PathsOk : Fun1 := funV P_s_PathsOk (fun d => (T_s_PathsOk d.1).val) O_s_PathsOk
def K_s_PathsOk_4 : Sk := ⟨[(1, .box 1 0), (3, .v false [(.int .i64, .nil)])], [(1, [(.int .i64, .nil), (.int .i64, .nil), (.sl 224 h_3, .ro)])], []⟩
def X_s_PathsOk_4 : List (Ex × Sk) := [(.ret, ⟨[(2, .v false [(.bool, .nil)])], [], []⟩), ((.exit 0), ⟨[], [], []⟩)]
def K_s_PathsOk_10 : Sk := ⟨[(1, .box 1 0), (3, .v false [(.int .i64, .nil)]), (4, .box 4 0), (5, .v false [(.int .i64, .nil)])], [(1, [(.int .i64, .nil), (.int .i64, .nil), (.sl 224 h_3, .ro)]), (4, [(.int .i64, .nil), (.int .i64, .nil), (.sl 5 [.int .u8], .ro), (.int .i64, .nil)])], []⟩
def X_s_PathsOk_10 : List (Ex × Sk) := [(.ret, ⟨[(2, .v false [(.bool, .nil)])], [], []⟩), ((.exit 2), ⟨[(1, .box 1 0), (3, .v false [(.int .i64, .nil)])], [(1, [(.int .i64, .nil), (.int .i64, .nil), (.sl 224 h_3, .ro)])], []⟩)]
def Q_s_PathsOk : Loops := fun i st => cond (Nat.beq i 10) (lam K_s_PathsOk_10 11000000 X_s_PathsOk_10 B_s_PathsOk_10 st) <| cond (Nat.beq i 4) (lam K_s_PathsOk_4 5000000 X_s_PathsOk_4 B_s_PathsOk_4 st) <| .fail
theorem lp_s_PathsOk_10 : ∀ d, bod ⟨lookT tys, ctrOf C_s_PathsOk, kindOf C_s_PathsOk, 3, 4⟩ 0 Tryz.f186.ntmps Q_s_PathsOk (nthLoop Tryz.f186 1) K_s_PathsOk_10 11000000 X_s_PathsOk_10 d = B_s_PathsOk_10 d := fun d => by kernel_rfl
theorem lo_s_PathsOk_10 (cx : Cx) (hp : cx.pin.length ≤ 0) : LoopOk Tryz.prog cx Tryz.f186.ntmps Q_s_PathsOk (nthLoop Tryz.f186 1) := loop_of (cfgOk_of mixed tys_ok (show FnsOk Tryz.prog C_s_PathsOk from ⟨fn_s_AddrOk, fn_s_l1In, trivial⟩)) hp (all_of (by kernel_rfl : loopsOf (nthLoop Tryz.f186 1) = []) trivial) (by kernel_rfl) lp_s_PathsOk_10
theorem lp_s_PathsOk_4 : ∀ d, bod ⟨lookT tys, ctrOf C_s_PathsOk, kindOf C_s_PathsOk, 3, 4⟩ 0 Tryz.f186.ntmps Q_s_PathsOk (nthLoop Tryz.f186 0) K_s_PathsOk_4 5000000 X_s_PathsOk_4 d = B_s_PathsOk_4 d := fun d => by kernel_rfl
theorem lo_s_PathsOk_4 (cx : Cx) (hp : cx.pin.length ≤ 0) : LoopOk Tryz.prog cx Tryz.f186.ntmps Q_s_PathsOk (nthLoop Tryz.f186 0) := loop_of (cfgOk_of mixed tys_ok (show FnsOk Tryz.prog C_s_PathsOk from ⟨fn_s_AddrOk, fn_s_l1In, trivial⟩)) hp (all_of (by kernel_rfl : loopsOf (nthLoop Tryz.f186 0) = [nthLoop Tryz.f186 1]) ⟨lo_s_PathsOk_10 cx hp, trivial⟩) (by kernel_rfl) lp_s_PathsOk_4
theorem e_s_PathsOk : ∀ d, pcall ⟨lookT tys, ctrOf C_s_PathsOk, kindOf C_s_PathsOk, 3, 4⟩ 0 Q_s_PathsOk Tryz.f186 .plain (mkA P_s_PathsOk d) = (T_s_PathsOk d.1).run fun r => some (O_s_PathsOk r) := fun d => by kernel_rfl
theorem fn_s_PathsOk : Fn Tryz.prog 186 .plain F_s_PathsOk := fn_of (cfgOk_of mixed tys_ok (show FnsOk Tryz.prog C_s_PathsOk from ⟨fn_s_AddrOk, fn_s_l1In, trivial⟩)) Tryz.func186 (by kernel_rfl) (by kernel_rfl) (fun cx b hp hb => all_of (by kernel_rfl : loopsOf (Tryz.f186.body.getD .skip) = [nthLoop Tryz.f186 0]) ⟨lo_s_PathsOk_4 cx hp, trivial⟩ b hb) (R := (Bool × Unit)) (T := fun (d : aden P_s_PathsOk) => T_s_PathsOk d.1) e_s_PathsOk
def P_s_SessOk : List (Bool × List Sh) := [(true, h_12)]
def O_s_SessOk (r : (Bool × Unit)) : List RV × List RV := ([rv (false, [.bool]) r], [])
def C_s_SessOk : Fns := [(46, .plain, F_s_l1In), (183, .plain, F_s_l19NoChan), (184, .plain, F_s_Near), (185, .plain, F_s_ChanOk), (139, .plain, F_s_l1Same), (186, .plain, F_s_PathsOk)]
def F_s_SessOk : Fun1 := funV P_s_SessOk (fun d => (T_s_SessOk d.1).val) O_s_SessOk
def Q_s_SessOk : Loops := fun _ _ => .fail
theorem e_s_SessOk : ∀ d, pcall ⟨lookT tys, ctrOf C_s_SessOk, kindOf C_s_SessOk, 3, 4⟩ 0 Q_s_SessOk Tryz.f91 .plain (mkA P_s_SessOk d) = (T_s_SessOk d.1).run fun r => some (O_s_SessOk r) := fun d => by kernel_rfl
theorem fn_s_SessOk : Fn Tryz.prog 91 .plain F_s_SessOk := fn_of (cfgOk_of mixed tys_ok (show FnsOk Tryz.prog C_s_SessOk from ⟨fn_s_l1In, fn_s_l19NoChan, fn_s_Near, fn_s_ChanOk, fn_s_l1Same, fn_s_PathsOk, trivial⟩)) Tryz.func91 (by kernel_rfl) (by kernel_rfl) (fun cx b hp hb => all_of (by kernel_rfl : loopsOf (Tryz.f91.body.getD .skip) = []) trivial b hb) (R := (Bool × Unit)) (T := fun (d : aden P_s_SessOk) => T_s_SessOk d.1) e_s_SessOk
def P_s_FindSn : List (Bool × List Sh) := [(true, [.int .i64, .sl 86 h_12]), (false, [.sl 5 [.int .u8]])]
def O_s_FindSn (r : (YI)) : List RV × List RV := ([rv (false, [.int .i64]) r], [])
def C_s_FindSn : Fns := [(139, .plain, F_s_l1Same)]
def F_s_FindSn : Fun1 := funV P_s_FindSn (fun d => (T_s_FindSn d.1 d.2.1).val) O_s_FindSn
def K_s_FindSn_2 : Sk := ⟨[(1, .v false [(.sl 5 [.int .u8], .ro)]), (2, .box 2 0), (5, .v false [(.int .i64, .nil)])], [(2, [(.int .i64, .nil), (.sl 86 h_12, .ro)])], []⟩
def X_s_FindSn_2 : List (Ex × Sk) := [(.ret, ⟨[(4, .v false [(.int .i64, .nil)])], [], []⟩), ((.exit 0), ⟨[], [], []⟩)]
def Q_s_FindSn : Loops := fun i st => cond (Nat.beq i 2) (lam K_s_FindSn_2 3000000 X_s_FindSn_2 B_s_FindSn_2 st) <| .fail
theorem lp_s_FindSn_2 : ∀ d, bod ⟨lookT tys, ctrOf C_s_FindSn, kindOf C_s_FindSn, 3, 4⟩ 0 Tryz.f63.ntmps Q_s_FindSn (nthLoop Tryz.f63 0) K_s_FindSn_2 3000000 X_s_FindSn_2 d = B_s_FindSn_2 d := fun d => by kernel_rfl
theorem lo_s_FindSn_2 (cx : Cx) (hp : cx.pin.length ≤ 0) : LoopOk Tryz.prog cx Tryz.f63.ntmps Q_s_FindSn (nthLoop Tryz.f63 0) := loop_of (cfgOk_of mixed tys_ok (show FnsOk Tryz.prog C_s_FindSn from ⟨fn_s_l1Same, trivial⟩)) hp (all_of (by kernel_rfl : loopsOf (nthLoop Tryz.f63 0) = []) trivial) (by kernel_rfl) lp_s_FindSn_2
theorem e_s_FindSn : ∀ d, pcall ⟨lookT tys, ctrOf C_s_FindSn, kindOf C_s_FindSn, 3, 4⟩ 0 Q_s_FindSn Tryz.f63 .plain (mkA P_s_FindSn d) = (T_s_FindSn d.1 d.2.1).run fun r => some (O_s_FindSn r) := fun d => by kernel_rfl
theorem fn_s_FindSn : Fn Tryz.prog 63 .plain F_s_FindSn := fn_of (cfgOk_of mixed tys_ok (show FnsOk Tryz.prog C_s_FindSn from ⟨fn_s_l1Same, trivial⟩)) Tryz.func63 (by kernel_rfl) (by kernel_rfl) (fun cx b hp hb => all_of (by kernel_rfl : loopsOf (Tryz.f63.body.getD .skip) = [nthLoop Tryz.f63 0]) ⟨lo_s_FindSn_2 cx hp, trivial⟩ b hb) (R := (YI)) (T := fun (d : aden P_s_FindSn) => T_s_FindSn d.1 d.2.1) e_s_FindSn
def P_s_TabOk : List (Bool × List Sh) := [(true, [.int .i64, .sl 86 h_12])]
def O_s_TabOk (r : (Bool × Unit)) : List RV × List RV := ([rv (false, [.bool]) r], [])
def C_s_TabOk : Fns := [(46, .plain, F_s_l1In), (152, .plain, F_s_Live), (91, .plain, F_s_SessOk), (63, .plain, F_s_FindSn)]
def F_s_TabOk : Fun1 := funV P_s_TabOk (fun d => (T_s_TabOk d.1).val) O_s_TabOk
def K_s_TabOk_4 : Sk := ⟨[(1, .box 1 0), (3, .v false [(.int .i64, .nil)])], [(1, [(.int .i64, .nil), (.sl 86 h_12, .ro)])], []⟩
def X_s_TabOk_4 : List (Ex × Sk) := [(.ret, ⟨[(2, .v false [(.bool, .nil)])], [], []⟩), ((.exit 0), ⟨[], [], []⟩)]
def Q_s_TabOk : Loops := fun i st => cond (Nat.beq i 4) (lam K_s_TabOk_4 5000000 X_s_TabOk_4 B_s_TabOk_4 st) <| .fail
theorem lp_s_TabOk_4 : ∀ d, bod ⟨lookT tys, ctrOf C_s_TabOk, kindOf C_s_TabOk, 3, 4⟩ 0 Tryz.f45.ntmps Q_s_TabOk (nthLoop Tryz.f45 0) K_s_TabOk_4 5000000 X_s_TabOk_4 d = B_s_TabOk_4 d := fun d => by kernel_rfl
theorem lo_s_TabOk_4 (cx : Cx) (hp : cx.pin.length ≤ 0) : LoopOk Tryz.prog cx Tryz.f45.ntmps Q_s_TabOk (nthLoop Tryz.f45 0) := loop_of (cfgOk_of mixed tys_ok (show FnsOk Tryz.prog C_s_TabOk from ⟨fn_s_l1In, fn_s_Live, fn_s_SessOk, fn_s_FindSn, trivial⟩)) hp (all_of (by kernel_rfl : loopsOf (nthLoop Tryz.f45 0) = []) trivial) (by kernel_rfl) lp_s_TabOk_4
theorem e_s_TabOk : ∀ d, pcall ⟨lookT tys, ctrOf C_s_TabOk, kindOf C_s_TabOk, 3, 4⟩ 0 Q_s_TabOk Tryz.f45 .plain (mkA P_s_TabOk d) = (T_s_TabOk d.1).run fun r => some (O_s_TabOk r) := fun d => by kernel_rfl
theorem fn_s_TabOk : Fn Tryz.prog 45 .plain F_s_TabOk := fn_of (cfgOk_of mixed tys_ok (show FnsOk Tryz.prog C_s_TabOk from ⟨fn_s_l1In, fn_s_Live, fn_s_SessOk, fn_s_FindSn, trivial⟩)) Tryz.func45 (by kernel_rfl) (by kernel_rfl) (fun cx b hp hb => all_of (by kernel_rfl : loopsOf (Tryz.f45.body.getD .skip) = [nthLoop Tryz.f45 0]) ⟨lo_s_TabOk_4 cx hp, trivial⟩ b hb) (R := (Bool × Unit)) (T := fun (d : aden P_s_TabOk) => T_s_TabOk d.1) e_s_TabOk
def P_s_l8Copy : List (Bool × List Sh) := [(true, [.int .i64, .sl 3 [.int .i64]])]
def O_s_l8Copy (r : (YWin)) : List RV × List RV := ([rv (true, [.int .i64, .sl 3 [.int .i64]]) r], [])
def C_s_l8Copy : Fns := []
def F_s_l8Copy : Fun1 := funV P_s_l8Copy (fun d => (T_s_l8Copy d.1).val) O_s_l8Copy
def Q_s_l8Copy : Loops := fun _ _ => .fail
theorem e_s_l8Copy : ∀ d, pcall ⟨lookT tys, ctrOf C_s_l8Copy, kindOf C_s_l8Copy, 3, 4⟩ 0 Q_s_l8Copy Tryz.f308 .plain (mkA P_s_l8Copy d) = (T_s_l8Copy d.1).run fun r => some (O_s_l8Copy r) := fun d => by kernel_rfl
theorem fn_s_l8Copy : Fn Tryz.prog 308 .plain F_s_l8Copy := fn_of (cfgOk_of mixed tys_ok (show FnsOk Tryz.prog C_s_l8Copy from trivial)) Tryz.func308 (by kernel_rfl) (by kernel_rfl) (fun cx b hp hb => all_of (by kernel_rfl : loopsOf (Tryz.f308.body.getD .skip) = []) trivial b hb) (R := (YWin)) (T := fun (d : aden P_s_l8Copy) => T_s_l8Copy d.1) e_s_l8Copy
def P_s_l9Copy : List (Bool × List Sh) := [(true, h_4)]
def O_s_l9Copy (r : (YEp)) : List RV × List RV := ([rv (true, h_4) r], [])
def C_s_l9Copy : Fns := [(308, .plain, F_s_l8Copy)]
def F_s_l9Copy : Fun1 := funV P_s_l9Copy (fun d => (T_s_l9Copy d.1).val) O_s_l9Copy
def Q_s_l9Copy : Loops := fun _ _ => .fail
theorem e_s_l9Copy : ∀ d, pcall ⟨lookT tys, ctrOf C_s_l9Copy, kindOf C_s_l9Copy, 3, 4⟩ 0 Q_s_l9Copy Tryz.f260 .plain (mkA P_s_l9Copy d) = (T_s_l9Copy d.1).run fun r => some (O_s_l9Copy r) := fun d => by kernel_rfl
theorem fn_s_l9Copy : Fn Tryz.prog 260 .plain F_s_l9Copy := fn_of (cfgOk_of mixed tys_ok (show FnsOk Tryz.prog C_s_l9Copy from ⟨fn_s_l8Copy, trivial⟩)) Tryz.func260 (by kernel_rfl) (by kernel_rfl) (fun cx b hp hb => all_of (by kernel_rfl : loopsOf (Tryz.f260.body.getD .skip) = []) trivial b hb) (R := (YEp)) (T := fun (d : aden P_s_l9Copy) => T_s_l9Copy d.1) e_s_l9Copy
def P_s_l14Ep : List (Bool × List Sh) := [(true, h_4), (false, [.bool])]
def O_s_l14Ep (r : (YEp)) : List RV × List RV := ([rv (true, h_4) r], [])
def C_s_l14Ep : Fns := [(260, .plain, F_s_l9Copy)]
def F_s_l14Ep : Fun1 := funV P_s_l14Ep (fun d => (T_s_l14Ep d.1 d.2.1).val) O_s_l14Ep
def Q_s_l14Ep : Loops := fun _ _ => .fail
theorem e_s_l14Ep : ∀ d, pcall ⟨lookT tys, ctrOf C_s_l14Ep, kindOf C_s_l14Ep, 3, 4⟩ 0 Q_s_l14Ep Tryz.f261 .plain (mkA P_s_l14Ep d) = (T_s_l14Ep d.1 d.2.1).run fun r => some (O_s_l14Ep r) := fun d => by kernel_rfl
theorem fn_s_l14Ep : Fn Tryz.prog 261 .plain F_s_l14Ep := fn_of (cfgOk_of mixed tys_ok (show FnsOk Tryz.prog C_s_l14Ep from ⟨fn_s_l9Copy, trivial⟩)) Tryz.func261 (by kernel_rfl) (by kernel_rfl) (fun cx b hp hb => all_of (by kernel_rfl : loopsOf (Tryz.f261.body.getD .skip) = []) trivial b hb) (R := (YEp)) (T := fun (d : aden P_s_l14Ep) => T_s_l14Ep d.1 d.2.1) e_s_l14Ep
def P_s_l14Copy : List (Bool × List Sh) := [(true, h_10)]
def O_s_l14Copy (r : (YChan)) : List RV × List RV := ([rv (true, h_10) r], [])
def C_s_l14Copy : Fns := [(260, .plain, F_s_l9Copy), (261, .plain, F_s_l14Ep)]
def F_s_l14Copy : Fun1 := funV P_s_l14Copy (fun d => (T_s_l14Copy d.1).val) O_s_l14Copy
def Q_s_l14Copy : Loops := fun _ _ => .fail
theorem e_s_l14Copy : ∀ d, pcall ⟨lookT tys, ctrOf C_s_l14Copy, kindOf C_s_l14Copy, 3, 4⟩ 0 Q_s_l14Copy Tryz.f181 .plain (mkA P_s_l14Copy d) = (T_s_l14Copy d.1).run fun r => some (O_s_l14Copy r) := fun d => by kernel_rfl
theorem fn_s_l14Copy : Fn Tryz.prog 181 .plain F_s_l14Copy := fn_of (cfgOk_of mixed tys_ok (show FnsOk Tryz.prog C_s_l14Copy from ⟨fn_s_l9Copy, fn_s_l14Ep, trivial⟩)) Tryz.func181 (by kernel_rfl) (by kernel_rfl) (fun cx b hp hb => all_of (by kernel_rfl : loopsOf (Tryz.f181.body.getD .skip) = []) trivial b hb) (R := (YChan)) (T := fun (d : aden P_s_l14Copy) => T_s_l14Copy d.1) e_s_l14Copy
def P_s_l16Cand : List (Bool × List Sh) := [(true, h_3)]
def O_s_l16Cand (r : (YCand)) : List RV × List RV := ([rv (true, h_3) r], [])
def C_s_l16Cand : Fns := []
def F_s_l16Cand : Fun1 := funV P_s_l16Cand (fun d => (T_s_l16Cand d.1).val) O_s_l16Cand
def Q_s_l16Cand : Loops := fun _ _ => .fail
theorem e_s_l16Cand : ∀ d, pcall ⟨lookT tys, ctrOf C_s_l16Cand, kindOf C_s_l16Cand, 3, 4⟩ 0 Q_s_l16Cand Tryz.f192 .plain (mkA P_s_l16Cand d) = (T_s_l16Cand d.1).run fun r => some (O_s_l16Cand r) := fun d => by kernel_rfl
theorem fn_s_l16Cand : Fn Tryz.prog 192 .plain F_s_l16Cand := fn_of (cfgOk_of mixed tys_ok (show FnsOk Tryz.prog C_s_l16Cand from trivial)) Tryz.func192 (by kernel_rfl) (by kernel_rfl) (fun cx b hp hb => all_of (by kernel_rfl : loopsOf (Tryz.f192.body.getD .skip) = []) trivial b hb) (R := (YCand)) (T := fun (d : aden P_s_l16Cand) => T_s_l16Cand d.1) e_s_l16Cand
def P_s_l16Copy : List (Bool × List Sh) := [(true, h_6)]
def O_s_l16Copy (r : (YPaths)) : List RV × List RV := ([rv (true, h_6) r], [])
def C_s_l16Copy : Fns := [(192, .plain, F_s_l16Cand)]
def F_s_l16Copy : Fun1 := funV P_s_l16Copy (fun d => (T_s_l16Copy d.1).val) O_s_l16Copy
def K_s_l16Copy_3 : Sk := ⟨[(1, .box 1 0), (2, .box 2 0), (3, .box 3 0), (4, .v false [(.int .i64, .nil)])], [(1, [(.int .i64, .nil), (.int .i64, .nil), (.sl 224 h_3, .ro)]), (2, [(.int .i64, .nil), (.int .i64, .nil), (.sl 224 h_3, (.own 4000000))]), (3, [(.int .i64, .nil), (.int .i64, .nil), (.sl 224 h_3, (.own 4000001))])], [4000000, 4000001]⟩
def X_s_l16Copy_3 : List (Ex × Sk) := [((.exit 0), ⟨[(2, .box 2 0), (3, .box 3 0)], [(2, [(.int .i64, .nil), (.int .i64, .nil), (.sl 224 h_3, (.own 4000000))]), (3, [(.int .i64, .nil), (.int .i64, .nil), (.sl 224 h_3, (.own 4000001))])], [4000000, 4000001]⟩)]
def Q_s_l16Copy : Loops := fun i st => cond (Nat.beq i 3) (lam K_s_l16Copy_3 4000000 X_s_l16Copy_3 B_s_l16Copy_3 st) <| .fail
theorem lp_s_l16Copy_3 : ∀ d, bod ⟨lookT tys, ctrOf C_s_l16Copy, kindOf C_s_l16Copy, 3, 4⟩ 0 Tryz.f182.ntmps Q_s_l16Copy (nthLoop Tryz.f182 0) K_s_l16Copy_3 4000000 X_s_l16Copy_3 d = B_s_l16Copy_3 d := fun d => by kernel_rfl
theorem lo_s_l16Copy_3 (cx : Cx) (hp : cx.pin.length ≤ 0) : LoopOk Tryz.prog cx Tryz.f182.ntmps Q_s_l16Copy (nthLoop Tryz.f182 0) := loop_of (cfgOk_of mixed tys_ok (show FnsOk Tryz.prog C_s_l16Copy from ⟨fn_s_l16Cand, trivial⟩)) hp (all_of (by kernel_rfl : loopsOf (nthLoop Tryz.f182 0) = []) trivial) (by kernel_rfl) lp_s_l16Copy_3
theorem e_s_l16Copy : ∀ d, pcall ⟨lookT tys, ctrOf C_s_l16Copy, kindOf C_s_l16Copy, 3, 4⟩ 0 Q_s_l16Copy Tryz.f182 .plain (mkA P_s_l16Copy d) = (T_s_l16Copy d.1).run fun r => some (O_s_l16Copy r) := fun d => by kernel_rfl
theorem fn_s_l16Copy : Fn Tryz.prog 182 .plain F_s_l16Copy := fn_of (cfgOk_of mixed tys_ok (show FnsOk Tryz.prog C_s_l16Copy from ⟨fn_s_l16Cand, trivial⟩)) Tryz.func182 (by kernel_rfl) (by kernel_rfl) (fun cx b hp hb => all_of (by kernel_rfl : loopsOf (Tryz.f182.body.getD .skip) = [nthLoop Tryz.f182 0]) ⟨lo_s_l16Copy_3 cx hp, trivial⟩ b hb) (R := (YPaths)) (T := fun (d : aden P_s_l16Copy) => T_s_l16Copy d.1) e_s_l16Copy
def P_s_l20Copy : List (Bool × List Sh) := [(true, h_12)]
def O_s_l20Copy (r : (YSess)) : List RV × List RV := ([rv (true, h_12) r], [])
def C_s_l20Copy : Fns := [(181, .plain, F_s_l14Copy), (182, .plain, F_s_l16Copy)]
def F_s_l20Copy : Fun1 := funV P_s_l20Copy (fun d => (T_s_l20Copy d.1).val) O_s_l20Copy
def Q_s_l20Copy : Loops := fun _ _ => .fail
theorem e_s_l20Copy : ∀ d, pcall ⟨lookT tys, ctrOf C_s_l20Copy, kindOf C_s_l20Copy, 3, 4⟩ 0 Q_s_l20Copy Tryz.f90 .plain (mkA P_s_l20Copy d) = (T_s_l20Copy d.1).run fun r => some (O_s_l20Copy r) := fun d => by kernel_rfl
theorem fn_s_l20Copy : Fn Tryz.prog 90 .plain F_s_l20Copy := fn_of (cfgOk_of mixed tys_ok (show FnsOk Tryz.prog C_s_l20Copy from ⟨fn_s_l14Copy, fn_s_l16Copy, trivial⟩)) Tryz.func90 (by kernel_rfl) (by kernel_rfl) (fun cx b hp hb => all_of (by kernel_rfl : loopsOf (Tryz.f90.body.getD .skip) = []) trivial b hb) (R := (YSess)) (T := fun (d : aden P_s_l20Copy) => T_s_l20Copy d.1) e_s_l20Copy
def P_s_l21Copy : List (Bool × List Sh) := [(true, [.int .i64, .sl 86 h_12])]
def O_s_l21Copy (r : (YTab)) : List RV × List RV := ([rv (true, [.int .i64, .sl 86 h_12]) r], [])
def C_s_l21Copy : Fns := [(90, .plain, F_s_l20Copy)]
def F_s_l21Copy : Fun1 := funV P_s_l21Copy (fun d => (T_s_l21Copy d.1).val) O_s_l21Copy
def K_s_l21Copy_3 : Sk := ⟨[(1, .box 1 0), (2, .box 2 0), (3, .box 3 0), (4, .v false [(.int .i64, .nil)])], [(1, [(.int .i64, .nil), (.sl 86 h_12, .ro)]), (2, [(.int .i64, .nil), (.sl 86 h_12, (.own 4000000))]), (3, [(.int .i64, .nil), (.sl 86 h_12, (.own 4000001))])], [4000000, 4000001]⟩
def X_s_l21Copy_3 : List (Ex × Sk) := [((.exit 0), ⟨[(2, .box 2 0), (3, .box 3 0)], [(2, [(.int .i64, .nil), (.sl 86 h_12, (.own 4000000))]), (3, [(.int .i64, .nil), (.sl 86 h_12, (.own 4000001))])], [4000000, 4000001]⟩)]
def Q_s_l21Copy : Loops := fun i st => cond (Nat.beq i 3) (lam K_s_l21Copy_3 4000000 X_s_l21Copy_3 B_s_l21Copy_3 st) <| .fail
theorem lp_s_l21Copy_3 : ∀ d, bod ⟨lookT tys, ctrOf C_s_l21Copy, kindOf C_s_l21Copy, 3, 4⟩ 0 Tryz.f47.ntmps Q_s_l21Copy (nthLoop Tryz.f47 0) K_s_l21Copy_3 4000000 X_s_l21Copy_3 d = B_s_l21Copy_3 d := fun d => by kernel_rfl
theorem lo_s_l21Copy_3 (cx : Cx) (hp : cx.pin.length ≤ 0) : LoopOk Tryz.prog cx Tryz.f47.ntmps Q_s_l21Copy (nthLoop Tryz.f47 0) := loop_of (cfgOk_of mixed tys_ok (show FnsOk Tryz.prog C_s_l21Copy from ⟨fn_s_l20Copy, trivial⟩)) hp (all_of (by kernel_rfl : loopsOf (nthLoop Tryz.f47 0) = []) trivial) (by kernel_rfl) lp_s_l21Copy_3
theorem e_s_l21Copy : ∀ d, pcall ⟨lookT tys, ctrOf C_s_l21Copy, kindOf C_s_l21Copy, 3, 4⟩ 0 Q_s_l21Copy Tryz.f47 .plain (mkA P_s_l21Copy d) = (T_s_l21Copy d.1).run fun r => some (O_s_l21Copy r) := fun d => by kernel_rfl
theorem fn_s_l21Copy : Fn Tryz.prog 47 .plain F_s_l21Copy := fn_of (cfgOk_of mixed tys_ok (show FnsOk Tryz.prog C_s_l21Copy from ⟨fn_s_l20Copy, trivial⟩)) Tryz.func47 (by kernel_rfl) (by kernel_rfl) (fun cx b hp hb => all_of (by kernel_rfl : loopsOf (Tryz.f47.body.getD .skip) = [nthLoop Tryz.f47 0]) ⟨lo_s_l21Copy_3 cx hp, trivial⟩ b hb) (R := (YTab)) (T := fun (d : aden P_s_l21Copy) => T_s_l21Copy d.1) e_s_l21Copy
def P_s_Bury : List (Bool × List Sh) := [(true, h_12)]
def O_s_Bury (r : (YSess)) : List RV × List RV := ([rv (true, h_12) r], [])
def C_s_Bury : Fns := [(91, .plain, F_s_SessOk), (90, .plain, F_s_l20Copy)]
def F_s_Bury : Fun1 := funV P_s_Bury (fun d => (T_s_Bury d.1).val) O_s_Bury
def Q_s_Bury : Loops := fun _ _ => .fail
theorem e_s_Bury : ∀ d, pcall ⟨lookT tys, ctrOf C_s_Bury, kindOf C_s_Bury, 3, 4⟩ 0 Q_s_Bury Tryz.f153 .plain (mkA P_s_Bury d) = (T_s_Bury d.1).run fun r => some (O_s_Bury r) := fun d => by kernel_rfl
theorem fn_s_Bury : Fn Tryz.prog 153 .plain F_s_Bury := fn_of (cfgOk_of mixed tys_ok (show FnsOk Tryz.prog C_s_Bury from ⟨fn_s_SessOk, fn_s_l20Copy, trivial⟩)) Tryz.func153 (by kernel_rfl) (by kernel_rfl) (fun cx b hp hb => all_of (by kernel_rfl : loopsOf (Tryz.f153.body.getD .skip) = []) trivial b hb) (R := (YSess)) (T := fun (d : aden P_s_Bury) => T_s_Bury d.1) e_s_Bury
def P_s_ChanTick : List (Bool × List Sh) := [(true, h_10), (false, [.int .i64])]
def O_s_ChanTick (r : (YChan)) : List RV × List RV := ([rv (true, h_10) r], [])
def C_s_ChanTick : Fns := [(181, .plain, F_s_l14Copy), (185, .plain, F_s_ChanOk), (46, .plain, F_s_l1In)]
def F_s_ChanTick : Fun1 := funV P_s_ChanTick (fun d => (T_s_ChanTick d.1 d.2.1).val) O_s_ChanTick
def Q_s_ChanTick : Loops := fun _ _ => .fail
theorem e_s_ChanTick : ∀ d, pcall ⟨lookT tys, ctrOf C_s_ChanTick, kindOf C_s_ChanTick, 3, 4⟩ 0 Q_s_ChanTick Tryz.f154 .plain (mkA P_s_ChanTick d) = (T_s_ChanTick d.1 d.2.1).run fun r => some (O_s_ChanTick r) := fun d => by kernel_rfl
theorem fn_s_ChanTick : Fn Tryz.prog 154 .plain F_s_ChanTick := fn_of (cfgOk_of mixed tys_ok (show FnsOk Tryz.prog C_s_ChanTick from ⟨fn_s_l14Copy, fn_s_ChanOk, fn_s_l1In, trivial⟩)) Tryz.func154 (by kernel_rfl) (by kernel_rfl) (fun cx b hp hb => all_of (by kernel_rfl : loopsOf (Tryz.f154.body.getD .skip) = []) trivial b hb) (R := (YChan)) (T := fun (d : aden P_s_ChanTick) => T_s_ChanTick d.1 d.2.1) e_s_ChanTick
def P_s_PathTick : List (Bool × List Sh) := [(true, h_6), (false, [.int .i64])]
def O_s_PathTick (r : (YPaths)) : List RV × List RV := ([rv (true, h_6) r], [])
def C_s_PathTick : Fns := [(186, .plain, F_s_PathsOk), (46, .plain, F_s_l1In), (182, .plain, F_s_l16Copy), (192, .plain, F_s_l16Cand)]
def F_s_PathTick : Fun1 := funV P_s_PathTick (fun d => (T_s_PathTick d.1 d.2.1).val) O_s_PathTick
def K_s_PathTick_5 : Sk := ⟨[(1, .v false [(.int .i64, .nil)]), (2, .box 2 0), (4, .box 4 0), (5, .box 5 0), (6, .v false [(.int .i64, .nil)])], [(2, [(.int .i64, .nil), (.int .i64, .nil), (.sl 224 h_3, .ro)]), (4, [(.int .i64, .nil), (.int .i64, .nil), (.sl 224 h_3, (.own 6000000))]), (5, [(.int .i64, .nil), (.int .i64, .nil), (.sl 224 h_3, (.own 6000001))])], [6000000, 6000001]⟩
def X_s_PathTick_5 : List (Ex × Sk) := [((.exit 0), ⟨[(4, .box 4 0), (5, .box 5 0)], [(4, [(.int .i64, .nil), (.int .i64, .nil), (.sl 224 h_3, (.own 6000000))]), (5, [(.int .i64, .nil), (.int .i64, .nil), (.sl 224 h_3, (.own 6000001))])], [6000000, 6000001]⟩)]
def Q_s_PathTick : Loops := fun i st => cond (Nat.beq i 5) (lam K_s_PathTick_5 6000000 X_s_PathTick_5 B_s_PathTick_5 st) <| .fail
theorem lp_s_PathTick_5 : ∀ d, bod ⟨lookT tys, ctrOf C_s_PathTick, kindOf C_s_PathTick, 3, 4⟩ 0 Tryz.f155.ntmps Q_s_PathTick (nthLoop Tryz.f155 0) K_s_PathTick_5 6000000 X_s_PathTick_5 d = B_s_PathTick_5 d := fun d => by kernel_rfl
theorem lo_s_PathTick_5 (cx : Cx) (hp : cx.pin.length ≤ 0) : LoopOk Tryz.prog cx Tryz.f155.ntmps Q_s_PathTick (nthLoop Tryz.f155 0) := loop_of (cfgOk_of mixed tys_ok (show FnsOk Tryz.prog C_s_PathTick from ⟨fn_s_PathsOk, fn_s_l1In, fn_s_l16Copy, fn_s_l16Cand, trivial⟩)) hp (all_of (by kernel_rfl : loopsOf (nthLoop Tryz.f155 0) = []) trivial) (by kernel_rfl) lp_s_PathTick_5
theorem e_s_PathTick : ∀ d, pcall ⟨lookT tys, ctrOf C_s_PathTick, kindOf C_s_PathTick, 3, 4⟩ 0 Q_s_PathTick Tryz.f155 .plain (mkA P_s_PathTick d) = (T_s_PathTick d.1 d.2.1).run fun r => some (O_s_PathTick r) := fun d => by kernel_rfl
theorem fn_s_PathTick : Fn Tryz.prog 155 .plain F_s_PathTick := fn_of (cfgOk_of mixed tys_ok (show FnsOk Tryz.prog C_s_PathTick from ⟨fn_s_PathsOk, fn_s_l1In, fn_s_l16Copy, fn_s_l16Cand, trivial⟩)) Tryz.func155 (by kernel_rfl) (by kernel_rfl) (fun cx b hp hb => all_of (by kernel_rfl : loopsOf (Tryz.f155.body.getD .skip) = [nthLoop Tryz.f155 0]) ⟨lo_s_PathTick_5 cx hp, trivial⟩ b hb) (R := (YPaths)) (T := fun (d : aden P_s_PathTick) => T_s_PathTick d.1 d.2.1) e_s_PathTick
def P_s_SessTick : List (Bool × List Sh) := [(true, h_12), (false, [.int .i64])]
def O_s_SessTick (r : (YSess)) : List RV × List RV := ([rv (true, h_12) r], [])
def C_s_SessTick : Fns := [(90, .plain, F_s_l20Copy), (91, .plain, F_s_SessOk), (46, .plain, F_s_l1In), (153, .plain, F_s_Bury), (154, .plain, F_s_ChanTick), (155, .plain, F_s_PathTick)]
def F_s_SessTick : Fun1 := funV P_s_SessTick (fun d => (T_s_SessTick d.1 d.2.1).val) O_s_SessTick
def Q_s_SessTick : Loops := fun _ _ => .fail
theorem e_s_SessTick : ∀ d, pcall ⟨lookT tys, ctrOf C_s_SessTick, kindOf C_s_SessTick, 3, 4⟩ 0 Q_s_SessTick Tryz.f48 .plain (mkA P_s_SessTick d) = (T_s_SessTick d.1 d.2.1).run fun r => some (O_s_SessTick r) := fun d => by kernel_rfl
theorem fn_s_SessTick : Fn Tryz.prog 48 .plain F_s_SessTick := fn_of (cfgOk_of mixed tys_ok (show FnsOk Tryz.prog C_s_SessTick from ⟨fn_s_l20Copy, fn_s_SessOk, fn_s_l1In, fn_s_Bury, fn_s_ChanTick, fn_s_PathTick, trivial⟩)) Tryz.func48 (by kernel_rfl) (by kernel_rfl) (fun cx b hp hb => all_of (by kernel_rfl : loopsOf (Tryz.f48.body.getD .skip) = []) trivial b hb) (R := (YSess)) (T := fun (d : aden P_s_SessTick) => T_s_SessTick d.1 d.2.1) e_s_SessTick
def P_s_TabTick : List (Bool × List Sh) := [(true, [.int .i64, .sl 86 h_12]), (false, [.int .i64])]
def O_s_TabTick (r : (YTab)) : List RV × List RV := ([rv (true, [.int .i64, .sl 86 h_12]) r], [])
def C_s_TabTick : Fns := [(45, .plain, F_s_TabOk), (46, .plain, F_s_l1In), (47, .plain, F_s_l21Copy), (48, .plain, F_s_SessTick)]
def F_s_TabTick : Fun1 := funV P_s_TabTick (fun d => (T_s_TabTick d.1 d.2.1).val) O_s_TabTick
def K_s_TabTick_5 : Sk := ⟨[(1, .v false [(.int .i64, .nil)]), (2, .box 2 0), (4, .box 4 0), (5, .box 5 0), (6, .v false [(.int .i64, .nil)])], [(2, [(.int .i64, .nil), (.sl 86 h_12, .ro)]), (4, [(.int .i64, .nil), (.sl 86 h_12, (.own 6000000))]), (5, [(.int .i64, .nil), (.sl 86 h_12, (.own 6000001))])], [6000000, 6000001]⟩
def X_s_TabTick_5 : List (Ex × Sk) := [((.exit 0), ⟨[(4, .box 4 0), (5, .box 5 0)], [(4, [(.int .i64, .nil), (.sl 86 h_12, (.own 6000000))]), (5, [(.int .i64, .nil), (.sl 86 h_12, (.own 6000001))])], [6000000, 6000001]⟩)]
def Q_s_TabTick : Loops := fun i st => cond (Nat.beq i 5) (lam K_s_TabTick_5 6000000 X_s_TabTick_5 B_s_TabTick_5 st) <| .fail
theorem lp_s_TabTick_5 : ∀ d, bod ⟨lookT tys, ctrOf C_s_TabTick, kindOf C_s_TabTick, 3, 4⟩ 0 Tryz.f8.ntmps Q_s_TabTick (nthLoop Tryz.f8 0) K_s_TabTick_5 6000000 X_s_TabTick_5 d = B_s_TabTick_5 d := fun d => by kernel_rfl
theorem lo_s_TabTick_5 (cx : Cx) (hp : cx.pin.length ≤ 0) : LoopOk Tryz.prog cx Tryz.f8.ntmps Q_s_TabTick (nthLoop Tryz.f8 0) := loop_of (cfgOk_of mixed tys_ok (show FnsOk Tryz.prog C_s_TabTick from ⟨fn_s_TabOk, fn_s_l1In, fn_s_l21Copy, fn_s_SessTick, trivial⟩)) hp (all_of (by kernel_rfl : loopsOf (nthLoop Tryz.f8 0) = []) trivial) (by kernel_rfl) lp_s_TabTick_5
theorem e_s_TabTick : ∀ d, pcall ⟨lookT tys, ctrOf C_s_TabTick, kindOf C_s_TabTick, 3, 4⟩ 0 Q_s_TabTick Tryz.f8 .plain (mkA P_s_TabTick d) = (T_s_TabTick d.1 d.2.1).run fun r => some (O_s_TabTick r) := fun d => by kernel_rfl
theorem fn_s_TabTick : Fn Tryz.prog 8 .plain F_s_TabTick := fn_of (cfgOk_of mixed tys_ok (show FnsOk Tryz.prog C_s_TabTick from ⟨fn_s_TabOk, fn_s_l1In, fn_s_l21Copy, fn_s_SessTick, trivial⟩)) Tryz.func8 (by kernel_rfl) (by kernel_rfl) (fun cx b hp hb => all_of (by kernel_rfl : loopsOf (Tryz.f8.body.getD .skip) = [nthLoop Tryz.f8 0]) ⟨lo_s_TabTick_5 cx hp, trivial⟩ b hb) (R := (YTab)) (T := fun (d : aden P_s_TabTick) => T_s_TabTick d.1 d.2.1) e_s_TabTick
def P_i_within : List (Bool × List Sh) := [(false, [.int .i64]), (false, [.int .i64]), (false, [.int .i64])]
def O_i_within (r : (Bool × Unit)) : List RV × List RV := ([rv (false, [.bool]) r], [])
def C_i_within : Fns := []
def F_i_within : Fun1 := funV P_i_within (fun d => (T_i_within d.1 d.2.1 d.2.2.1).val) O_i_within
def Q_i_within : Loops := fun _ _ => .fail
theorem e_i_within : ∀ d, pcall ⟨lookT tys, ctrOf C_i_within, kindOf C_i_within, 3, 4⟩ 0 Q_i_within Tryz.f51 .plain (mkA P_i_within d) = (T_i_within d.1 d.2.1 d.2.2.1).run fun r => some (O_i_within r) := fun d => by kernel_rfl
theorem fn_i_within : Fn Tryz.prog 51 .plain F_i_within := fn_of (cfgOk_of mixed tys_ok (show FnsOk Tryz.prog C_i_within from trivial)) Tryz.func51 (by kernel_rfl) (by kernel_rfl) (fun cx b hp hb => all_of (by kernel_rfl : loopsOf (Tryz.f51.body.getD .skip) = []) trivial b hb) (R := (Bool × Unit)) (T := fun (d : aden P_i_within) => T_i_within d.1 d.2.1 d.2.2.1) e_i_within
def P_i_Live : List (Bool × List Sh) := [(true, [.int .i64, .sl 86 h_12])]
def O_i_Live (r : (YI)) : List RV × List RV := ([rv (false, [.int .i64]) r], [])
def C_i_Live : Fns := []
def F_i_Live : Fun1 := funV P_i_Live (fun d => (T_i_Live d.1).val) O_i_Live
def K_i_Live_3 : Sk := ⟨[(3, .v false [(.int .i64, .nil)]), (7, .v false [(.sl 86 h_12, .ro)]), (8, .v false [(.int .i64, .nil)]), (9, .v false [(.int .i64, .nil)])], [], []⟩
def X_i_Live_3 : List (Ex × Sk) := [((.exit 0), ⟨[(3, .v false [(.int .i64, .nil)])], [], []⟩)]
def Q_i_Live : Loops := fun i st => cond (Nat.beq i 3) (lam K_i_Live_3 4000000 X_i_Live_3 B_i_Live_3 st) <| .fail
theorem lp_i_Live_3 : ∀ d, bod ⟨lookT tys, ctrOf C_i_Live, kindOf C_i_Live, 3, 4⟩ 0 Tryz.f156.ntmps Q_i_Live (nthLoop Tryz.f156 0) K_i_Live_3 4000000 X_i_Live_3 d = B_i_Live_3 d := fun d => by kernel_rfl
theorem lo_i_Live_3 (cx : Cx) (hp : cx.pin.length ≤ 0) : LoopOk Tryz.prog cx Tryz.f156.ntmps Q_i_Live (nthLoop Tryz.f156 0) := loop_of (cfgOk_of mixed tys_ok (show FnsOk Tryz.prog C_i_Live from trivial)) hp (all_of (by kernel_rfl : loopsOf (nthLoop Tryz.f156 0) = []) trivial) (by kernel_rfl) lp_i_Live_3
theorem e_i_Live : ∀ d, pcall ⟨lookT tys, ctrOf C_i_Live, kindOf C_i_Live, 3, 4⟩ 0 Q_i_Live Tryz.f156 .plain (mkA P_i_Live d) = (T_i_Live d.1).run fun r => some (O_i_Live r) := fun d => by kernel_rfl
theorem fn_i_Live : Fn Tryz.prog 156 .plain F_i_Live := fn_of (cfgOk_of mixed tys_ok (show FnsOk Tryz.prog C_i_Live from trivial)) Tryz.func156 (by kernel_rfl) (by kernel_rfl) (fun cx b hp hb => all_of (by kernel_rfl : loopsOf (Tryz.f156.body.getD .skip) = [nthLoop Tryz.f156 0]) ⟨lo_i_Live_3 cx hp, trivial⟩ b hb) (R := (YI)) (T := fun (d : aden P_i_Live) => T_i_Live d.1) e_i_Live
def P_i_isNonce : List (Bool × List Sh) := [(false, [.sl 5 [.int .u8]])]
def O_i_isNonce (r : (Bool × Unit)) : List RV × List RV := ([rv (false, [.bool]) r], [])
def C_i_isNonce : Fns := []
def F_i_isNonce : Fun1 := funV P_i_isNonce (fun d => (T_i_isNonce d.1).val) O_i_isNonce
def Q_i_isNonce : Loops := fun _ _ => .fail
theorem e_i_isNonce : ∀ d, pcall ⟨lookT tys, ctrOf C_i_isNonce, kindOf C_i_isNonce, 3, 4⟩ 0 Q_i_isNonce Tryz.f200 .plain (mkA P_i_isNonce d) = (T_i_isNonce d.1).run fun r => some (O_i_isNonce r) := fun d => by kernel_rfl
theorem fn_i_isNonce : Fn Tryz.prog 200 .plain F_i_isNonce := fn_of (cfgOk_of mixed tys_ok (show FnsOk Tryz.prog C_i_isNonce from trivial)) Tryz.func200 (by kernel_rfl) (by kernel_rfl) (fun cx b hp hb => all_of (by kernel_rfl : loopsOf (Tryz.f200.body.getD .skip) = []) trivial b hb) (R := (Bool × Unit)) (T := fun (d : aden P_i_isNonce) => T_i_isNonce d.1) e_i_isNonce
def P_bytes_Equal : List (Bool × List Sh) := [(false, [.sl 5 [.int .u8]]), (false, [.sl 5 [.int .u8]])]
def O_bytes_Equal (r : (Bool × Unit)) : List RV × List RV := ([rv (false, [.bool]) r], [])
def C_bytes_Equal : Fns := []
def F_bytes_Equal : Fun1 := funV P_bytes_Equal (fun d => (T_bytes_Equal d.1 d.2.1).val) O_bytes_Equal
def Q_bytes_Equal : Loops := fun _ _ => .fail
theorem e_bytes_Equal : ∀ d, pcall ⟨lookT tys, ctrOf C_bytes_Equal, kindOf C_bytes_Equal, 3, 4⟩ 0 Q_bytes_Equal Tryz.f176 .plain (mkA P_bytes_Equal d) = (T_bytes_Equal d.1 d.2.1).run fun r => some (O_bytes_Equal r) := fun d => by kernel_rfl
theorem fn_bytes_Equal : Fn Tryz.prog 176 .plain F_bytes_Equal := fn_of (cfgOk_of mixed tys_ok (show FnsOk Tryz.prog C_bytes_Equal from trivial)) Tryz.func176 (by kernel_rfl) (by kernel_rfl) (fun cx b hp hb => all_of (by kernel_rfl : loopsOf (Tryz.f176.body.getD .skip) = []) trivial b hb) (R := (Bool × Unit)) (T := fun (d : aden P_bytes_Equal) => T_bytes_Equal d.1 d.2.1) e_bytes_Equal
def P_i_sameInts : List (Bool × List Sh) := [(false, [.sl 3 [.int .i64]]), (false, [.sl 3 [.int .i64]])]
def O_i_sameInts (r : (Bool × Unit)) : List RV × List RV := ([rv (false, [.bool]) r], [])
def C_i_sameInts : Fns := []
def F_i_sameInts : Fun1 := funV P_i_sameInts (fun d => (T_i_sameInts d.1 d.2.1).val) O_i_sameInts
def K_i_sameInts_4 : Sk := ⟨[(1, .v false [(.sl 3 [.int .i64], .ro)]), (12, .v false [(.sl 3 [.int .i64], .ro)]), (13, .v false [(.int .i64, .nil)]), (14, .v false [(.int .i64, .nil)])], [], []⟩
def X_i_sameInts_4 : List (Ex × Sk) := [(.ret, ⟨[(4, .v false [(.bool, .nil)])], [], []⟩), ((.exit 0), ⟨[], [], []⟩)]
def Q_i_sameInts : Loops := fun i st => cond (Nat.beq i 4) (lam K_i_sameInts_4 5000000 X_i_sameInts_4 B_i_sameInts_4 st) <| .fail
theorem lp_i_sameInts_4 : ∀ d, bod ⟨lookT tys, ctrOf C_i_sameInts, kindOf C_i_sameInts, 3, 4⟩ 0 Tryz.f315.ntmps Q_i_sameInts (nthLoop Tryz.f315 0) K_i_sameInts_4 5000000 X_i_sameInts_4 d = B_i_sameInts_4 d := fun d => by kernel_rfl
theorem lo_i_sameInts_4 (cx : Cx) (hp : cx.pin.length ≤ 0) : LoopOk Tryz.prog cx Tryz.f315.ntmps Q_i_sameInts (nthLoop Tryz.f315 0) := loop_of (cfgOk_of mixed tys_ok (show FnsOk Tryz.prog C_i_sameInts from trivial)) hp (all_of (by kernel_rfl : loopsOf (nthLoop Tryz.f315 0) = []) trivial) (by kernel_rfl) lp_i_sameInts_4
theorem e_i_sameInts : ∀ d, pcall ⟨lookT tys, ctrOf C_i_sameInts, kindOf C_i_sameInts, 3, 4⟩ 0 Q_i_sameInts Tryz.f315 .plain (mkA P_i_sameInts d) = (T_i_sameInts d.1 d.2.1).run fun r => some (O_i_sameInts r) := fun d => by kernel_rfl
theorem fn_i_sameInts : Fn Tryz.prog 315 .plain F_i_sameInts := fn_of (cfgOk_of mixed tys_ok (show FnsOk Tryz.prog C_i_sameInts from trivial)) Tryz.func315 (by kernel_rfl) (by kernel_rfl) (fun cx b hp hb => all_of (by kernel_rfl : loopsOf (Tryz.f315.body.getD .skip) = [nthLoop Tryz.f315 0]) ⟨lo_i_sameInts_4 cx hp, trivial⟩ b hb) (R := (Bool × Unit)) (T := fun (d : aden P_i_sameInts) => T_i_sameInts d.1 d.2.1) e_i_sameInts
def P_i_sameEp : List (Bool × List Sh) := [(true, h_4), (true, h_4)]
def O_i_sameEp (r : (Bool × Unit)) : List RV × List RV := ([rv (false, [.bool]) r], [])
def C_i_sameEp : Fns := [(176, .plain, F_bytes_Equal), (315, .plain, F_i_sameInts)]
def F_i_sameEp : Fun1 := funV P_i_sameEp (fun d => (T_i_sameEp d.1 d.2.1).val) O_i_sameEp
def Q_i_sameEp : Loops := fun _ _ => .fail
theorem e_i_sameEp : ∀ d, pcall ⟨lookT tys, ctrOf C_i_sameEp, kindOf C_i_sameEp, 3, 4⟩ 0 Q_i_sameEp Tryz.f273 .plain (mkA P_i_sameEp d) = (T_i_sameEp d.1 d.2.1).run fun r => some (O_i_sameEp r) := fun d => by kernel_rfl
theorem fn_i_sameEp : Fn Tryz.prog 273 .plain F_i_sameEp := fn_of (cfgOk_of mixed tys_ok (show FnsOk Tryz.prog C_i_sameEp from ⟨fn_bytes_Equal, fn_i_sameInts, trivial⟩)) Tryz.func273 (by kernel_rfl) (by kernel_rfl) (fun cx b hp hb => all_of (by kernel_rfl : loopsOf (Tryz.f273.body.getD .skip) = []) trivial b hb) (R := (Bool × Unit)) (T := fun (d : aden P_i_sameEp) => T_i_sameEp d.1 d.2.1) e_i_sameEp
def P_i_isZeroChan : List (Bool × List Sh) := [(true, h_10)]
def O_i_isZeroChan (r : (Bool × Unit)) : List RV × List RV := ([rv (false, [.bool]) r], [])
def C_i_isZeroChan : Fns := [(273, .plain, F_i_sameEp)]
def F_i_isZeroChan : Fun1 := funV P_i_isZeroChan (fun d => (T_i_isZeroChan d.1).val) O_i_isZeroChan
def Q_i_isZeroChan : Loops := fun _ _ => .fail
theorem e_i_isZeroChan : ∀ d, pcall ⟨lookT tys, ctrOf C_i_isZeroChan, kindOf C_i_isZeroChan, 3, 4⟩ 0 Q_i_isZeroChan Tryz.f201 .plain (mkA P_i_isZeroChan d) = (T_i_isZeroChan d.1).run fun r => some (O_i_isZeroChan r) := fun d => by kernel_rfl
theorem fn_i_isZeroChan : Fn Tryz.prog 201 .plain F_i_isZeroChan := fn_of (cfgOk_of mixed tys_ok (show FnsOk Tryz.prog C_i_isZeroChan from ⟨fn_i_sameEp, trivial⟩)) Tryz.func201 (by kernel_rfl) (by kernel_rfl) (fun cx b hp hb => all_of (by kernel_rfl : loopsOf (Tryz.f201.body.getD .skip) = []) trivial b hb) (R := (Bool × Unit)) (T := fun (d : aden P_i_isZeroChan) => T_i_isZeroChan d.1) e_i_isZeroChan
def P_i_isRole : List (Bool × List Sh) := [(false, [.int .i64])]
def O_i_isRole (r : (Bool × Unit)) : List RV × List RV := ([rv (false, [.bool]) r], [])
def C_i_isRole : Fns := []
def F_i_isRole : Fun1 := funV P_i_isRole (fun d => (T_i_isRole d.1).val) O_i_isRole
def Q_i_isRole : Loops := fun _ _ => .fail
theorem e_i_isRole : ∀ d, pcall ⟨lookT tys, ctrOf C_i_isRole, kindOf C_i_isRole, 3, 4⟩ 0 Q_i_isRole Tryz.f208 .plain (mkA P_i_isRole d) = (T_i_isRole d.1).run fun r => some (O_i_isRole r) := fun d => by kernel_rfl
theorem fn_i_isRole : Fn Tryz.prog 208 .plain F_i_isRole := fn_of (cfgOk_of mixed tys_ok (show FnsOk Tryz.prog C_i_isRole from trivial)) Tryz.func208 (by kernel_rfl) (by kernel_rfl) (fun cx b hp hb => all_of (by kernel_rfl : loopsOf (Tryz.f208.body.getD .skip) = []) trivial b hb) (R := (Bool × Unit)) (T := fun (d : aden P_i_isRole) => T_i_isRole d.1) e_i_isRole
def P_i_areWords : List (Bool × List Sh) := [(false, [.sl 3 [.int .i64]]), (false, [.int .i64])]
def O_i_areWords (r : (Bool × Unit)) : List RV × List RV := ([rv (false, [.bool]) r], [])
def C_i_areWords : Fns := [(51, .plain, F_i_within)]
def F_i_areWords : Fun1 := funV P_i_areWords (fun d => (T_i_areWords d.1 d.2.1).val) O_i_areWords
def K_i_areWords_2 : Sk := ⟨[(0, .v false [(.sl 3 [.int .i64], .ro)]), (1, .v false [(.int .i64, .nil)]), (7, .v false [(.sl 3 [.int .i64], .ro)]), (8, .v false [(.int .i64, .nil)]), (9, .v false [(.int .i64, .nil)])], [], []⟩
def X_i_areWords_2 : List (Ex × Sk) := [(.ret, ⟨[(4, .v false [(.bool, .nil)])], [], []⟩), ((.exit 0), ⟨[(0, .v false [(.sl 3 [.int .i64], .ro)]), (1, .v false [(.int .i64, .nil)])], [], []⟩)]
def Q_i_areWords : Loops := fun i st => cond (Nat.beq i 2) (lam K_i_areWords_2 3000000 X_i_areWords_2 B_i_areWords_2 st) <| .fail
theorem lp_i_areWords_2 : ∀ d, bod ⟨lookT tys, ctrOf C_i_areWords, kindOf C_i_areWords, 3, 4⟩ 0 Tryz.f329.ntmps Q_i_areWords (nthLoop Tryz.f329 0) K_i_areWords_2 3000000 X_i_areWords_2 d = B_i_areWords_2 d := fun d => by kernel_rfl
theorem lo_i_areWords_2 (cx : Cx) (hp : cx.pin.length ≤ 0) : LoopOk Tryz.prog cx Tryz.f329.ntmps Q_i_areWords (nthLoop Tryz.f329 0) := loop_of (cfgOk_of mixed tys_ok (show FnsOk Tryz.prog C_i_areWords from ⟨fn_i_within, trivial⟩)) hp (all_of (by kernel_rfl : loopsOf (nthLoop Tryz.f329 0) = []) trivial) (by kernel_rfl) lp_i_areWords_2
theorem e_i_areWords : ∀ d, pcall ⟨lookT tys, ctrOf C_i_areWords, kindOf C_i_areWords, 3, 4⟩ 0 Q_i_areWords Tryz.f329 .plain (mkA P_i_areWords d) = (T_i_areWords d.1 d.2.1).run fun r => some (O_i_areWords r) := fun d => by kernel_rfl
theorem fn_i_areWords : Fn Tryz.prog 329 .plain F_i_areWords := fn_of (cfgOk_of mixed tys_ok (show FnsOk Tryz.prog C_i_areWords from ⟨fn_i_within, trivial⟩)) Tryz.func329 (by kernel_rfl) (by kernel_rfl) (fun cx b hp hb => all_of (by kernel_rfl : loopsOf (Tryz.f329.body.getD .skip) = [nthLoop Tryz.f329 0]) ⟨lo_i_areWords_2 cx hp, trivial⟩ b hb) (R := (Bool × Unit)) (T := fun (d : aden P_i_areWords) => T_i_areWords d.1 d.2.1) e_i_areWords
def P_i_hasBit : List (Bool × List Sh) := [(true, [.int .i64, .sl 3 [.int .i64]]), (false, [.int .i64])]
def O_i_hasBit (r : (Bool × Unit)) : List RV × List RV := ([rv (false, [.bool]) r], [])
def C_i_hasBit : Fns := []
def F_i_hasBit : Fun1 := funV P_i_hasBit (fun d => (T_i_hasBit d.1 d.2.1).val) O_i_hasBit
def Q_i_hasBit : Loops := fun _ _ => .fail
theorem e_i_hasBit : ∀ d, pcall ⟨lookT tys, ctrOf C_i_hasBit, kindOf C_i_hasBit, 3, 4⟩ 0 Q_i_hasBit Tryz.f330 .plain (mkA P_i_hasBit d) = (T_i_hasBit d.1 d.2.1).run fun r => some (O_i_hasBit r) := fun d => by kernel_rfl
theorem fn_i_hasBit : Fn Tryz.prog 330 .plain F_i_hasBit := fn_of (cfgOk_of mixed tys_ok (show FnsOk Tryz.prog C_i_hasBit from trivial)) Tryz.func330 (by kernel_rfl) (by kernel_rfl) (fun cx b hp hb => all_of (by kernel_rfl : loopsOf (Tryz.f330.body.getD .skip) = []) trivial b hb) (R := (Bool × Unit)) (T := fun (d : aden P_i_hasBit) => T_i_hasBit d.1 d.2.1) e_i_hasBit
def P_i_WinOk : List (Bool × List Sh) := [(true, [.int .i64, .sl 3 [.int .i64]])]
def O_i_WinOk (r : (Bool × Unit)) : List RV × List RV := ([rv (false, [.bool]) r], [])
def C_i_WinOk : Fns := [(51, .plain, F_i_within), (329, .plain, F_i_areWords), (330, .plain, F_i_hasBit)]
def F_i_WinOk : Fun1 := funV P_i_WinOk (fun d => (T_i_WinOk d.1).val) O_i_WinOk
def K_i_WinOk_4 : Sk := ⟨[(1, .box 1 0), (3, .v false [(.int .i64, .nil)])], [(1, [(.int .i64, .nil), (.sl 3 [.int .i64], .ro)])], []⟩
def X_i_WinOk_4 : List (Ex × Sk) := [(.ret, ⟨[(2, .v false [(.bool, .nil)])], [], []⟩), ((.exit 0), ⟨[(1, .box 1 0)], [(1, [(.int .i64, .nil), (.sl 3 [.int .i64], .ro)])], []⟩)]
def Q_i_WinOk : Loops := fun i st => cond (Nat.beq i 4) (lam K_i_WinOk_4 5000000 X_i_WinOk_4 B_i_WinOk_4 st) <| .fail
theorem lp_i_WinOk_4 : ∀ d, bod ⟨lookT tys, ctrOf C_i_WinOk, kindOf C_i_WinOk, 3, 4⟩ 0 Tryz.f316.ntmps Q_i_WinOk (nthLoop Tryz.f316 0) K_i_WinOk_4 5000000 X_i_WinOk_4 d = B_i_WinOk_4 d := fun d => by kernel_rfl
theorem lo_i_WinOk_4 (cx : Cx) (hp : cx.pin.length ≤ 0) : LoopOk Tryz.prog cx Tryz.f316.ntmps Q_i_WinOk (nthLoop Tryz.f316 0) := loop_of (cfgOk_of mixed tys_ok (show FnsOk Tryz.prog C_i_WinOk from ⟨fn_i_within, fn_i_areWords, fn_i_hasBit, trivial⟩)) hp (all_of (by kernel_rfl : loopsOf (nthLoop Tryz.f316 0) = []) trivial) (by kernel_rfl) lp_i_WinOk_4
theorem e_i_WinOk : ∀ d, pcall ⟨lookT tys, ctrOf C_i_WinOk, kindOf C_i_WinOk, 3, 4⟩ 0 Q_i_WinOk Tryz.f316 .plain (mkA P_i_WinOk d) = (T_i_WinOk d.1).run fun r => some (O_i_WinOk r) := fun d => by kernel_rfl
theorem fn_i_WinOk : Fn Tryz.prog 316 .plain F_i_WinOk := fn_of (cfgOk_of mixed tys_ok (show FnsOk Tryz.prog C_i_WinOk from ⟨fn_i_within, fn_i_areWords, fn_i_hasBit, trivial⟩)) Tryz.func316 (by kernel_rfl) (by kernel_rfl) (fun cx b hp hb => all_of (by kernel_rfl : loopsOf (Tryz.f316.body.getD .skip) = [nthLoop Tryz.f316 0]) ⟨lo_i_WinOk_4 cx hp, trivial⟩ b hb) (R := (Bool × Unit)) (T := fun (d : aden P_i_WinOk) => T_i_WinOk d.1) e_i_WinOk
def P_i_EpOk : List (Bool × List Sh) := [(true, h_4)]
def O_i_EpOk (r : (Bool × Unit)) : List RV × List RV := ([rv (false, [.bool]) r], [])
def C_i_EpOk : Fns := [(51, .plain, F_i_within), (316, .plain, F_i_WinOk)]
def F_i_EpOk : Fun1 := funV P_i_EpOk (fun d => (T_i_EpOk d.1).val) O_i_EpOk
def Q_i_EpOk : Loops := fun _ _ => .fail
theorem e_i_EpOk : ∀ d, pcall ⟨lookT tys, ctrOf C_i_EpOk, kindOf C_i_EpOk, 3, 4⟩ 0 Q_i_EpOk Tryz.f274 .plain (mkA P_i_EpOk d) = (T_i_EpOk d.1).run fun r => some (O_i_EpOk r) := fun d => by kernel_rfl
theorem fn_i_EpOk : Fn Tryz.prog 274 .plain F_i_EpOk := fn_of (cfgOk_of mixed tys_ok (show FnsOk Tryz.prog C_i_EpOk from ⟨fn_i_within, fn_i_WinOk, trivial⟩)) Tryz.func274 (by kernel_rfl) (by kernel_rfl) (fun cx b hp hb => all_of (by kernel_rfl : loopsOf (Tryz.f274.body.getD .skip) = []) trivial b hb) (R := (Bool × Unit)) (T := fun (d : aden P_i_EpOk) => T_i_EpOk d.1) e_i_EpOk
def P_i_oldOk : List (Bool × List Sh) := [(true, h_10)]
def O_i_oldOk (r : (Bool × Unit)) : List RV × List RV := ([rv (false, [.bool]) r], [])
def C_i_oldOk : Fns := [(273, .plain, F_i_sameEp), (274, .plain, F_i_EpOk), (51, .plain, F_i_within)]
def F_i_oldOk : Fun1 := funV P_i_oldOk (fun d => (T_i_oldOk d.1).val) O_i_oldOk
def Q_i_oldOk : Loops := fun _ _ => .fail
theorem e_i_oldOk : ∀ d, pcall ⟨lookT tys, ctrOf C_i_oldOk, kindOf C_i_oldOk, 3, 4⟩ 0 Q_i_oldOk Tryz.f275 .plain (mkA P_i_oldOk d) = (T_i_oldOk d.1).run fun r => some (O_i_oldOk r) := fun d => by kernel_rfl
theorem fn_i_oldOk : Fn Tryz.prog 275 .plain F_i_oldOk := fn_of (cfgOk_of mixed tys_ok (show FnsOk Tryz.prog C_i_oldOk from ⟨fn_i_sameEp, fn_i_EpOk, fn_i_within, trivial⟩)) Tryz.func275 (by kernel_rfl) (by kernel_rfl) (fun cx b hp hb => all_of (by kernel_rfl : loopsOf (Tryz.f275.body.getD .skip) = []) trivial b hb) (R := (Bool × Unit)) (T := fun (d : aden P_i_oldOk) => T_i_oldOk d.1) e_i_oldOk
def P_i_ChanOk : List (Bool × List Sh) := [(true, h_10)]
def O_i_ChanOk (r : (Bool × Unit)) : List RV × List RV := ([rv (false, [.bool]) r], [])
def C_i_ChanOk : Fns := [(208, .plain, F_i_isRole), (200, .plain, F_i_isNonce), (274, .plain, F_i_EpOk), (275, .plain, F_i_oldOk)]
def F_i_ChanOk : Fun1 := funV P_i_ChanOk (fun d => (T_i_ChanOk d.1).val) O_i_ChanOk
def Q_i_ChanOk : Loops := fun _ _ => .fail
theorem e_i_ChanOk : ∀ d, pcall ⟨lookT tys, ctrOf C_i_ChanOk, kindOf C_i_ChanOk, 3, 4⟩ 0 Q_i_ChanOk Tryz.f202 .plain (mkA P_i_ChanOk d) = (T_i_ChanOk d.1).run fun r => some (O_i_ChanOk r) := fun d => by kernel_rfl
theorem fn_i_ChanOk : Fn Tryz.prog 202 .plain F_i_ChanOk := fn_of (cfgOk_of mixed tys_ok (show FnsOk Tryz.prog C_i_ChanOk from ⟨fn_i_isRole, fn_i_isNonce, fn_i_EpOk, fn_i_oldOk, trivial⟩)) Tryz.func202 (by kernel_rfl) (by kernel_rfl) (fun cx b hp hb => all_of (by kernel_rfl : loopsOf (Tryz.f202.body.getD .skip) = []) trivial b hb) (R := (Bool × Unit)) (T := fun (d : aden P_i_ChanOk) => T_i_ChanOk d.1) e_i_ChanOk
def P_i_AddrOk : List (Bool × List Sh) := [(true, [.int .i64, .int .i64])]
def O_i_AddrOk (r : (Bool × Unit)) : List RV × List RV := ([rv (false, [.bool]) r], [])
def C_i_AddrOk : Fns := [(51, .plain, F_i_within)]
def F_i_AddrOk : Fun1 := funV P_i_AddrOk (fun d => (T_i_AddrOk d.1).val) O_i_AddrOk
def Q_i_AddrOk : Loops := fun _ _ => .fail
theorem e_i_AddrOk : ∀ d, pcall ⟨lookT tys, ctrOf C_i_AddrOk, kindOf C_i_AddrOk, 3, 4⟩ 0 Q_i_AddrOk Tryz.f107 .plain (mkA P_i_AddrOk d) = (T_i_AddrOk d.1).run fun r => some (O_i_AddrOk r) := fun d => by kernel_rfl
theorem fn_i_AddrOk : Fn Tryz.prog 107 .plain F_i_AddrOk := fn_of (cfgOk_of mixed tys_ok (show FnsOk Tryz.prog C_i_AddrOk from ⟨fn_i_within, trivial⟩)) Tryz.func107 (by kernel_rfl) (by kernel_rfl) (fun cx b hp hb => all_of (by kernel_rfl : loopsOf (Tryz.f107.body.getD .skip) = []) trivial b hb) (R := (Bool × Unit)) (T := fun (d : aden P_i_AddrOk) => T_i_AddrOk d.1) e_i_AddrOk
def P_i_PathsOk : List (Bool × List Sh) := [(true, h_6)]
def O_i_PathsOk (r : (Bool × Unit)) : List RV × List RV := ([rv (false, [.bool]) r], [])
def C_i_PathsOk : Fns := [(107, .plain, F_i_AddrOk), (200, .plain, F_i_isNonce), (51, .plain, F_i_within)]
def F_i_PathsOk : Fun1 := funV P_i_PathsOk (fun d => (T_i_PathsOk d.1).val) O_i_PathsOk
def K_i_PathsOk_4 : Sk := ⟨[(1, .box 1 0), (18, .v false [(.sl 224 h_3, .ro)]), (19, .v false [(.int .i64, .nil)]), (20, .v false [(.int .i64, .nil)])], [(1, [(.int .i64, .nil), (.int .i64, .nil), (.sl 224 h_3, .ro)])], []⟩
def X_i_PathsOk_4 : List (Ex × Sk) := [(.ret, ⟨[(2, .v false [(.bool, .nil)])], [], []⟩), ((.exit 0), ⟨[], [], []⟩)]
def K_i_PathsOk_9 : Sk := ⟨[(1, .box 1 0), (4, .box 4 0), (18, .v false [(.sl 224 h_3, .ro)]), (19, .v false [(.int .i64, .nil)]), (20, .v false [(.int .i64, .nil)]), (51, .v false [(.sl 224 h_3, .ro)]), (52, .v false [(.int .i64, .nil)]), (53, .v false [(.int .i64, .nil)])], [(1, [(.int .i64, .nil), (.int .i64, .nil), (.sl 224 h_3, .ro)]), (4, [(.int .i64, .nil), (.int .i64, .nil), (.sl 5 [.int .u8], .ro), (.int .i64, .nil)])], []⟩
def X_i_PathsOk_9 : List (Ex × Sk) := [(.ret, ⟨[(2, .v false [(.bool, .nil)])], [], []⟩), ((.exit 2), ⟨[(1, .box 1 0), (18, .v false [(.sl 224 h_3, .ro)]), (19, .v false [(.int .i64, .nil)]), (20, .v false [(.int .i64, .nil)])], [(1, [(.int .i64, .nil), (.int .i64, .nil), (.sl 224 h_3, .ro)])], []⟩)]
def Q_i_PathsOk : Loops := fun i st => cond (Nat.beq i 9) (lam K_i_PathsOk_9 10000000 X_i_PathsOk_9 B_i_PathsOk_9 st) <| cond (Nat.beq i 4) (lam K_i_PathsOk_4 5000000 X_i_PathsOk_4 B_i_PathsOk_4 st) <| .fail
theorem lp_i_PathsOk_9 : ∀ d, bod ⟨lookT tys, ctrOf C_i_PathsOk, kindOf C_i_PathsOk, 3, 4⟩ 0 Tryz.f203.ntmps Q_i_PathsOk (nthLoop Tryz.f203 1) K_i_PathsOk_9 10000000 X_i_PathsOk_9 d = B_i_PathsOk_9 d := fun d => by kernel_rfl
theorem lo_i_PathsOk_9 (cx : Cx) (hp : cx.pin.length ≤ 0) : LoopOk Tryz.prog cx Tryz.f203.ntmps Q_i_PathsOk (nthLoop Tryz.f203 1) := loop_of (cfgOk_of mixed tys_ok (show FnsOk Tryz.prog C_i_PathsOk from ⟨fn_i_AddrOk, fn_i_isNonce, fn_i_within, trivial⟩)) hp (all_of (by kernel_rfl : loopsOf (nthLoop Tryz.f203 1) = []) trivial) (by kernel_rfl) lp_i_PathsOk_9
theorem lp_i_PathsOk_4 : ∀ d, bod ⟨lookT tys, ctrOf C_i_PathsOk, kindOf C_i_PathsOk, 3, 4⟩ 0 Tryz.f203.ntmps Q_i_PathsOk (nthLoop Tryz.f203 0) K_i_PathsOk_4 5000000 X_i_PathsOk_4 d = B_i_PathsOk_4 d := fun d => by kernel_rfl
theorem lo_i_PathsOk_4 (cx : Cx) (hp : cx.pin.length ≤ 0) : LoopOk Tryz.prog cx Tryz.f203.ntmps Q_i_PathsOk (nthLoop Tryz.f203 0) := loop_of (cfgOk_of mixed tys_ok (show FnsOk Tryz.prog C_i_PathsOk from ⟨fn_i_AddrOk, fn_i_isNonce, fn_i_within, trivial⟩)) hp (all_of (by kernel_rfl : loopsOf (nthLoop Tryz.f203 0) = [nthLoop Tryz.f203 1]) ⟨lo_i_PathsOk_9 cx hp, trivial⟩) (by kernel_rfl) lp_i_PathsOk_4
theorem e_i_PathsOk : ∀ d, pcall ⟨lookT tys, ctrOf C_i_PathsOk, kindOf C_i_PathsOk, 3, 4⟩ 0 Q_i_PathsOk Tryz.f203 .plain (mkA P_i_PathsOk d) = (T_i_PathsOk d.1).run fun r => some (O_i_PathsOk r) := fun d => by kernel_rfl
theorem fn_i_PathsOk : Fn Tryz.prog 203 .plain F_i_PathsOk := fn_of (cfgOk_of mixed tys_ok (show FnsOk Tryz.prog C_i_PathsOk from ⟨fn_i_AddrOk, fn_i_isNonce, fn_i_within, trivial⟩)) Tryz.func203 (by kernel_rfl) (by kernel_rfl) (fun cx b hp hb => all_of (by kernel_rfl : loopsOf (Tryz.f203.body.getD .skip) = [nthLoop Tryz.f203 0]) ⟨lo_i_PathsOk_4 cx hp, trivial⟩ b hb) (R := (Bool × Unit)) (T := fun (d : aden P_i_PathsOk) => T_i_PathsOk d.1) e_i_PathsOk
def P_i_SessOk : List (Bool × List Sh) := [(true, h_12)]
def O_i_SessOk (r : (Bool × Unit)) : List RV × List RV := ([rv (false, [.bool]) r], [])
def C_i_SessOk : Fns := [(51, .plain, F_i_within), (200, .plain, F_i_isNonce), (201, .plain, F_i_isZeroChan), (202, .plain, F_i_ChanOk), (176, .plain, F_bytes_Equal), (203, .plain, F_i_PathsOk)]
def F_i_SessOk : Fun1 := funV P_i_SessOk (fun d => (T_i_SessOk d.1).val) O_i_SessOk
def Q_i_SessOk : Loops := fun _ _ => .fail
theorem e_i_SessOk : ∀ d, pcall ⟨lookT tys, ctrOf C_i_SessOk, kindOf C_i_SessOk, 3, 4⟩ 0 Q_i_SessOk Tryz.f106 .plain (mkA P_i_SessOk d) = (T_i_SessOk d.1).run fun r => some (O_i_SessOk r) := fun d => by kernel_rfl
theorem fn_i_SessOk : Fn Tryz.prog 106 .plain F_i_SessOk := fn_of (cfgOk_of mixed tys_ok (show FnsOk Tryz.prog C_i_SessOk from ⟨fn_i_within, fn_i_isNonce, fn_i_isZeroChan, fn_i_ChanOk, fn_bytes_Equal, fn_i_PathsOk, trivial⟩)) Tryz.func106 (by kernel_rfl) (by kernel_rfl) (fun cx b hp hb => all_of (by kernel_rfl : loopsOf (Tryz.f106.body.getD .skip) = []) trivial b hb) (R := (Bool × Unit)) (T := fun (d : aden P_i_SessOk) => T_i_SessOk d.1) e_i_SessOk
def P_i_FindSn : List (Bool × List Sh) := [(true, [.int .i64, .sl 86 h_12]), (false, [.sl 5 [.int .u8]])]
def O_i_FindSn (r : (YI)) : List RV × List RV := ([rv (false, [.int .i64]) r], [])
def C_i_FindSn : Fns := [(176, .plain, F_bytes_Equal)]
def F_i_FindSn : Fun1 := funV P_i_FindSn (fun d => (T_i_FindSn d.1 d.2.1).val) O_i_FindSn
def K_i_FindSn_2 : Sk := ⟨[(1, .v false [(.sl 5 [.int .u8], .ro)]), (8, .v false [(.sl 86 h_12, .ro)]), (9, .v false [(.int .i64, .nil)]), (10, .v false [(.int .i64, .nil)])], [], []⟩
def X_i_FindSn_2 : List (Ex × Sk) := [(.ret, ⟨[(4, .v false [(.int .i64, .nil)])], [], []⟩), ((.exit 0), ⟨[], [], []⟩)]
def Q_i_FindSn : Loops := fun i st => cond (Nat.beq i 2) (lam K_i_FindSn_2 3000000 X_i_FindSn_2 B_i_FindSn_2 st) <| .fail
theorem lp_i_FindSn_2 : ∀ d, bod ⟨lookT tys, ctrOf C_i_FindSn, kindOf C_i_FindSn, 3, 4⟩ 0 Tryz.f71.ntmps Q_i_FindSn (nthLoop Tryz.f71 0) K_i_FindSn_2 3000000 X_i_FindSn_2 d = B_i_FindSn_2 d := fun d => by kernel_rfl
theorem lo_i_FindSn_2 (cx : Cx) (hp : cx.pin.length ≤ 0) : LoopOk Tryz.prog cx Tryz.f71.ntmps Q_i_FindSn (nthLoop Tryz.f71 0) := loop_of (cfgOk_of mixed tys_ok (show FnsOk Tryz.prog C_i_FindSn from ⟨fn_bytes_Equal, trivial⟩)) hp (all_of (by kernel_rfl : loopsOf (nthLoop Tryz.f71 0) = []) trivial) (by kernel_rfl) lp_i_FindSn_2
theorem e_i_FindSn : ∀ d, pcall ⟨lookT tys, ctrOf C_i_FindSn, kindOf C_i_FindSn, 3, 4⟩ 0 Q_i_FindSn Tryz.f71 .plain (mkA P_i_FindSn d) = (T_i_FindSn d.1 d.2.1).run fun r => some (O_i_FindSn r) := fun d => by kernel_rfl
theorem fn_i_FindSn : Fn Tryz.prog 71 .plain F_i_FindSn := fn_of (cfgOk_of mixed tys_ok (show FnsOk Tryz.prog C_i_FindSn from ⟨fn_bytes_Equal, trivial⟩)) Tryz.func71 (by kernel_rfl) (by kernel_rfl) (fun cx b hp hb => all_of (by kernel_rfl : loopsOf (Tryz.f71.body.getD .skip) = [nthLoop Tryz.f71 0]) ⟨lo_i_FindSn_2 cx hp, trivial⟩ b hb) (R := (YI)) (T := fun (d : aden P_i_FindSn) => T_i_FindSn d.1 d.2.1) e_i_FindSn
def P_i_TabOk : List (Bool × List Sh) := [(true, [.int .i64, .sl 86 h_12])]
def O_i_TabOk (r : (Bool × Unit)) : List RV × List RV := ([rv (false, [.bool]) r], [])
def C_i_TabOk : Fns := [(51, .plain, F_i_within), (156, .plain, F_i_Live), (106, .plain, F_i_SessOk), (71, .plain, F_i_FindSn)]
def F_i_TabOk : Fun1 := funV P_i_TabOk (fun d => (T_i_TabOk d.1).val) O_i_TabOk
def K_i_TabOk_4 : Sk := ⟨[(1, .box 1 0), (23, .v false [(.sl 86 h_12, .ro)]), (24, .v false [(.int .i64, .nil)]), (25, .v false [(.int .i64, .nil)])], [(1, [(.int .i64, .nil), (.sl 86 h_12, .ro)])], []⟩
def X_i_TabOk_4 : List (Ex × Sk) := [(.ret, ⟨[(2, .v false [(.bool, .nil)])], [], []⟩), ((.exit 0), ⟨[], [], []⟩)]
def Q_i_TabOk : Loops := fun i st => cond (Nat.beq i 4) (lam K_i_TabOk_4 5000000 X_i_TabOk_4 B_i_TabOk_4 st) <| .fail
theorem lp_i_TabOk_4 : ∀ d, bod ⟨lookT tys, ctrOf C_i_TabOk, kindOf C_i_TabOk, 3, 4⟩ 0 Tryz.f50.ntmps Q_i_TabOk (nthLoop Tryz.f50 0) K_i_TabOk_4 5000000 X_i_TabOk_4 d = B_i_TabOk_4 d := fun d => by kernel_rfl
theorem lo_i_TabOk_4 (cx : Cx) (hp : cx.pin.length ≤ 0) : LoopOk Tryz.prog cx Tryz.f50.ntmps Q_i_TabOk (nthLoop Tryz.f50 0) := loop_of (cfgOk_of mixed tys_ok (show FnsOk Tryz.prog C_i_TabOk from ⟨fn_i_within, fn_i_Live, fn_i_SessOk, fn_i_FindSn, trivial⟩)) hp (all_of (by kernel_rfl : loopsOf (nthLoop Tryz.f50 0) = []) trivial) (by kernel_rfl) lp_i_TabOk_4
theorem e_i_TabOk : ∀ d, pcall ⟨lookT tys, ctrOf C_i_TabOk, kindOf C_i_TabOk, 3, 4⟩ 0 Q_i_TabOk Tryz.f50 .plain (mkA P_i_TabOk d) = (T_i_TabOk d.1).run fun r => some (O_i_TabOk r) := fun d => by kernel_rfl
theorem fn_i_TabOk : Fn Tryz.prog 50 .plain F_i_TabOk := fn_of (cfgOk_of mixed tys_ok (show FnsOk Tryz.prog C_i_TabOk from ⟨fn_i_within, fn_i_Live, fn_i_SessOk, fn_i_FindSn, trivial⟩)) Tryz.func50 (by kernel_rfl) (by kernel_rfl) (fun cx b hp hb => all_of (by kernel_rfl : loopsOf (Tryz.f50.body.getD .skip) = [nthLoop Tryz.f50 0]) ⟨lo_i_TabOk_4 cx hp, trivial⟩ b hb) (R := (Bool × Unit)) (T := fun (d : aden P_i_TabOk) => T_i_TabOk d.1) e_i_TabOk
def P_i_clone : List (Bool × List Sh) := [(false, [.sl 5 [.int .u8]])]
def O_i_clone (r : (YBs)) : List RV × List RV := ([rv (false, [.sl 5 [.int .u8]]) r], [])
def C_i_clone : Fns := []
def F_i_clone : Fun1 := funV P_i_clone (fun d => (T_i_clone d.1).val) O_i_clone
def Q_i_clone : Loops := fun _ _ => .fail
theorem e_i_clone : ∀ d, pcall ⟨lookT tys, ctrOf C_i_clone, kindOf C_i_clone, 3, 4⟩ 0 Q_i_clone Tryz.f112 .plain (mkA P_i_clone d) = (T_i_clone d.1).run fun r => some (O_i_clone r) := fun d => by kernel_rfl
theorem fn_i_clone : Fn Tryz.prog 112 .plain F_i_clone := fn_of (cfgOk_of mixed tys_ok (show FnsOk Tryz.prog C_i_clone from trivial)) Tryz.func112 (by kernel_rfl) (by kernel_rfl) (fun cx b hp hb => all_of (by kernel_rfl : loopsOf (Tryz.f112.body.getD .skip) = []) trivial b hb) (R := (YBs)) (T := fun (d : aden P_i_clone) => T_i_clone d.1) e_i_clone
def P_i_copyWin : List (Bool × List Sh) := [(true, [.int .i64, .sl 3 [.int .i64]])]
def O_i_copyWin (r : (YWin)) : List RV × List RV := ([rv (true, [.int .i64, .sl 3 [.int .i64]]) r], [])
def C_i_copyWin : Fns := []
def F_i_copyWin : Fun1 := funV P_i_copyWin (fun d => (T_i_copyWin d.1).val) O_i_copyWin
def Q_i_copyWin : Loops := fun _ _ => .fail
theorem e_i_copyWin : ∀ d, pcall ⟨lookT tys, ctrOf C_i_copyWin, kindOf C_i_copyWin, 3, 4⟩ 0 Q_i_copyWin Tryz.f314 .plain (mkA P_i_copyWin d) = (T_i_copyWin d.1).run fun r => some (O_i_copyWin r) := fun d => by kernel_rfl
theorem fn_i_copyWin : Fn Tryz.prog 314 .plain F_i_copyWin := fn_of (cfgOk_of mixed tys_ok (show FnsOk Tryz.prog C_i_copyWin from trivial)) Tryz.func314 (by kernel_rfl) (by kernel_rfl) (fun cx b hp hb => all_of (by kernel_rfl : loopsOf (Tryz.f314.body.getD .skip) = []) trivial b hb) (R := (YWin)) (T := fun (d : aden P_i_copyWin) => T_i_copyWin d.1) e_i_copyWin
def P_i_copyEp : List (Bool × List Sh) := [(true, h_4)]
def O_i_copyEp (r : (YEp)) : List RV × List RV := ([rv (true, h_4) r], [])
def C_i_copyEp : Fns := [(112, .plain, F_i_clone), (314, .plain, F_i_copyWin)]
def F_i_copyEp : Fun1 := funV P_i_copyEp (fun d => (T_i_copyEp d.1).val) O_i_copyEp
def Q_i_copyEp : Loops := fun _ _ => .fail
theorem e_i_copyEp : ∀ d, pcall ⟨lookT tys, ctrOf C_i_copyEp, kindOf C_i_copyEp, 3, 4⟩ 0 Q_i_copyEp Tryz.f272 .plain (mkA P_i_copyEp d) = (T_i_copyEp d.1).run fun r => some (O_i_copyEp r) := fun d => by kernel_rfl
theorem fn_i_copyEp : Fn Tryz.prog 272 .plain F_i_copyEp := fn_of (cfgOk_of mixed tys_ok (show FnsOk Tryz.prog C_i_copyEp from ⟨fn_i_clone, fn_i_copyWin, trivial⟩)) Tryz.func272 (by kernel_rfl) (by kernel_rfl) (fun cx b hp hb => all_of (by kernel_rfl : loopsOf (Tryz.f272.body.getD .skip) = []) trivial b hb) (R := (YEp)) (T := fun (d : aden P_i_copyEp) => T_i_copyEp d.1) e_i_copyEp
def P_i_copyChan : List (Bool × List Sh) := [(true, h_10)]
def O_i_copyChan (r : (YChan)) : List RV × List RV := ([rv (true, h_10) r], [])
def C_i_copyChan : Fns := [(112, .plain, F_i_clone), (272, .plain, F_i_copyEp)]
def F_i_copyChan : Fun1 := funV P_i_copyChan (fun d => (T_i_copyChan d.1).val) O_i_copyChan
def Q_i_copyChan : Loops := fun _ _ => .fail
theorem e_i_copyChan : ∀ d, pcall ⟨lookT tys, ctrOf C_i_copyChan, kindOf C_i_copyChan, 3, 4⟩ 0 Q_i_copyChan Tryz.f198 .plain (mkA P_i_copyChan d) = (T_i_copyChan d.1).run fun r => some (O_i_copyChan r) := fun d => by kernel_rfl
theorem fn_i_copyChan : Fn Tryz.prog 198 .plain F_i_copyChan := fn_of (cfgOk_of mixed tys_ok (show FnsOk Tryz.prog C_i_copyChan from ⟨fn_i_clone, fn_i_copyEp, trivial⟩)) Tryz.func198 (by kernel_rfl) (by kernel_rfl) (fun cx b hp hb => all_of (by kernel_rfl : loopsOf (Tryz.f198.body.getD .skip) = []) trivial b hb) (R := (YChan)) (T := fun (d : aden P_i_copyChan) => T_i_copyChan d.1) e_i_copyChan
def P_i_copyPaths : List (Bool × List Sh) := [(true, h_6)]
def O_i_copyPaths (r : (YPaths)) : List RV × List RV := ([rv (true, h_6) r], [])
def C_i_copyPaths : Fns := [(112, .plain, F_i_clone)]
def F_i_copyPaths : Fun1 := funV P_i_copyPaths (fun d => (T_i_copyPaths d.1).val) O_i_copyPaths
def K_i_copyPaths_3 : Sk := ⟨[(2, .box 2 0), (3, .box 3 0), (10, .v false [(.sl 224 h_3, .ro)]), (11, .v false [(.int .i64, .nil)]), (12, .v false [(.int .i64, .nil)])], [(2, [(.int .i64, .nil), (.int .i64, .nil), (.sl 224 h_3, (.own 4000000))]), (3, [(.int .i64, .nil), (.int .i64, .nil), (.sl 224 h_3, (.own 4000001))])], [4000000, 4000001]⟩
def X_i_copyPaths_3 : List (Ex × Sk) := [((.exit 0), ⟨[(2, .box 2 0), (3, .box 3 0)], [(2, [(.int .i64, .nil), (.int .i64, .nil), (.sl 224 h_3, (.own 4000000))]), (3, [(.int .i64, .nil), (.int .i64, .nil), (.sl 224 h_3, (.own 4000001))])], [4000000, 4000001]⟩)]
def Q_i_copyPaths : Loops := fun i st => cond (Nat.beq i 3) (lam K_i_copyPaths_3 4000000 X_i_copyPaths_3 B_i_copyPaths_3 st) <| .fail
theorem lp_i_copyPaths_3 : ∀ d, bod ⟨lookT tys, ctrOf C_i_copyPaths, kindOf C_i_copyPaths, 3, 4⟩ 0 Tryz.f199.ntmps Q_i_copyPaths (nthLoop Tryz.f199 0) K_i_copyPaths_3 4000000 X_i_copyPaths_3 d = B_i_copyPaths_3 d := fun d => by kernel_rfl
theorem lo_i_copyPaths_3 (cx : Cx) (hp : cx.pin.length ≤ 0) : LoopOk Tryz.prog cx Tryz.f199.ntmps Q_i_copyPaths (nthLoop Tryz.f199 0) := loop_of (cfgOk_of mixed tys_ok (show FnsOk Tryz.prog C_i_copyPaths from ⟨fn_i_clone, trivial⟩)) hp (all_of (by kernel_rfl : loopsOf (nthLoop Tryz.f199 0) = []) trivial) (by kernel_rfl) lp_i_copyPaths_3
theorem e_i_copyPaths : ∀ d, pcall ⟨lookT tys, ctrOf C_i_copyPaths, kindOf C_i_copyPaths, 3, 4⟩ 0 Q_i_copyPaths Tryz.f199 .plain (mkA P_i_copyPaths d) = (T_i_copyPaths d.1).run fun r => some (O_i_copyPaths r) := fun d => by kernel_rfl
theorem fn_i_copyPaths : Fn Tryz.prog 199 .plain F_i_copyPaths := fn_of (cfgOk_of mixed tys_ok (show FnsOk Tryz.prog C_i_copyPaths from ⟨fn_i_clone, trivial⟩)) Tryz.func199 (by kernel_rfl) (by kernel_rfl) (fun cx b hp hb => all_of (by kernel_rfl : loopsOf (Tryz.f199.body.getD .skip) = [nthLoop Tryz.f199 0]) ⟨lo_i_copyPaths_3 cx hp, trivial⟩ b hb) (R := (YPaths)) (T := fun (d : aden P_i_copyPaths) => T_i_copyPaths d.1) e_i_copyPaths
def P_i_copySess : List (Bool × List Sh) := [(true, h_12)]
def O_i_copySess (r : (YSess)) : List RV × List RV := ([rv (true, h_12) r], [])
def C_i_copySess : Fns := [(112, .plain, F_i_clone), (198, .plain, F_i_copyChan), (199, .plain, F_i_copyPaths)]
def F_i_copySess : Fun1 := funV P_i_copySess (fun d => (T_i_copySess d.1).val) O_i_copySess
def Q_i_copySess : Loops := fun _ _ => .fail
theorem e_i_copySess : ∀ d, pcall ⟨lookT tys, ctrOf C_i_copySess, kindOf C_i_copySess, 3, 4⟩ 0 Q_i_copySess Tryz.f105 .plain (mkA P_i_copySess d) = (T_i_copySess d.1).run fun r => some (O_i_copySess r) := fun d => by kernel_rfl
theorem fn_i_copySess : Fn Tryz.prog 105 .plain F_i_copySess := fn_of (cfgOk_of mixed tys_ok (show FnsOk Tryz.prog C_i_copySess from ⟨fn_i_clone, fn_i_copyChan, fn_i_copyPaths, trivial⟩)) Tryz.func105 (by kernel_rfl) (by kernel_rfl) (fun cx b hp hb => all_of (by kernel_rfl : loopsOf (Tryz.f105.body.getD .skip) = []) trivial b hb) (R := (YSess)) (T := fun (d : aden P_i_copySess) => T_i_copySess d.1) e_i_copySess
def P_i_copyTab : List (Bool × List Sh) := [(true, [.int .i64, .sl 86 h_12])]
def O_i_copyTab (r : (YTab)) : List RV × List RV := ([rv (true, [.int .i64, .sl 86 h_12]) r], [])
def C_i_copyTab : Fns := [(105, .plain, F_i_copySess)]
def F_i_copyTab : Fun1 := funV P_i_copyTab (fun d => (T_i_copyTab d.1).val) O_i_copyTab
def K_i_copyTab_3 : Sk := ⟨[(2, .box 2 0), (3, .box 3 0), (10, .v false [(.sl 86 h_12, .ro)]), (11, .v false [(.int .i64, .nil)]), (12, .v false [(.int .i64, .nil)])], [(2, [(.int .i64, .nil), (.sl 86 h_12, (.own 4000000))]), (3, [(.int .i64, .nil), (.sl 86 h_12, (.own 4000001))])], [4000000, 4000001]⟩
def X_i_copyTab_3 : List (Ex × Sk) := [((.exit 0), ⟨[(2, .box 2 0), (3, .box 3 0)], [(2, [(.int .i64, .nil), (.sl 86 h_12, (.own 4000000))]), (3, [(.int .i64, .nil), (.sl 86 h_12, (.own 4000001))])], [4000000, 4000001]⟩)]
def Q_i_copyTab : Loops := fun i st => cond (Nat.beq i 3) (lam K_i_copyTab_3 4000000 X_i_copyTab_3 B_i_copyTab_3 st) <| .fail
theorem lp_i_copyTab_3 : ∀ d, bod ⟨lookT tys, ctrOf C_i_copyTab, kindOf C_i_copyTab, 3, 4⟩ 0 Tryz.f52.ntmps Q_i_copyTab (nthLoop Tryz.f52 0) K_i_copyTab_3 4000000 X_i_copyTab_3 d = B_i_copyTab_3 d := fun d => by kernel_rfl
theorem lo_i_copyTab_3 (cx : Cx) (hp : cx.pin.length ≤ 0) : LoopOk Tryz.prog cx Tryz.f52.ntmps Q_i_copyTab (nthLoop Tryz.f52 0) := loop_of (cfgOk_of mixed tys_ok (show FnsOk Tryz.prog C_i_copyTab from ⟨fn_i_copySess, trivial⟩)) hp (all_of (by kernel_rfl : loopsOf (nthLoop Tryz.f52 0) = []) trivial) (by kernel_rfl) lp_i_copyTab_3
theorem e_i_copyTab : ∀ d, pcall ⟨lookT tys, ctrOf C_i_copyTab, kindOf C_i_copyTab, 3, 4⟩ 0 Q_i_copyTab Tryz.f52 .plain (mkA P_i_copyTab d) = (T_i_copyTab d.1).run fun r => some (O_i_copyTab r) := fun d => by kernel_rfl
theorem fn_i_copyTab : Fn Tryz.prog 52 .plain F_i_copyTab := fn_of (cfgOk_of mixed tys_ok (show FnsOk Tryz.prog C_i_copyTab from ⟨fn_i_copySess, trivial⟩)) Tryz.func52 (by kernel_rfl) (by kernel_rfl) (fun cx b hp hb => all_of (by kernel_rfl : loopsOf (Tryz.f52.body.getD .skip) = [nthLoop Tryz.f52 0]) ⟨lo_i_copyTab_3 cx hp, trivial⟩ b hb) (R := (YTab)) (T := fun (d : aden P_i_copyTab) => T_i_copyTab d.1) e_i_copyTab
def P_i_Bury : List (Bool × List Sh) := [(true, h_12)]
def O_i_Bury (r : (YSess)) : List RV × List RV := ([rv (true, h_12) r], [])
def C_i_Bury : Fns := [(106, .plain, F_i_SessOk), (105, .plain, F_i_copySess), (112, .plain, F_i_clone)]
def F_i_Bury : Fun1 := funV P_i_Bury (fun d => (T_i_Bury d.1).val) O_i_Bury
def Q_i_Bury : Loops := fun _ _ => .fail
theorem e_i_Bury : ∀ d, pcall ⟨lookT tys, ctrOf C_i_Bury, kindOf C_i_Bury, 3, 4⟩ 0 Q_i_Bury Tryz.f157 .plain (mkA P_i_Bury d) = (T_i_Bury d.1).run fun r => some (O_i_Bury r) := fun d => by kernel_rfl
theorem fn_i_Bury : Fn Tryz.prog 157 .plain F_i_Bury := fn_of (cfgOk_of mixed tys_ok (show FnsOk Tryz.prog C_i_Bury from ⟨fn_i_SessOk, fn_i_copySess, fn_i_clone, trivial⟩)) Tryz.func157 (by kernel_rfl) (by kernel_rfl) (fun cx b hp hb => all_of (by kernel_rfl : loopsOf (Tryz.f157.body.getD .skip) = []) trivial b hb) (R := (YSess)) (T := fun (d : aden P_i_Bury) => T_i_Bury d.1) e_i_Bury
def P_i_ChanTick : List (Bool × List Sh) := [(true, h_10), (false, [.int .i64])]
def O_i_ChanTick (r : (YChan)) : List RV × List RV := ([rv (true, h_10) r], [])
def C_i_ChanTick : Fns := [(198, .plain, F_i_copyChan), (202, .plain, F_i_ChanOk), (51, .plain, F_i_within)]
def F_i_ChanTick : Fun1 := funV P_i_ChanTick (fun d => (T_i_ChanTick d.1 d.2.1).val) O_i_ChanTick
def Q_i_ChanTick : Loops := fun _ _ => .fail
theorem e_i_ChanTick : ∀ d, pcall ⟨lookT tys, ctrOf C_i_ChanTick, kindOf C_i_ChanTick, 3, 4⟩ 0 Q_i_ChanTick Tryz.f158 .plain (mkA P_i_ChanTick d) = (T_i_ChanTick d.1 d.2.1).run fun r => some (O_i_ChanTick r) := fun d => by kernel_rfl
theorem fn_i_ChanTick : Fn Tryz.prog 158 .plain F_i_ChanTick := fn_of (cfgOk_of mixed tys_ok (show FnsOk Tryz.prog C_i_ChanTick from ⟨fn_i_copyChan, fn_i_ChanOk, fn_i_within, trivial⟩)) Tryz.func158 (by kernel_rfl) (by kernel_rfl) (fun cx b hp hb => all_of (by kernel_rfl : loopsOf (Tryz.f158.body.getD .skip) = []) trivial b hb) (R := (YChan)) (T := fun (d : aden P_i_ChanTick) => T_i_ChanTick d.1 d.2.1) e_i_ChanTick
def P_i_withoutExpired : List (Bool × List Sh) := [(true, h_6), (false, [.int .i64])]
def O_i_withoutExpired (r : (YPaths)) : List RV × List RV := ([rv (true, h_6) r], [])
def C_i_withoutExpired : Fns := [(199, .plain, F_i_copyPaths)]
def F_i_withoutExpired : Fun1 := funV P_i_withoutExpired (fun d => (T_i_withoutExpired d.1 d.2.1).val) O_i_withoutExpired
def K_i_withoutExpired_3 : Sk := ⟨[(1, .v false [(.int .i64, .nil)]), (4, .box 4 0), (5, .box 5 0), (13, .v false [(.sl 224 h_3, (.own 4000000))]), (14, .v false [(.int .i64, .nil)]), (15, .v false [(.int .i64, .nil)])], [(4, [(.int .i64, .nil), (.int .i64, .nil), (.sl 224 h_3, (.own 4000001))]), (5, [(.int .i64, .nil), (.int .i64, .nil), (.sl 224 h_3, (.own 4000002))])], [4000000, 4000001, 4000002]⟩
def X_i_withoutExpired_3 : List (Ex × Sk) := [((.exit 0), ⟨[(4, .box 4 0), (5, .box 5 0)], [(4, [(.int .i64, .nil), (.int .i64, .nil), (.sl 224 h_3, (.own 4000000))]), (5, [(.int .i64, .nil), (.int .i64, .nil), (.sl 224 h_3, (.own 4000001))])], [4000000, 4000001]⟩)]
def Q_i_withoutExpired : Loops := fun i st => cond (Nat.beq i 3) (lam K_i_withoutExpired_3 4000000 X_i_withoutExpired_3 B_i_withoutExpired_3 st) <| .fail
theorem lp_i_withoutExpired_3 : ∀ d, bod2 ⟨lookT tys, ctrOf C_i_withoutExpired, kindOf C_i_withoutExpired, 3, 4⟩ 0 Tryz.f214.ntmps Q_i_withoutExpired (nthLoop Tryz.f214 0) K_i_withoutExpired_3 4000000 X_i_withoutExpired_3 13 15 4500000 d = B_i_withoutExpired_3 d := fun d => by kernel_rfl
theorem lo_i_withoutExpired_3 (cx : Cx) (hp : cx.pin.length ≤ 0) : LoopOk Tryz.prog cx Tryz.f214.ntmps Q_i_withoutExpired (nthLoop Tryz.f214 0) := loop_of2 (cfgOk_of mixed tys_ok (show FnsOk Tryz.prog C_i_withoutExpired from ⟨fn_i_copyPaths, trivial⟩)) hp (all_of (by kernel_rfl : loopsOf (nthLoop Tryz.f214 0) = []) trivial) 13 15 4500000 (by kernel_rfl) (by kernel_rfl) lp_i_withoutExpired_3
theorem e_i_withoutExpired : ∀ d, pcall ⟨lookT tys, ctrOf C_i_withoutExpired, kindOf C_i_withoutExpired, 3, 4⟩ 0 Q_i_withoutExpired Tryz.f214 .plain (mkA P_i_withoutExpired d) = (T_i_withoutExpired d.1 d.2.1).run fun r => some (O_i_withoutExpired r) := fun d => by kernel_rfl
theorem fn_i_withoutExpired : Fn Tryz.prog 214 .plain F_i_withoutExpired := fn_of (cfgOk_of mixed tys_ok (show FnsOk Tryz.prog C_i_withoutExpired from ⟨fn_i_copyPaths, trivial⟩)) Tryz.func214 (by kernel_rfl) (by kernel_rfl) (fun cx b hp hb => all_of (by kernel_rfl : loopsOf (Tryz.f214.body.getD .skip) = [nthLoop Tryz.f214 0]) ⟨lo_i_withoutExpired_3 cx hp, trivial⟩ b hb) (R := (YPaths)) (T := fun (d : aden P_i_withoutExpired) => T_i_withoutExpired d.1 d.2.1) e_i_withoutExpired
def P_i_PathTick : List (Bool × List Sh) := [(true, h_6), (false, [.int .i64])]
def O_i_PathTick (r : (YPaths)) : List RV × List RV := ([rv (true, h_6) r], [])
def C_i_PathTick : Fns := [(203, .plain, F_i_PathsOk), (51, .plain, F_i_within), (199, .plain, F_i_copyPaths), (214, .plain, F_i_withoutExpired)]
def F_i_PathTick : Fun1 := funV P_i_PathTick (fun d => (T_i_PathTick d.1 d.2.1).val) O_i_PathTick
def Q_i_PathTick : Loops := fun _ _ => .fail
theorem e_i_PathTick : ∀ d, pcall ⟨lookT tys, ctrOf C_i_PathTick, kindOf C_i_PathTick, 3, 4⟩ 0 Q_i_PathTick Tryz.f159 .plain (mkA P_i_PathTick d) = (T_i_PathTick d.1 d.2.1).run fun r => some (O_i_PathTick r) := fun d => by kernel_rfl
theorem fn_i_PathTick : Fn Tryz.prog 159 .plain F_i_PathTick := fn_of (cfgOk_of mixed tys_ok (show FnsOk Tryz.prog C_i_PathTick from ⟨fn_i_PathsOk, fn_i_within, fn_i_copyPaths, fn_i_withoutExpired, trivial⟩)) Tryz.func159 (by kernel_rfl) (by kernel_rfl) (fun cx b hp hb => all_of (by kernel_rfl : loopsOf (Tryz.f159.body.getD .skip) = []) trivial b hb) (R := (YPaths)) (T := fun (d : aden P_i_PathTick) => T_i_PathTick d.1 d.2.1) e_i_PathTick
def P_i_SessTick : List (Bool × List Sh) := [(true, h_12), (false, [.int .i64])]
def O_i_SessTick (r : (YSess)) : List RV × List RV := ([rv (true, h_12) r], [])
def C_i_SessTick : Fns := [(105, .plain, F_i_copySess), (106, .plain, F_i_SessOk), (51, .plain, F_i_within), (157, .plain, F_i_Bury), (158, .plain, F_i_ChanTick), (159, .plain, F_i_PathTick)]
def F_i_SessTick : Fun1 := funV P_i_SessTick (fun d => (T_i_SessTick d.1 d.2.1).val) O_i_SessTick
def Q_i_SessTick : Loops := fun _ _ => .fail
theorem e_i_SessTick : ∀ d, pcall ⟨lookT tys, ctrOf C_i_SessTick, kindOf C_i_SessTick, 3, 4⟩ 0 Q_i_SessTick Tryz.f53 .plain (mkA P_i_SessTick d) = (T_i_SessTick d.1 d.2.1).run fun r => some (O_i_SessTick r) := fun d => by kernel_rfl
theorem fn_i_SessTick : Fn Tryz.prog 53 .plain F_i_SessTick := fn_of (cfgOk_of mixed tys_ok (show FnsOk Tryz.prog C_i_SessTick from ⟨fn_i_copySess, fn_i_SessOk, fn_i_within, fn_i_Bury, fn_i_ChanTick, fn_i_PathTick, trivial⟩)) Tryz.func53 (by kernel_rfl) (by kernel_rfl) (fun cx b hp hb => all_of (by kernel_rfl : loopsOf (Tryz.f53.body.getD .skip) = []) trivial b hb) (R := (YSess)) (T := fun (d : aden P_i_SessTick) => T_i_SessTick d.1 d.2.1) e_i_SessTick
def P_i_TabTick : List (Bool × List Sh) := [(true, [.int .i64, .sl 86 h_12]), (false, [.int .i64])]
def O_i_TabTick (r : (YTab)) : List RV × List RV := ([rv (true, [.int .i64, .sl 86 h_12]) r], [])
def C_i_TabTick : Fns := [(50, .plain, F_i_TabOk), (51, .plain, F_i_within), (52, .plain, F_i_copyTab), (53, .plain, F_i_SessTick)]
def F_i_TabTick : Fun1 := funV P_i_TabTick (fun d => (T_i_TabTick d.1 d.2.1).val) O_i_TabTick
def K_i_TabTick_5 : Sk := ⟨[(1, .v false [(.int .i64, .nil)]), (4, .box 4 0), (5, .box 5 0), (22, .v false [(.sl 86 h_12, .ro)]), (23, .v false [(.int .i64, .nil)]), (24, .v false [(.int .i64, .nil)])], [(4, [(.int .i64, .nil), (.sl 86 h_12, (.own 6000000))]), (5, [(.int .i64, .nil), (.sl 86 h_12, (.own 6000001))])], [6000000, 6000001]⟩
def X_i_TabTick_5 : List (Ex × Sk) := [((.exit 0), ⟨[(4, .box 4 0), (5, .box 5 0)], [(4, [(.int .i64, .nil), (.sl 86 h_12, (.own 6000000))]), (5, [(.int .i64, .nil), (.sl 86 h_12, (.own 6000001))])], [6000000, 6000001]⟩)]
def Q_i_TabTick : Loops := fun i st => cond (Nat.beq i 5) (lam K_i_TabTick_5 6000000 X_i_TabTick_5 B_i_TabTick_5 st) <| .fail
theorem lp_i_TabTick_5 : ∀ d, bod ⟨lookT tys, ctrOf C_i_TabTick, kindOf C_i_TabTick, 3, 4⟩ 0 Tryz.f10.ntmps Q_i_TabTick (nthLoop Tryz.f10 0) K_i_TabTick_5 6000000 X_i_TabTick_5 d = B_i_TabTick_5 d := fun d => by kernel_rfl
theorem lo_i_TabTick_5 (cx : Cx) (hp : cx.pin.length ≤ 0) : LoopOk Tryz.prog cx Tryz.f10.ntmps Q_i_TabTick (nthLoop Tryz.f10 0) := loop_of (cfgOk_of mixed tys_ok (show FnsOk Tryz.prog C_i_TabTick from ⟨fn_i_TabOk, fn_i_within, fn_i_copyTab, fn_i_SessTick, trivial⟩)) hp (all_of (by kernel_rfl : loopsOf (nthLoop Tryz.f10 0) = []) trivial) (by kernel_rfl) lp_i_TabTick_5
theorem e_i_TabTick : ∀ d, pcall ⟨lookT tys, ctrOf C_i_TabTick, kindOf C_i_TabTick, 3, 4⟩ 0 Q_i_TabTick Tryz.f10 .plain (mkA P_i_TabTick d) = (T_i_TabTick d.1 d.2.1).run fun r => some (O_i_TabTick r) := fun d => by kernel_rfl
theorem fn_i_TabTick : Fn Tryz.prog 10 .plain F_i_TabTick := fn_of (cfgOk_of mixed tys_ok (show FnsOk Tryz.prog C_i_TabTick from ⟨fn_i_TabOk, fn_i_within, fn_i_copyTab, fn_i_SessTick, trivial⟩)) Tryz.func10 (by kernel_rfl) (by kernel_rfl) (fun cx b hp hb => all_of (by kernel_rfl : loopsOf (Tryz.f10.body.getD .skip) = [nthLoop Tryz.f10 0]) ⟨lo_i_TabTick_5 cx hp, trivial⟩ b hb) (R := (YTab)) (T := fun (d : aden P_i_TabTick) => T_i_TabTick d.1 d.2.1) e_i_TabTick
def P_l_eqByteS : List (Bool × List Sh) := [(false, [.sl 5 [.int .u8]]), (false, [.sl 5 [.int .u8]])]
def O_l_eqByteS (r : (Bool × Unit)) : List RV × List RV := ([rv (false, [.bool]) r], [])
def C_l_eqByteS : Fns := []
def F_l_eqByteS : Fun1 := funV P_l_eqByteS (fun d => (T_l_eqByteS d.1 d.2.1).val) O_l_eqByteS
def K_l_eqByteS_4 : Sk := ⟨[(0, .v false [(.sl 5 [.int .u8], .ro)]), (1, .v false [(.sl 5 [.int .u8], .ro)]), (5, .v false [(.int .i64, .nil)])], [], []⟩
def X_l_eqByteS_4 : List (Ex × Sk) := [(.ret, ⟨[(4, .v false [(.bool, .nil)])], [], []⟩), ((.exit 0), ⟨[], [], []⟩)]
def Q_l_eqByteS : Loops := fun i st => cond (Nat.beq i 4) (lam K_l_eqByteS_4 5000000 X_l_eqByteS_4 B_l_eqByteS_4 st) <| .fail
theorem lp_l_eqByteS_4 : ∀ d, bod ⟨lookT tys, ctrOf C_l_eqByteS, kindOf C_l_eqByteS, 3, 4⟩ 0 Tryz.f35.ntmps Q_l_eqByteS (nthLoop Tryz.f35 0) K_l_eqByteS_4 5000000 X_l_eqByteS_4 d = B_l_eqByteS_4 d := fun d => by kernel_rfl
theorem lo_l_eqByteS_4 (cx : Cx) (hp : cx.pin.length ≤ 0) : LoopOk Tryz.prog cx Tryz.f35.ntmps Q_l_eqByteS (nthLoop Tryz.f35 0) := loop_of (cfgOk_of mixed tys_ok (show FnsOk Tryz.prog C_l_eqByteS from trivial)) hp (all_of (by kernel_rfl : loopsOf (nthLoop Tryz.f35 0) = []) trivial) (by kernel_rfl) lp_l_eqByteS_4
theorem e_l_eqByteS : ∀ d, pcall ⟨lookT tys, ctrOf C_l_eqByteS, kindOf C_l_eqByteS, 3, 4⟩ 0 Q_l_eqByteS Tryz.f35 .plain (mkA P_l_eqByteS d) = (T_l_eqByteS d.1 d.2.1).run fun r => some (O_l_eqByteS r) := fun d => by kernel_rfl
theorem fn_l_eqByteS : Fn Tryz.prog 35 .plain F_l_eqByteS := fn_of (cfgOk_of mixed tys_ok (show FnsOk Tryz.prog C_l_eqByteS from trivial)) Tryz.func35 (by kernel_rfl) (by kernel_rfl) (fun cx b hp hb => all_of (by kernel_rfl : loopsOf (Tryz.f35.body.getD .skip) = [nthLoop Tryz.f35 0]) ⟨lo_l_eqByteS_4 cx hp, trivial⟩ b hb) (R := (Bool × Unit)) (T := fun (d : aden P_l_eqByteS) => T_l_eqByteS d.1 d.2.1) e_l_eqByteS
def P_l_eqIntS : List (Bool × List Sh) := [(false, [.sl 3 [.int .i64]]), (false, [.sl 3 [.int .i64]])]
def O_l_eqIntS (r : (Bool × Unit)) : List RV × List RV := ([rv (false, [.bool]) r], [])
def C_l_eqIntS : Fns := []
def F_l_eqIntS : Fun1 := funV P_l_eqIntS (fun d => (T_l_eqIntS d.1 d.2.1).val) O_l_eqIntS
def K_l_eqIntS_4 : Sk := ⟨[(0, .v false [(.sl 3 [.int .i64], .ro)]), (1, .v false [(.sl 3 [.int .i64], .ro)]), (5, .v false [(.int .i64, .nil)])], [], []⟩
def X_l_eqIntS_4 : List (Ex × Sk) := [(.ret, ⟨[(4, .v false [(.bool, .nil)])], [], []⟩), ((.exit 0), ⟨[], [], []⟩)]
def Q_l_eqIntS : Loops := fun i st => cond (Nat.beq i 4) (lam K_l_eqIntS_4 5000000 X_l_eqIntS_4 B_l_eqIntS_4 st) <| .fail
theorem lp_l_eqIntS_4 : ∀ d, bod ⟨lookT tys, ctrOf C_l_eqIntS, kindOf C_l_eqIntS, 3, 4⟩ 0 Tryz.f319.ntmps Q_l_eqIntS (nthLoop Tryz.f319 0) K_l_eqIntS_4 5000000 X_l_eqIntS_4 d = B_l_eqIntS_4 d := fun d => by kernel_rfl
theorem lo_l_eqIntS_4 (cx : Cx) (hp : cx.pin.length ≤ 0) : LoopOk Tryz.prog cx Tryz.f319.ntmps Q_l_eqIntS (nthLoop Tryz.f319 0) := loop_of (cfgOk_of mixed tys_ok (show FnsOk Tryz.prog C_l_eqIntS from trivial)) hp (all_of (by kernel_rfl : loopsOf (nthLoop Tryz.f319 0) = []) trivial) (by kernel_rfl) lp_l_eqIntS_4
theorem e_l_eqIntS : ∀ d, pcall ⟨lookT tys, ctrOf C_l_eqIntS, kindOf C_l_eqIntS, 3, 4⟩ 0 Q_l_eqIntS Tryz.f319 .plain (mkA P_l_eqIntS d) = (T_l_eqIntS d.1 d.2.1).run fun r => some (O_l_eqIntS r) := fun d => by kernel_rfl
theorem fn_l_eqIntS : Fn Tryz.prog 319 .plain F_l_eqIntS := fn_of (cfgOk_of mixed tys_ok (show FnsOk Tryz.prog C_l_eqIntS from trivial)) Tryz.func319 (by kernel_rfl) (by kernel_rfl) (fun cx b hp hb => all_of (by kernel_rfl : loopsOf (Tryz.f319.body.getD .skip) = [nthLoop Tryz.f319 0]) ⟨lo_l_eqIntS_4 cx hp, trivial⟩ b hb) (R := (Bool × Unit)) (T := fun (d : aden P_l_eqIntS) => T_l_eqIntS d.1 d.2.1) e_l_eqIntS
def P_l_eqWin : List (Bool × List Sh) := [(true, [.int .i64, .sl 3 [.int .i64]]), (true, [.int .i64, .sl 3 [.int .i64]])]
def O_l_eqWin (r : (Bool × Unit)) : List RV × List RV := ([rv (false, [.bool]) r], [])
def C_l_eqWin : Fns := [(319, .plain, F_l_eqIntS)]
def F_l_eqWin : Fun1 := funV P_l_eqWin (fun d => (T_l_eqWin d.1 d.2.1).val) O_l_eqWin
def Q_l_eqWin : Loops := fun _ _ => .fail
theorem e_l_eqWin : ∀ d, pcall ⟨lookT tys, ctrOf C_l_eqWin, kindOf C_l_eqWin, 3, 4⟩ 0 Q_l_eqWin Tryz.f285 .plain (mkA P_l_eqWin d) = (T_l_eqWin d.1 d.2.1).run fun r => some (O_l_eqWin r) := fun d => by kernel_rfl
theorem fn_l_eqWin : Fn Tryz.prog 285 .plain F_l_eqWin := fn_of (cfgOk_of mixed tys_ok (show FnsOk Tryz.prog C_l_eqWin from ⟨fn_l_eqIntS, trivial⟩)) Tryz.func285 (by kernel_rfl) (by kernel_rfl) (fun cx b hp hb => all_of (by kernel_rfl : loopsOf (Tryz.f285.body.getD .skip) = []) trivial b hb) (R := (Bool × Unit)) (T := fun (d : aden P_l_eqWin) => T_l_eqWin d.1 d.2.1) e_l_eqWin
def P_l_eqEp : List (Bool × List Sh) := [(true, h_4), (true, h_4)]
def O_l_eqEp (r : (Bool × Unit)) : List RV × List RV := ([rv (false, [.bool]) r], [])
def C_l_eqEp : Fns := [(35, .plain, F_l_eqByteS), (285, .plain, F_l_eqWin)]
def F_l_eqEp : Fun1 := funV P_l_eqEp (fun d => (T_l_eqEp d.1 d.2.1).val) O_l_eqEp
def Q_l_eqEp : Loops := fun _ _ => .fail
theorem e_l_eqEp : ∀ d, pcall ⟨lookT tys, ctrOf C_l_eqEp, kindOf C_l_eqEp, 3, 4⟩ 0 Q_l_eqEp Tryz.f217 .plain (mkA P_l_eqEp d) = (T_l_eqEp d.1 d.2.1).run fun r => some (O_l_eqEp r) := fun d => by kernel_rfl
theorem fn_l_eqEp : Fn Tryz.prog 217 .plain F_l_eqEp := fn_of (cfgOk_of mixed tys_ok (show FnsOk Tryz.prog C_l_eqEp from ⟨fn_l_eqByteS, fn_l_eqWin, trivial⟩)) Tryz.func217 (by kernel_rfl) (by kernel_rfl) (fun cx b hp hb => all_of (by kernel_rfl : loopsOf (Tryz.f217.body.getD .skip) = []) trivial b hb) (R := (Bool × Unit)) (T := fun (d : aden P_l_eqEp) => T_l_eqEp d.1 d.2.1) e_l_eqEp
def P_l_eqChan : List (Bool × List Sh) := [(true, h_10), (true, h_10)]
def O_l_eqChan (r : (Bool × Unit)) : List RV × List RV := ([rv (false, [.bool]) r], [])
def C_l_eqChan : Fns := [(35, .plain, F_l_eqByteS), (217, .plain, F_l_eqEp)]
def F_l_eqChan : Fun1 := funV P_l_eqChan (fun d => (T_l_eqChan d.1 d.2.1).val) O_l_eqChan
def Q_l_eqChan : Loops := fun _ _ => .fail
theorem e_l_eqChan : ∀ d, pcall ⟨lookT tys, ctrOf C_l_eqChan, kindOf C_l_eqChan, 3, 4⟩ 0 Q_l_eqChan Tryz.f118 .plain (mkA P_l_eqChan d) = (T_l_eqChan d.1 d.2.1).run fun r => some (O_l_eqChan r) := fun d => by kernel_rfl
theorem fn_l_eqChan : Fn Tryz.prog 118 .plain F_l_eqChan := fn_of (cfgOk_of mixed tys_ok (show FnsOk Tryz.prog C_l_eqChan from ⟨fn_l_eqByteS, fn_l_eqEp, trivial⟩)) Tryz.func118 (by kernel_rfl) (by kernel_rfl) (fun cx b hp hb => all_of (by kernel_rfl : loopsOf (Tryz.f118.body.getD .skip) = []) trivial b hb) (R := (Bool × Unit)) (T := fun (d : aden P_l_eqChan) => T_l_eqChan d.1 d.2.1) e_l_eqChan
def P_l_eqAddr : List (Bool × List Sh) := [(true, [.int .i64, .int .i64]), (true, [.int .i64, .int .i64])]
def O_l_eqAddr (r : (Bool × Unit)) : List RV × List RV := ([rv (false, [.bool]) r], [])
def C_l_eqAddr : Fns := []
def F_l_eqAddr : Fun1 := funV P_l_eqAddr (fun d => (T_l_eqAddr d.1 d.2.1).val) O_l_eqAddr
def Q_l_eqAddr : Loops := fun _ _ => .fail
theorem e_l_eqAddr : ∀ d, pcall ⟨lookT tys, ctrOf C_l_eqAddr, kindOf C_l_eqAddr, 3, 4⟩ 0 Q_l_eqAddr Tryz.f178 .plain (mkA P_l_eqAddr d) = (T_l_eqAddr d.1 d.2.1).run fun r => some (O_l_eqAddr r) := fun d => by kernel_rfl
theorem fn_l_eqAddr : Fn Tryz.prog 178 .plain F_l_eqAddr := fn_of (cfgOk_of mixed tys_ok (show FnsOk Tryz.prog C_l_eqAddr from trivial)) Tryz.func178 (by kernel_rfl) (by kernel_rfl) (fun cx b hp hb => all_of (by kernel_rfl : loopsOf (Tryz.f178.body.getD .skip) = []) trivial b hb) (R := (Bool × Unit)) (T := fun (d : aden P_l_eqAddr) => T_l_eqAddr d.1 d.2.1) e_l_eqAddr
def P_l_eqCand : List (Bool × List Sh) := [(true, h_3), (true, h_3)]
def O_l_eqCand (r : (Bool × Unit)) : List RV × List RV := ([rv (false, [.bool]) r], [])
def C_l_eqCand : Fns := [(178, .plain, F_l_eqAddr), (35, .plain, F_l_eqByteS)]
def F_l_eqCand : Fun1 := funV P_l_eqCand (fun d => (T_l_eqCand d.1 d.2.1).val) O_l_eqCand
def Q_l_eqCand : Loops := fun _ _ => .fail
theorem e_l_eqCand : ∀ d, pcall ⟨lookT tys, ctrOf C_l_eqCand, kindOf C_l_eqCand, 3, 4⟩ 0 Q_l_eqCand Tryz.f286 .plain (mkA P_l_eqCand d) = (T_l_eqCand d.1 d.2.1).run fun r => some (O_l_eqCand r) := fun d => by kernel_rfl
theorem fn_l_eqCand : Fn Tryz.prog 286 .plain F_l_eqCand := fn_of (cfgOk_of mixed tys_ok (show FnsOk Tryz.prog C_l_eqCand from ⟨fn_l_eqAddr, fn_l_eqByteS, trivial⟩)) Tryz.func286 (by kernel_rfl) (by kernel_rfl) (fun cx b hp hb => all_of (by kernel_rfl : loopsOf (Tryz.f286.body.getD .skip) = []) trivial b hb) (R := (Bool × Unit)) (T := fun (d : aden P_l_eqCand) => T_l_eqCand d.1 d.2.1) e_l_eqCand
def P_l_eqCandS : List (Bool × List Sh) := [(false, [.sl 224 h_3]), (false, [.sl 224 h_3])]
def O_l_eqCandS (r : (Bool × Unit)) : List RV × List RV := ([rv (false, [.bool]) r], [])
def C_l_eqCandS : Fns := [(286, .plain, F_l_eqCand)]
def F_l_eqCandS : Fun1 := funV P_l_eqCandS (fun d => (T_l_eqCandS d.1 d.2.1).val) O_l_eqCandS
def K_l_eqCandS_4 : Sk := ⟨[(0, .v false [(.sl 224 h_3, .ro)]), (1, .v false [(.sl 224 h_3, .ro)]), (5, .v false [(.int .i64, .nil)])], [], []⟩
def X_l_eqCandS_4 : List (Ex × Sk) := [(.ret, ⟨[(4, .v false [(.bool, .nil)])], [], []⟩), ((.exit 0), ⟨[], [], []⟩)]
def Q_l_eqCandS : Loops := fun i st => cond (Nat.beq i 4) (lam K_l_eqCandS_4 5000000 X_l_eqCandS_4 B_l_eqCandS_4 st) <| .fail
theorem lp_l_eqCandS_4 : ∀ d, bod ⟨lookT tys, ctrOf C_l_eqCandS, kindOf C_l_eqCandS, 3, 4⟩ 0 Tryz.f218.ntmps Q_l_eqCandS (nthLoop Tryz.f218 0) K_l_eqCandS_4 5000000 X_l_eqCandS_4 d = B_l_eqCandS_4 d := fun d => by kernel_rfl
theorem lo_l_eqCandS_4 (cx : Cx) (hp : cx.pin.length ≤ 0) : LoopOk Tryz.prog cx Tryz.f218.ntmps Q_l_eqCandS (nthLoop Tryz.f218 0) := loop_of (cfgOk_of mixed tys_ok (show FnsOk Tryz.prog C_l_eqCandS from ⟨fn_l_eqCand, trivial⟩)) hp (all_of (by kernel_rfl : loopsOf (nthLoop Tryz.f218 0) = []) trivial) (by kernel_rfl) lp_l_eqCandS_4
theorem e_l_eqCandS : ∀ d, pcall ⟨lookT tys, ctrOf C_l_eqCandS, kindOf C_l_eqCandS, 3, 4⟩ 0 Q_l_eqCandS Tryz.f218 .plain (mkA P_l_eqCandS d) = (T_l_eqCandS d.1 d.2.1).run fun r => some (O_l_eqCandS r) := fun d => by kernel_rfl
theorem fn_l_eqCandS : Fn Tryz.prog 218 .plain F_l_eqCandS := fn_of (cfgOk_of mixed tys_ok (show FnsOk Tryz.prog C_l_eqCandS from ⟨fn_l_eqCand, trivial⟩)) Tryz.func218 (by kernel_rfl) (by kernel_rfl) (fun cx b hp hb => all_of (by kernel_rfl : loopsOf (Tryz.f218.body.getD .skip) = [nthLoop Tryz.f218 0]) ⟨lo_l_eqCandS_4 cx hp, trivial⟩ b hb) (R := (Bool × Unit)) (T := fun (d : aden P_l_eqCandS) => T_l_eqCandS d.1 d.2.1) e_l_eqCandS
def P_l_eqPaths : List (Bool × List Sh) := [(true, h_6), (true, h_6)]
def O_l_eqPaths (r : (Bool × Unit)) : List RV × List RV := ([rv (false, [.bool]) r], [])
def C_l_eqPaths : Fns := [(178, .plain, F_l_eqAddr), (218, .plain, F_l_eqCandS)]
def F_l_eqPaths : Fun1 := funV P_l_eqPaths (fun d => (T_l_eqPaths d.1 d.2.1).val) O_l_eqPaths
def Q_l_eqPaths : Loops := fun _ _ => .fail
theorem e_l_eqPaths : ∀ d, pcall ⟨lookT tys, ctrOf C_l_eqPaths, kindOf C_l_eqPaths, 3, 4⟩ 0 Q_l_eqPaths Tryz.f119 .plain (mkA P_l_eqPaths d) = (T_l_eqPaths d.1 d.2.1).run fun r => some (O_l_eqPaths r) := fun d => by kernel_rfl
theorem fn_l_eqPaths : Fn Tryz.prog 119 .plain F_l_eqPaths := fn_of (cfgOk_of mixed tys_ok (show FnsOk Tryz.prog C_l_eqPaths from ⟨fn_l_eqAddr, fn_l_eqCandS, trivial⟩)) Tryz.func119 (by kernel_rfl) (by kernel_rfl) (fun cx b hp hb => all_of (by kernel_rfl : loopsOf (Tryz.f119.body.getD .skip) = []) trivial b hb) (R := (Bool × Unit)) (T := fun (d : aden P_l_eqPaths) => T_l_eqPaths d.1 d.2.1) e_l_eqPaths
def P_l_eqSess : List (Bool × List Sh) := [(true, h_12), (true, h_12)]
def O_l_eqSess (r : (Bool × Unit)) : List RV × List RV := ([rv (false, [.bool]) r], [])
def C_l_eqSess : Fns := [(35, .plain, F_l_eqByteS), (118, .plain, F_l_eqChan), (119, .plain, F_l_eqPaths)]
def F_l_eqSess : Fun1 := funV P_l_eqSess (fun d => (T_l_eqSess d.1 d.2.1).val) O_l_eqSess
def Q_l_eqSess : Loops := fun _ _ => .fail
theorem e_l_eqSess : ∀ d, pcall ⟨lookT tys, ctrOf C_l_eqSess, kindOf C_l_eqSess, 3, 4⟩ 0 Q_l_eqSess Tryz.f32 .plain (mkA P_l_eqSess d) = (T_l_eqSess d.1 d.2.1).run fun r => some (O_l_eqSess r) := fun d => by kernel_rfl
theorem fn_l_eqSess : Fn Tryz.prog 32 .plain F_l_eqSess := fn_of (cfgOk_of mixed tys_ok (show FnsOk Tryz.prog C_l_eqSess from ⟨fn_l_eqByteS, fn_l_eqChan, fn_l_eqPaths, trivial⟩)) Tryz.func32 (by kernel_rfl) (by kernel_rfl) (fun cx b hp hb => all_of (by kernel_rfl : loopsOf (Tryz.f32.body.getD .skip) = []) trivial b hb) (R := (Bool × Unit)) (T := fun (d : aden P_l_eqSess) => T_l_eqSess d.1 d.2.1) e_l_eqSess
def P_l_eqSessS : List (Bool × List Sh) := [(false, [.sl 86 h_12]), (false, [.sl 86 h_12])]
def O_l_eqSessS (r : (Bool × Unit)) : List RV × List RV := ([rv (false, [.bool]) r], [])
def C_l_eqSessS : Fns := [(32, .plain, F_l_eqSess)]
def F_l_eqSessS : Fun1 := funV P_l_eqSessS (fun d => (T_l_eqSessS d.1 d.2.1).val) O_l_eqSessS
def K_l_eqSessS_4 : Sk := ⟨[(0, .v false [(.sl 86 h_12, .ro)]), (1, .v false [(.sl 86 h_12, .ro)]), (5, .v false [(.int .i64, .nil)])], [], []⟩
def X_l_eqSessS_4 : List (Ex × Sk) := [(.ret, ⟨[(4, .v false [(.bool, .nil)])], [], []⟩), ((.exit 0), ⟨[], [], []⟩)]
def Q_l_eqSessS : Loops := fun i st => cond (Nat.beq i 4) (lam K_l_eqSessS_4 5000000 X_l_eqSessS_4 B_l_eqSessS_4 st) <| .fail
theorem lp_l_eqSessS_4 : ∀ d, bod ⟨lookT tys, ctrOf C_l_eqSessS, kindOf C_l_eqSessS, 3, 4⟩ 0 Tryz.f54.ntmps Q_l_eqSessS (nthLoop Tryz.f54 0) K_l_eqSessS_4 5000000 X_l_eqSessS_4 d = B_l_eqSessS_4 d := fun d => by kernel_rfl
theorem lo_l_eqSessS_4 (cx : Cx) (hp : cx.pin.length ≤ 0) : LoopOk Tryz.prog cx Tryz.f54.ntmps Q_l_eqSessS (nthLoop Tryz.f54 0) := loop_of (cfgOk_of mixed tys_ok (show FnsOk Tryz.prog C_l_eqSessS from ⟨fn_l_eqSess, trivial⟩)) hp (all_of (by kernel_rfl : loopsOf (nthLoop Tryz.f54 0) = []) trivial) (by kernel_rfl) lp_l_eqSessS_4
theorem e_l_eqSessS : ∀ d, pcall ⟨lookT tys, ctrOf C_l_eqSessS, kindOf C_l_eqSessS, 3, 4⟩ 0 Q_l_eqSessS Tryz.f54 .plain (mkA P_l_eqSessS d) = (T_l_eqSessS d.1 d.2.1).run fun r => some (O_l_eqSessS r) := fun d => by kernel_rfl
theorem fn_l_eqSessS : Fn Tryz.prog 54 .plain F_l_eqSessS := fn_of (cfgOk_of mixed tys_ok (show FnsOk Tryz.prog C_l_eqSessS from ⟨fn_l_eqSess, trivial⟩)) Tryz.func54 (by kernel_rfl) (by kernel_rfl) (fun cx b hp hb => all_of (by kernel_rfl : loopsOf (Tryz.f54.body.getD .skip) = [nthLoop Tryz.f54 0]) ⟨lo_l_eqSessS_4 cx hp, trivial⟩ b hb) (R := (Bool × Unit)) (T := fun (d : aden P_l_eqSessS) => T_l_eqSessS d.1 d.2.1) e_l_eqSessS
def P_l_eqTab : List (Bool × List Sh) := [(true, [.int .i64, .sl 86 h_12]), (true, [.int .i64, .sl 86 h_12])]
def O_l_eqTab (r : (Bool × Unit)) : List RV × List RV := ([rv (false, [.bool]) r], [])
def C_l_eqTab : Fns := [(54, .plain, F_l_eqSessS)]
def F_l_eqTab : Fun1 := funV P_l_eqTab (fun d => (T_l_eqTab d.1 d.2.1).val) O_l_eqTab
def Q_l_eqTab : Loops := fun _ _ => .fail
theorem e_l_eqTab : ∀ d, pcall ⟨lookT tys, ctrOf C_l_eqTab, kindOf C_l_eqTab, 3, 4⟩ 0 Q_l_eqTab Tryz.f11 .plain (mkA P_l_eqTab d) = (T_l_eqTab d.1 d.2.1).run fun r => some (O_l_eqTab r) := fun d => by kernel_rfl
theorem fn_l_eqTab : Fn Tryz.prog 11 .plain F_l_eqTab := fn_of (cfgOk_of mixed tys_ok (show FnsOk Tryz.prog C_l_eqTab from ⟨fn_l_eqSessS, trivial⟩)) Tryz.func11 (by kernel_rfl) (by kernel_rfl) (fun cx b hp hb => all_of (by kernel_rfl : loopsOf (Tryz.f11.body.getD .skip) = []) trivial b hb) (R := (Bool × Unit)) (T := fun (d : aden P_l_eqTab) => T_l_eqTab d.1 d.2.1) e_l_eqTab
def P_l_markByteS : List (Bool × List Sh) := [(false, [.sl 5 [.int .u8]]), (false, [.int .i64])]
def O_l_markByteS (r : (YI) × (YBs)) : List RV × List RV := ([rv (false, [.int .i64]) r.1], [rv (false, [.sl 5 [.int .u8]]) r.2])
def C_l_markByteS : Fns := []
def F_l_markByteS : Fun1 := funV P_l_markByteS (fun d => (T_l_markByteS d.1 d.2.1).val) O_l_markByteS
def K_l_markByteS_2 : Sk := ⟨[(0, .v false [(.sl 5 [.int .u8], (.own 3000000))]), (1, .v false [(.int .i64, .nil)]), (5, .v false [(.int .i64, .nil)])], [], [3000000]⟩
def X_l_markByteS_2 : List (Ex × Sk) := [((.exit 0), ⟨[(0, .v false [(.sl 5 [.int .u8], (.own 3000000))]), (1, .v false [(.int .i64, .nil)])], [], [3000000]⟩)]
def Q_l_markByteS : Loops := fun i st => cond (Nat.beq i 2) (lam K_l_markByteS_2 3000000 X_l_markByteS_2 B_l_markByteS_2 st) <| .fail
theorem lp_l_markByteS_2 : ∀ d, bod ⟨lookT tys, ctrOf C_l_markByteS, kindOf C_l_markByteS, 3, 4⟩ 1 Tryz.f38.ntmps Q_l_markByteS (nthLoop Tryz.f38 0) K_l_markByteS_2 3000000 X_l_markByteS_2 d = B_l_markByteS_2 d := fun d => by kernel_rfl
theorem lo_l_markByteS_2 (cx : Cx) (hp : cx.pin.length ≤ 1) : LoopOk Tryz.prog cx Tryz.f38.ntmps Q_l_markByteS (nthLoop Tryz.f38 0) := loop_of (cfgOk_of mixed tys_ok (show FnsOk Tryz.prog C_l_markByteS from trivial)) hp (all_of (by kernel_rfl : loopsOf (nthLoop Tryz.f38 0) = []) trivial) (by kernel_rfl) lp_l_markByteS_2
theorem e_l_markByteS : ∀ d, pcall ⟨lookT tys, ctrOf C_l_markByteS, kindOf C_l_markByteS, 3, 4⟩ 1 Q_l_markByteS Tryz.f38 (.lend [1]) (mkA P_l_markByteS d) = (T_l_markByteS d.1 d.2.1).run fun r => some (O_l_markByteS r) := fun d => by kernel_rfl
theorem fn_l_markByteS : Fn Tryz.prog 38 (.lend [1]) F_l_markByteS := fn_of (cfgOk_of mixed tys_ok (show FnsOk Tryz.prog C_l_markByteS from trivial)) Tryz.func38 (by kernel_rfl) (by kernel_rfl) (fun cx b hp hb => all_of (by kernel_rfl : loopsOf (Tryz.f38.body.getD .skip) = [nthLoop Tryz.f38 0]) ⟨lo_l_markByteS_2 cx hp, trivial⟩ b hb) (R := (YI) × (YBs)) (T := fun (d : aden P_l_markByteS) => T_l_markByteS d.1 d.2.1) e_l_markByteS
def P_l_markIntS : List (Bool × List Sh) := [(false, [.sl 3 [.int .i64]]), (false, [.int .i64])]
def O_l_markIntS (r : (YI) × ((List YI) × Unit)) : List RV × List RV := ([rv (false, [.int .i64]) r.1], [rv (false, [.sl 3 [.int .i64]]) r.2])
def C_l_markIntS : Fns := []
def F_l_markIntS : Fun1 := funV P_l_markIntS (fun d => (T_l_markIntS d.1 d.2.1).val) O_l_markIntS
def K_l_markIntS_2 : Sk := ⟨[(0, .v false [(.sl 3 [.int .i64], (.own 3000000))]), (1, .v false [(.int .i64, .nil)]), (5, .v false [(.int .i64, .nil)])], [], [3000000]⟩
def X_l_markIntS_2 : List (Ex × Sk) := [((.exit 0), ⟨[(0, .v false [(.sl 3 [.int .i64], (.own 3000000))]), (1, .v false [(.int .i64, .nil)])], [], [3000000]⟩)]
def Q_l_markIntS : Loops := fun i st => cond (Nat.beq i 2) (lam K_l_markIntS_2 3000000 X_l_markIntS_2 B_l_markIntS_2 st) <| .fail
theorem lp_l_markIntS_2 : ∀ d, bod ⟨lookT tys, ctrOf C_l_markIntS, kindOf C_l_markIntS, 3, 4⟩ 1 Tryz.f160.ntmps Q_l_markIntS (nthLoop Tryz.f160 0) K_l_markIntS_2 3000000 X_l_markIntS_2 d = B_l_markIntS_2 d := fun d => by kernel_rfl
theorem lo_l_markIntS_2 (cx : Cx) (hp : cx.pin.length ≤ 1) : LoopOk Tryz.prog cx Tryz.f160.ntmps Q_l_markIntS (nthLoop Tryz.f160 0) := loop_of (cfgOk_of mixed tys_ok (show FnsOk Tryz.prog C_l_markIntS from trivial)) hp (all_of (by kernel_rfl : loopsOf (nthLoop Tryz.f160 0) = []) trivial) (by kernel_rfl) lp_l_markIntS_2
theorem e_l_markIntS : ∀ d, pcall ⟨lookT tys, ctrOf C_l_markIntS, kindOf C_l_markIntS, 3, 4⟩ 1 Q_l_markIntS Tryz.f160 (.lend [1]) (mkA P_l_markIntS d) = (T_l_markIntS d.1 d.2.1).run fun r => some (O_l_markIntS r) := fun d => by kernel_rfl
theorem fn_l_markIntS : Fn Tryz.prog 160 (.lend [1]) F_l_markIntS := fn_of (cfgOk_of mixed tys_ok (show FnsOk Tryz.prog C_l_markIntS from trivial)) Tryz.func160 (by kernel_rfl) (by kernel_rfl) (fun cx b hp hb => all_of (by kernel_rfl : loopsOf (Tryz.f160.body.getD .skip) = [nthLoop Tryz.f160 0]) ⟨lo_l_markIntS_2 cx hp, trivial⟩ b hb) (R := (YI) × ((List YI) × Unit)) (T := fun (d : aden P_l_markIntS) => T_l_markIntS d.1 d.2.1) e_l_markIntS
def P_l_markCandS : List (Bool × List Sh) := [(false, [.sl 224 h_3]), (false, [.int .i64])]
def O_l_markCandS (r : (YI) × ((List YCand) × Unit)) : List RV × List RV := ([rv (false, [.int .i64]) r.1], [rv (false, [.sl 224 h_3]) r.2])
def C_l_markCandS : Fns := [(38, (.lend [1]), F_l_markByteS)]
def F_l_markCandS : Fun1 := funV P_l_markCandS (fun d => (T_l_markCandS d.1 d.2.1).val) O_l_markCandS
def K_l_markCandS_2 : Sk := ⟨[(0, .v false [(.sl 224 h_3, (.own 3000000))]), (1, .v false [(.int .i64, .nil)]), (5, .v false [(.int .i64, .nil)])], [], [3000000]⟩
def X_l_markCandS_2 : List (Ex × Sk) := [((.exit 0), ⟨[(0, .v false [(.sl 224 h_3, (.own 3000000))]), (1, .v false [(.int .i64, .nil)])], [], [3000000]⟩)]
def Q_l_markCandS : Loops := fun i st => cond (Nat.beq i 2) (lam K_l_markCandS_2 3000000 X_l_markCandS_2 B_l_markCandS_2 st) <| .fail
theorem lp_l_markCandS_2 : ∀ d, bod ⟨lookT tys, ctrOf C_l_markCandS, kindOf C_l_markCandS, 3, 4⟩ 1 Tryz.f161.ntmps Q_l_markCandS (nthLoop Tryz.f161 0) K_l_markCandS_2 3000000 X_l_markCandS_2 d = B_l_markCandS_2 d := fun d => by kernel_rfl
theorem lo_l_markCandS_2 (cx : Cx) (hp : cx.pin.length ≤ 1) : LoopOk Tryz.prog cx Tryz.f161.ntmps Q_l_markCandS (nthLoop Tryz.f161 0) := loop_of (cfgOk_of mixed tys_ok (show FnsOk Tryz.prog C_l_markCandS from ⟨fn_l_markByteS, trivial⟩)) hp (all_of (by kernel_rfl : loopsOf (nthLoop Tryz.f161 0) = []) trivial) (by kernel_rfl) lp_l_markCandS_2
theorem e_l_markCandS : ∀ d, pcall ⟨lookT tys, ctrOf C_l_markCandS, kindOf C_l_markCandS, 3, 4⟩ 1 Q_l_markCandS Tryz.f161 (.lend [1]) (mkA P_l_markCandS d) = (T_l_markCandS d.1 d.2.1).run fun r => some (O_l_markCandS r) := fun d => by kernel_rfl
theorem fn_l_markCandS : Fn Tryz.prog 161 (.lend [1]) F_l_markCandS := fn_of (cfgOk_of mixed tys_ok (show FnsOk Tryz.prog C_l_markCandS from ⟨fn_l_markByteS, trivial⟩)) Tryz.func161 (by kernel_rfl) (by kernel_rfl) (fun cx b hp hb => all_of (by kernel_rfl : loopsOf (Tryz.f161.body.getD .skip) = [nthLoop Tryz.f161 0]) ⟨lo_l_markCandS_2 cx hp, trivial⟩ b hb) (R := (YI) × ((List YCand) × Unit)) (T := fun (d : aden P_l_markCandS) => T_l_markCandS d.1 d.2.1) e_l_markCandS
def P_l_markSessS : List (Bool × List Sh) := [(false, [.sl 86 h_12]), (false, [.int .i64])]
def O_l_markSessS (r : (YI) × ((List YSess) × Unit)) : List RV × List RV := ([rv (false, [.int .i64]) r.1], [rv (false, [.sl 86 h_12]) r.2])
def C_l_markSessS : Fns := [(38, (.lend [1]), F_l_markByteS), (160, (.lend [1]), F_l_markIntS), (161, (.lend [1]), F_l_markCandS)]
def F_l_markSessS : Fun1 := funV P_l_markSessS (fun d => (T_l_markSessS d.1 d.2.1).val) O_l_markSessS
def K_l_markSessS_2 : Sk := ⟨[(0, .v false [(.sl 86 h_12, (.own 3000000))]), (1, .v false [(.int .i64, .nil)]), (5, .v false [(.int .i64, .nil)])], [], [3000000]⟩
def X_l_markSessS_2 : List (Ex × Sk) := [((.exit 0), ⟨[(0, .v false [(.sl 86 h_12, (.own 3000000))]), (1, .v false [(.int .i64, .nil)])], [], [3000000]⟩)]
def Q_l_markSessS : Loops := fun i st => cond (Nat.beq i 2) (lam K_l_markSessS_2 3000000 X_l_markSessS_2 B_l_markSessS_2 st) <| .fail
theorem lp_l_markSessS_2 : ∀ d, bod ⟨lookT tys, ctrOf C_l_markSessS, kindOf C_l_markSessS, 3, 4⟩ 1 Tryz.f55.ntmps Q_l_markSessS (nthLoop Tryz.f55 0) K_l_markSessS_2 3000000 X_l_markSessS_2 d = B_l_markSessS_2 d := fun d => by kernel_rfl
theorem lo_l_markSessS_2 (cx : Cx) (hp : cx.pin.length ≤ 1) : LoopOk Tryz.prog cx Tryz.f55.ntmps Q_l_markSessS (nthLoop Tryz.f55 0) := loop_of (cfgOk_of mixed tys_ok (show FnsOk Tryz.prog C_l_markSessS from ⟨fn_l_markByteS, fn_l_markIntS, fn_l_markCandS, trivial⟩)) hp (all_of (by kernel_rfl : loopsOf (nthLoop Tryz.f55 0) = []) trivial) (by kernel_rfl) lp_l_markSessS_2
theorem e_l_markSessS : ∀ d, pcall ⟨lookT tys, ctrOf C_l_markSessS, kindOf C_l_markSessS, 3, 4⟩ 1 Q_l_markSessS Tryz.f55 (.lend [1]) (mkA P_l_markSessS d) = (T_l_markSessS d.1 d.2.1).run fun r => some (O_l_markSessS r) := fun d => by kernel_rfl
theorem fn_l_markSessS : Fn Tryz.prog 55 (.lend [1]) F_l_markSessS := fn_of (cfgOk_of mixed tys_ok (show FnsOk Tryz.prog C_l_markSessS from ⟨fn_l_markByteS, fn_l_markIntS, fn_l_markCandS, trivial⟩)) Tryz.func55 (by kernel_rfl) (by kernel_rfl) (fun cx b hp hb => all_of (by kernel_rfl : loopsOf (Tryz.f55.body.getD .skip) = [nthLoop Tryz.f55 0]) ⟨lo_l_markSessS_2 cx hp, trivial⟩ b hb) (R := (YI) × ((List YSess) × Unit)) (T := fun (d : aden P_l_markSessS) => T_l_markSessS d.1 d.2.1) e_l_markSessS
def P_l_markTab : List (Bool × List Sh) := [(true, [.int .i64, .sl 86 h_12]), (false, [.int .i64])]
def O_l_markTab (r : (YI) × (YTab)) : List RV × List RV := ([rv (false, [.int .i64]) r.1], [rv (true, [.int .i64, .sl 86 h_12]) r.2])
def C_l_markTab : Fns := [(55, (.lend [1]), F_l_markSessS)]
def F_l_markTab : Fun1 := funV P_l_markTab (fun d => (T_l_markTab d.1 d.2.1).val) O_l_markTab
def Q_l_markTab : Loops := fun _ _ => .fail
theorem e_l_markTab : ∀ d, pcall ⟨lookT tys, ctrOf C_l_markTab, kindOf C_l_markTab, 3, 4⟩ 1 Q_l_markTab Tryz.f12 (.lend [1]) (mkA P_l_markTab d) = (T_l_markTab d.1 d.2.1).run fun r => some (O_l_markTab r) := fun d => by kernel_rfl
theorem fn_l_markTab : Fn Tryz.prog 12 (.lend [1]) F_l_markTab := fn_of (cfgOk_of mixed tys_ok (show FnsOk Tryz.prog C_l_markTab from ⟨fn_l_markSessS, trivial⟩)) Tryz.func12 (by kernel_rfl) (by kernel_rfl) (fun cx b hp hb => all_of (by kernel_rfl : loopsOf (Tryz.f12.body.getD .skip) = []) trivial b hb) (R := (YI) × (YTab)) (T := fun (d : aden P_l_markTab) => T_l_markTab d.1 d.2.1) e_l_markTab
def P_l_heldByteS : List (Bool × List Sh) := [(false, [.sl 5 [.int .u8]]), (false, [.int .i64])]
def O_l_heldByteS (r : (YI)) : List RV × List RV := ([rv (false, [.int .i64]) r], [])
def C_l_heldByteS : Fns := []
def F_l_heldByteS : Fun1 := funV P_l_heldByteS (fun d => (T_l_heldByteS d.1 d.2.1).val) O_l_heldByteS
def K_l_heldByteS_2 : Sk := ⟨[(0, .v false [(.sl 5 [.int .u8], .ro)]), (1, .v false [(.int .i64, .nil)]), (5, .v false [(.int .i64, .nil)])], [], []⟩
def X_l_heldByteS_2 : List (Ex × Sk) := [(.ret, ⟨[(4, .v false [(.int .i64, .nil)])], [], []⟩), ((.exit 0), ⟨[(1, .v false [(.int .i64, .nil)])], [], []⟩)]
def Q_l_heldByteS : Loops := fun i st => cond (Nat.beq i 2) (lam K_l_heldByteS_2 3000000 X_l_heldByteS_2 B_l_heldByteS_2 st) <| .fail
theorem lp_l_heldByteS_2 : ∀ d, bod ⟨lookT tys, ctrOf C_l_heldByteS, kindOf C_l_heldByteS, 3, 4⟩ 0 Tryz.f86.ntmps Q_l_heldByteS (nthLoop Tryz.f86 0) K_l_heldByteS_2 3000000 X_l_heldByteS_2 d = B_l_heldByteS_2 d := fun d => by kernel_rfl
theorem lo_l_heldByteS_2 (cx : Cx) (hp : cx.pin.length ≤ 0) : LoopOk Tryz.prog cx Tryz.f86.ntmps Q_l_heldByteS (nthLoop Tryz.f86 0) := loop_of (cfgOk_of mixed tys_ok (show FnsOk Tryz.prog C_l_heldByteS from trivial)) hp (all_of (by kernel_rfl : loopsOf (nthLoop Tryz.f86 0) = []) trivial) (by kernel_rfl) lp_l_heldByteS_2
theorem e_l_heldByteS : ∀ d, pcall ⟨lookT tys, ctrOf C_l_heldByteS, kindOf C_l_heldByteS, 3, 4⟩ 0 Q_l_heldByteS Tryz.f86 .plain (mkA P_l_heldByteS d) = (T_l_heldByteS d.1 d.2.1).run fun r => some (O_l_heldByteS r) := fun d => by kernel_rfl
theorem fn_l_heldByteS : Fn Tryz.prog 86 .plain F_l_heldByteS := fn_of (cfgOk_of mixed tys_ok (show FnsOk Tryz.prog C_l_heldByteS from trivial)) Tryz.func86 (by kernel_rfl) (by kernel_rfl) (fun cx b hp hb => all_of (by kernel_rfl : loopsOf (Tryz.f86.body.getD .skip) = [nthLoop Tryz.f86 0]) ⟨lo_l_heldByteS_2 cx hp, trivial⟩ b hb) (R := (YI)) (T := fun (d : aden P_l_heldByteS) => T_l_heldByteS d.1 d.2.1) e_l_heldByteS
def P_l_heldIntS : List (Bool × List Sh) := [(false, [.sl 3 [.int .i64]]), (false, [.int .i64])]
def O_l_heldIntS (r : (YI)) : List RV × List RV := ([rv (false, [.int .i64]) r], [])
def C_l_heldIntS : Fns := []
def F_l_heldIntS : Fun1 := funV P_l_heldIntS (fun d => (T_l_heldIntS d.1 d.2.1).val) O_l_heldIntS
def K_l_heldIntS_2 : Sk := ⟨[(0, .v false [(.sl 3 [.int .i64], .ro)]), (1, .v false [(.int .i64, .nil)]), (5, .v false [(.int .i64, .nil)])], [], []⟩
def X_l_heldIntS_2 : List (Ex × Sk) := [(.ret, ⟨[(4, .v false [(.int .i64, .nil)])], [], []⟩), ((.exit 0), ⟨[(1, .v false [(.int .i64, .nil)])], [], []⟩)]
def Q_l_heldIntS : Loops := fun i st => cond (Nat.beq i 2) (lam K_l_heldIntS_2 3000000 X_l_heldIntS_2 B_l_heldIntS_2 st) <| .fail
theorem lp_l_heldIntS_2 : ∀ d, bod ⟨lookT tys, ctrOf C_l_heldIntS, kindOf C_l_heldIntS, 3, 4⟩ 0 Tryz.f162.ntmps Q_l_heldIntS (nthLoop Tryz.f162 0) K_l_heldIntS_2 3000000 X_l_heldIntS_2 d = B_l_heldIntS_2 d := fun d => by kernel_rfl
theorem lo_l_heldIntS_2 (cx : Cx) (hp : cx.pin.length ≤ 0) : LoopOk Tryz.prog cx Tryz.f162.ntmps Q_l_heldIntS (nthLoop Tryz.f162 0) := loop_of (cfgOk_of mixed tys_ok (show FnsOk Tryz.prog C_l_heldIntS from trivial)) hp (all_of (by kernel_rfl : loopsOf (nthLoop Tryz.f162 0) = []) trivial) (by kernel_rfl) lp_l_heldIntS_2
theorem e_l_heldIntS : ∀ d, pcall ⟨lookT tys, ctrOf C_l_heldIntS, kindOf C_l_heldIntS, 3, 4⟩ 0 Q_l_heldIntS Tryz.f162 .plain (mkA P_l_heldIntS d) = (T_l_heldIntS d.1 d.2.1).run fun r => some (O_l_heldIntS r) := fun d => by kernel_rfl
theorem fn_l_heldIntS : Fn Tryz.prog 162 .plain F_l_heldIntS := fn_of (cfgOk_of mixed tys_ok (show FnsOk Tryz.prog C_l_heldIntS from trivial)) Tryz.func162 (by kernel_rfl) (by kernel_rfl) (fun cx b hp hb => all_of (by kernel_rfl : loopsOf (Tryz.f162.body.getD .skip) = [nthLoop Tryz.f162 0]) ⟨lo_l_heldIntS_2 cx hp, trivial⟩ b hb) (R := (YI)) (T := fun (d : aden P_l_heldIntS) => T_l_heldIntS d.1 d.2.1) e_l_heldIntS
def P_l_heldCandS : List (Bool × List Sh) := [(false, [.sl 224 h_3]), (false, [.int .i64])]
def O_l_heldCandS (r : (YI)) : List RV × List RV := ([rv (false, [.int .i64]) r], [])
def C_l_heldCandS : Fns := [(86, .plain, F_l_heldByteS)]
def F_l_heldCandS : Fun1 := funV P_l_heldCandS (fun d => (T_l_heldCandS d.1 d.2.1).val) O_l_heldCandS
def K_l_heldCandS_2 : Sk := ⟨[(0, .v false [(.sl 224 h_3, .ro)]), (1, .v false [(.int .i64, .nil)]), (5, .v false [(.int .i64, .nil)])], [], []⟩
def X_l_heldCandS_2 : List (Ex × Sk) := [(.ret, ⟨[(4, .v false [(.int .i64, .nil)])], [], []⟩), ((.exit 0), ⟨[(1, .v false [(.int .i64, .nil)])], [], []⟩)]
def Q_l_heldCandS : Loops := fun i st => cond (Nat.beq i 2) (lam K_l_heldCandS_2 3000000 X_l_heldCandS_2 B_l_heldCandS_2 st) <| .fail
theorem lp_l_heldCandS_2 : ∀ d, bod ⟨lookT tys, ctrOf C_l_heldCandS, kindOf C_l_heldCandS, 3, 4⟩ 0 Tryz.f163.ntmps Q_l_heldCandS (nthLoop Tryz.f163 0) K_l_heldCandS_2 3000000 X_l_heldCandS_2 d = B_l_heldCandS_2 d := fun d => by kernel_rfl
theorem lo_l_heldCandS_2 (cx : Cx) (hp : cx.pin.length ≤ 0) : LoopOk Tryz.prog cx Tryz.f163.ntmps Q_l_heldCandS (nthLoop Tryz.f163 0) := loop_of (cfgOk_of mixed tys_ok (show FnsOk Tryz.prog C_l_heldCandS from ⟨fn_l_heldByteS, trivial⟩)) hp (all_of (by kernel_rfl : loopsOf (nthLoop Tryz.f163 0) = []) trivial) (by kernel_rfl) lp_l_heldCandS_2
theorem e_l_heldCandS : ∀ d, pcall ⟨lookT tys, ctrOf C_l_heldCandS, kindOf C_l_heldCandS, 3, 4⟩ 0 Q_l_heldCandS Tryz.f163 .plain (mkA P_l_heldCandS d) = (T_l_heldCandS d.1 d.2.1).run fun r => some (O_l_heldCandS r) := fun d => by kernel_rfl
theorem fn_l_heldCandS : Fn Tryz.prog 163 .plain F_l_heldCandS := fn_of (cfgOk_of mixed tys_ok (show FnsOk Tryz.prog C_l_heldCandS from ⟨fn_l_heldByteS, trivial⟩)) Tryz.func163 (by kernel_rfl) (by kernel_rfl) (fun cx b hp hb => all_of (by kernel_rfl : loopsOf (Tryz.f163.body.getD .skip) = [nthLoop Tryz.f163 0]) ⟨lo_l_heldCandS_2 cx hp, trivial⟩ b hb) (R := (YI)) (T := fun (d : aden P_l_heldCandS) => T_l_heldCandS d.1 d.2.1) e_l_heldCandS
def P_l_heldSessS : List (Bool × List Sh) := [(false, [.sl 86 h_12]), (false, [.int .i64])]
def O_l_heldSessS (r : (YI)) : List RV × List RV := ([rv (false, [.int .i64]) r], [])
def C_l_heldSessS : Fns := [(86, .plain, F_l_heldByteS), (162, .plain, F_l_heldIntS), (163, .plain, F_l_heldCandS)]
def F_l_heldSessS : Fun1 := funV P_l_heldSessS (fun d => (T_l_heldSessS d.1 d.2.1).val) O_l_heldSessS
def K_l_heldSessS_2 : Sk := ⟨[(0, .v false [(.sl 86 h_12, .ro)]), (1, .v false [(.int .i64, .nil)]), (5, .v false [(.int .i64, .nil)])], [], []⟩
def X_l_heldSessS_2 : List (Ex × Sk) := [(.ret, ⟨[(4, .v false [(.int .i64, .nil)])], [], []⟩), ((.exit 0), ⟨[(1, .v false [(.int .i64, .nil)])], [], []⟩)]
def Q_l_heldSessS : Loops := fun i st => cond (Nat.beq i 2) (lam K_l_heldSessS_2 3000000 X_l_heldSessS_2 B_l_heldSessS_2 st) <| .fail
theorem lp_l_heldSessS_2 : ∀ d, bod ⟨lookT tys, ctrOf C_l_heldSessS, kindOf C_l_heldSessS, 3, 4⟩ 0 Tryz.f56.ntmps Q_l_heldSessS (nthLoop Tryz.f56 0) K_l_heldSessS_2 3000000 X_l_heldSessS_2 d = B_l_heldSessS_2 d := fun d => by kernel_rfl
theorem lo_l_heldSessS_2 (cx : Cx) (hp : cx.pin.length ≤ 0) : LoopOk Tryz.prog cx Tryz.f56.ntmps Q_l_heldSessS (nthLoop Tryz.f56 0) := loop_of (cfgOk_of mixed tys_ok (show FnsOk Tryz.prog C_l_heldSessS from ⟨fn_l_heldByteS, fn_l_heldIntS, fn_l_heldCandS, trivial⟩)) hp (all_of (by kernel_rfl : loopsOf (nthLoop Tryz.f56 0) = []) trivial) (by kernel_rfl) lp_l_heldSessS_2
theorem e_l_heldSessS : ∀ d, pcall ⟨lookT tys, ctrOf C_l_heldSessS, kindOf C_l_heldSessS, 3, 4⟩ 0 Q_l_heldSessS Tryz.f56 .plain (mkA P_l_heldSessS d) = (T_l_heldSessS d.1 d.2.1).run fun r => some (O_l_heldSessS r) := fun d => by kernel_rfl
theorem fn_l_heldSessS : Fn Tryz.prog 56 .plain F_l_heldSessS := fn_of (cfgOk_of mixed tys_ok (show FnsOk Tryz.prog C_l_heldSessS from ⟨fn_l_heldByteS, fn_l_heldIntS, fn_l_heldCandS, trivial⟩)) Tryz.func56 (by kernel_rfl) (by kernel_rfl) (fun cx b hp hb => all_of (by kernel_rfl : loopsOf (Tryz.f56.body.getD .skip) = [nthLoop Tryz.f56 0]) ⟨lo_l_heldSessS_2 cx hp, trivial⟩ b hb) (R := (YI)) (T := fun (d : aden P_l_heldSessS) => T_l_heldSessS d.1 d.2.1) e_l_heldSessS
def P_l_heldTab : List (Bool × List Sh) := [(true, [.int .i64, .sl 86 h_12]), (false, [.int .i64])]
def O_l_heldTab (r : (YI)) : List RV × List RV := ([rv (false, [.int .i64]) r], [])
def C_l_heldTab : Fns := [(56, .plain, F_l_heldSessS)]
def F_l_heldTab : Fun1 := funV P_l_heldTab (fun d => (T_l_heldTab d.1 d.2.1).val) O_l_heldTab
def Q_l_heldTab : Loops := fun _ _ => .fail
theorem e_l_heldTab : ∀ d, pcall ⟨lookT tys, ctrOf C_l_heldTab, kindOf C_l_heldTab, 3, 4⟩ 0 Q_l_heldTab Tryz.f13 .plain (mkA P_l_heldTab d) = (T_l_heldTab d.1 d.2.1).run fun r => some (O_l_heldTab r) := fun d => by kernel_rfl
theorem fn_l_heldTab : Fn Tryz.prog 13 .plain F_l_heldTab := fn_of (cfgOk_of mixed tys_ok (show FnsOk Tryz.prog C_l_heldTab from ⟨fn_l_heldSessS, trivial⟩)) Tryz.func13 (by kernel_rfl) (by kernel_rfl) (fun cx b hp hb => all_of (by kernel_rfl : loopsOf (Tryz.f13.body.getD .skip) = []) trivial b hb) (R := (YI)) (T := fun (d : aden P_l_heldTab) => T_l_heldTab d.1 d.2.1) e_l_heldTab
def P_l_FnExactTabTick : List (Bool × List Sh) := [(true, [.int .i64, .sl 71 h_11]), (false, [.int .i64])]
def O_l_FnExactTabTick (r : (Bool × Unit)) : List RV × List RV := ([rv (false, [.bool]) r], [])
def C_l_FnExactTabTick : Fns := [(7, .plain, F_l_szTab), (9, .plain, F_l_toTab), (8, .plain, F_s_TabTick), (10, .plain, F_i_TabTick), (11, .plain, F_l_eqTab), (12, (.lend [1]), F_l_markTab), (13, .plain, F_l_heldTab)]
def F_l_FnExactTabTick : Fun1 := funV P_l_FnExactTabTick (fun d => (T_l_FnExactTabTick d.1 d.2.1).val) O_l_FnExactTabTick
def Q_l_FnExactTabTick : Loops := fun _ _ => .fail
theorem e_l_FnExactTabTick : ∀ d, pcall ⟨lookT tys, ctrOf C_l_FnExactTabTick, kindOf C_l_FnExactTabTick, 3, 4⟩ 0 Q_l_FnExactTabTick Tryz.f3 .plain (mkA P_l_FnExactTabTick d) = (T_l_FnExactTabTick d.1 d.2.1).run fun r => some (O_l_FnExactTabTick r) := fun d => by kernel_rfl
theorem fn_l_FnExactTabTick : Fn Tryz.prog 3 .plain F_l_FnExactTabTick := fn_of (cfgOk_of mixed tys_ok (show FnsOk Tryz.prog C_l_FnExactTabTick from ⟨fn_l_szTab, fn_l_toTab, fn_s_TabTick, fn_i_TabTick, fn_l_eqTab, fn_l_markTab, fn_l_heldTab, trivial⟩)) Tryz.func3 (by kernel_rfl) (by kernel_rfl) (fun cx b hp hb => all_of (by kernel_rfl : loopsOf (Tryz.f3.body.getD .skip) = []) trivial b hb) (R := (Bool × Unit)) (T := fun (d : aden P_l_FnExactTabTick) => T_l_FnExactTabTick d.1 d.2.1) e_l_FnExactTabTick
def P_l_szByteSS : List (Bool × List Sh) := [(false, [.sl 35 [.sl 5 [.int .u8]]]), (false, [.int .i64])]
def O_l_szByteSS (r : (YI)) : List RV × List RV := ([rv (false, [.int .i64]) r], [])
def C_l_szByteSS : Fns := [(87, .plain, F_l_szByteS)]
def F_l_szByteSS : Fun1 := funV P_l_szByteSS (fun d => (T_l_szByteSS d.1 d.2.1).val) O_l_szByteSS
def K_l_szByteSS_5 : Sk := ⟨[(0, .v false [(.sl 35 [.sl 5 [.int .u8]], .ro)]), (1, .v false [(.int .i64, .nil)]), (5, .v false [(.int .i64, .nil)])], [], []⟩
def X_l_szByteSS_5 : List (Ex × Sk) := [(.ret, ⟨[(4, .v false [(.int .i64, .nil)])], [], []⟩), ((.exit 0), ⟨[(1, .v false [(.int .i64, .nil)])], [], []⟩)]
def Q_l_szByteSS : Loops := fun i st => cond (Nat.beq i 5) (lam K_l_szByteSS_5 6000000 X_l_szByteSS_5 B_l_szByteSS_5 st) <| .fail
theorem lp_l_szByteSS_5 : ∀ d, bod ⟨lookT tys, ctrOf C_l_szByteSS, kindOf C_l_szByteSS, 3, 4⟩ 0 Tryz.f57.ntmps Q_l_szByteSS (nthLoop Tryz.f57 0) K_l_szByteSS_5 6000000 X_l_szByteSS_5 d = B_l_szByteSS_5 d := fun d => by kernel_rfl
theorem lo_l_szByteSS_5 (cx : Cx) (hp : cx.pin.length ≤ 0) : LoopOk Tryz.prog cx Tryz.f57.ntmps Q_l_szByteSS (nthLoop Tryz.f57 0) := loop_of (cfgOk_of mixed tys_ok (show FnsOk Tryz.prog C_l_szByteSS from ⟨fn_l_szByteS, trivial⟩)) hp (all_of (by kernel_rfl : loopsOf (nthLoop Tryz.f57 0) = []) trivial) (by kernel_rfl) lp_l_szByteSS_5
theorem e_l_szByteSS : ∀ d, pcall ⟨lookT tys, ctrOf C_l_szByteSS, kindOf C_l_szByteSS, 3, 4⟩ 0 Q_l_szByteSS Tryz.f57 .plain (mkA P_l_szByteSS d) = (T_l_szByteSS d.1 d.2.1).run fun r => some (O_l_szByteSS r) := fun d => by kernel_rfl
theorem fn_l_szByteSS : Fn Tryz.prog 57 .plain F_l_szByteSS := fn_of (cfgOk_of mixed tys_ok (show FnsOk Tryz.prog C_l_szByteSS from ⟨fn_l_szByteS, trivial⟩)) Tryz.func57 (by kernel_rfl) (by kernel_rfl) (fun cx b hp hb => all_of (by kernel_rfl : loopsOf (Tryz.f57.body.getD .skip) = [nthLoop Tryz.f57 0]) ⟨lo_l_szByteSS_5 cx hp, trivial⟩ b hb) (R := (YI)) (T := fun (d : aden P_l_szByteSS) => T_l_szByteSS d.1 d.2.1) e_l_szByteSS
def P_l_szJar : List (Bool × List Sh) := [(true, [.sl 5 [.int .u8]]), (false, [.int .i64])]
def O_l_szJar (r : (YI)) : List RV × List RV := ([rv (false, [.int .i64]) r], [])
def C_l_szJar : Fns := [(87, .plain, F_l_szByteS)]
def F_l_szJar : Fun1 := funV P_l_szJar (fun d => (T_l_szJar d.1 d.2.1).val) O_l_szJar
def Q_l_szJar : Loops := fun _ _ => .fail
theorem e_l_szJar : ∀ d, pcall ⟨lookT tys, ctrOf C_l_szJar, kindOf C_l_szJar, 3, 4⟩ 0 Q_l_szJar Tryz.f58 .plain (mkA P_l_szJar d) = (T_l_szJar d.1 d.2.1).run fun r => some (O_l_szJar r) := fun d => by kernel_rfl
theorem fn_l_szJar : Fn Tryz.prog 58 .plain F_l_szJar := fn_of (cfgOk_of mixed tys_ok (show FnsOk Tryz.prog C_l_szJar from ⟨fn_l_szByteS, trivial⟩)) Tryz.func58 (by kernel_rfl) (by kernel_rfl) (fun cx b hp hb => all_of (by kernel_rfl : loopsOf (Tryz.f58.body.getD .skip) = []) trivial b hb) (R := (YI)) (T := fun (d : aden P_l_szJar) => T_l_szJar d.1 d.2.1) e_l_szJar
def P_l_szDice : List (Bool × List Sh) := [(true, [.sl 5 [.int .u8], .int .i64]), (false, [.int .i64])]
def O_l_szDice (r : (YI)) : List RV × List RV := ([rv (false, [.int .i64]) r], [])
def C_l_szDice : Fns := [(87, .plain, F_l_szByteS)]
def F_l_szDice : Fun1 := funV P_l_szDice (fun d => (T_l_szDice d.1 d.2.1).val) O_l_szDice
def Q_l_szDice : Loops := fun _ _ => .fail
theorem e_l_szDice : ∀ d, pcall ⟨lookT tys, ctrOf C_l_szDice, kindOf C_l_szDice, 3, 4⟩ 0 Q_l_szDice Tryz.f59 .plain (mkA P_l_szDice d) = (T_l_szDice d.1 d.2.1).run fun r => some (O_l_szDice r) := fun d => by kernel_rfl
theorem fn_l_szDice : Fn Tryz.prog 59 .plain F_l_szDice := fn_of (cfgOk_of mixed tys_ok (show FnsOk Tryz.prog C_l_szDice from ⟨fn_l_szByteS, trivial⟩)) Tryz.func59 (by kernel_rfl) (by kernel_rfl) (fun cx b hp hb => all_of (by kernel_rfl : loopsOf (Tryz.f59.body.getD .skip) = []) trivial b hb) (R := (YI)) (T := fun (d : aden P_l_szDice) => T_l_szDice d.1 d.2.1) e_l_szDice
def P_l_szCreditS : List (Bool × List Sh) := [(false, [.sl 207 h_1]), (false, [.int .i64])]
def O_l_szCreditS (r : (YI)) : List RV × List RV := ([rv (false, [.int .i64]) r], [])
def C_l_szCreditS : Fns := []
def F_l_szCreditS : Fun1 := funV P_l_szCreditS (fun d => (T_l_szCreditS d.1 d.2.1).val) O_l_szCreditS
def Q_l_szCreditS : Loops := fun _ _ => .fail
theorem e_l_szCreditS : ∀ d, pcall ⟨lookT tys, ctrOf C_l_szCreditS, kindOf C_l_szCreditS, 3, 4⟩ 0 Q_l_szCreditS Tryz.f60 .plain (mkA P_l_szCreditS d) = (T_l_szCreditS d.1 d.2.1).run fun r => some (O_l_szCreditS r) := fun d => by kernel_rfl
theorem fn_l_szCreditS : Fn Tryz.prog 60 .plain F_l_szCreditS := fn_of (cfgOk_of mixed tys_ok (show FnsOk Tryz.prog C_l_szCreditS from trivial)) Tryz.func60 (by kernel_rfl) (by kernel_rfl) (fun cx b hp hb => all_of (by kernel_rfl : loopsOf (Tryz.f60.body.getD .skip) = []) trivial b hb) (R := (YI)) (T := fun (d : aden P_l_szCreditS) => T_l_szCreditS d.1 d.2.1) e_l_szCreditS
def P_l_szServer : List (Bool × List Sh) := [(true, h_13), (false, [.int .i64])]
def O_l_szServer (r : (YI)) : List RV × List RV := ([rv (false, [.int .i64]) r], [])
def C_l_szServer : Fns := [(57, .plain, F_l_szByteSS), (58, .plain, F_l_szJar), (59, .plain, F_l_szDice), (7, .plain, F_l_szTab), (60, .plain, F_l_szCreditS)]
def F_l_szServer : Fun1 := funV P_l_szServer (fun d => (T_l_szServer d.1 d.2.1).val) O_l_szServer
def Q_l_szServer : Loops := fun _ _ => .fail
theorem e_l_szServer : ∀ d, pcall ⟨lookT tys, ctrOf C_l_szServer, kindOf C_l_szServer, 3, 4⟩ 0 Q_l_szServer Tryz.f14 .plain (mkA P_l_szServer d) = (T_l_szServer d.1 d.2.1).run fun r => some (O_l_szServer r) := fun d => by kernel_rfl
theorem fn_l_szServer : Fn Tryz.prog 14 .plain F_l_szServer := fn_of (cfgOk_of mixed tys_ok (show FnsOk Tryz.prog C_l_szServer from ⟨fn_l_szByteSS, fn_l_szJar, fn_l_szDice, fn_l_szTab, fn_l_szCreditS, trivial⟩)) Tryz.func14 (by kernel_rfl) (by kernel_rfl) (fun cx b hp hb => all_of (by kernel_rfl : loopsOf (Tryz.f14.body.getD .skip) = []) trivial b hb) (R := (YI)) (T := fun (d : aden P_l_szServer) => T_l_szServer d.1 d.2.1) e_l_szServer
def P_l_toByteSS : List (Bool × List Sh) := [(false, [.sl 35 [.sl 5 [.int .u8]]])]
def O_l_toByteSS (r : ((List YBs) × Unit)) : List RV × List RV := ([rv (false, [.sl 35 [.sl 5 [.int .u8]]]) r], [])
def C_l_toByteSS : Fns := [(30, .plain, F_l_toByteS)]
def F_l_toByteSS : Fun1 := funV P_l_toByteSS (fun d => (T_l_toByteSS d.1).val) O_l_toByteSS
def K_l_toByteSS_3 : Sk := ⟨[(0, .v false [(.sl 35 [.sl 5 [.int .u8]], .ro)]), (3, .v false [(.sl 35 [.sl 5 [.int .u8]], (.own 4000000))]), (4, .v false [(.int .i64, .nil)])], [], [4000000]⟩
def X_l_toByteSS_3 : List (Ex × Sk) := [((.exit 0), ⟨[(3, .v false [(.sl 35 [.sl 5 [.int .u8]], (.own 4000000))])], [], [4000000]⟩)]
def Q_l_toByteSS : Loops := fun i st => cond (Nat.beq i 3) (lam K_l_toByteSS_3 4000000 X_l_toByteSS_3 B_l_toByteSS_3 st) <| .fail
theorem lp_l_toByteSS_3 : ∀ d, bod ⟨lookT tys, ctrOf C_l_toByteSS, kindOf C_l_toByteSS, 3, 4⟩ 0 Tryz.f65.ntmps Q_l_toByteSS (nthLoop Tryz.f65 0) K_l_toByteSS_3 4000000 X_l_toByteSS_3 d = B_l_toByteSS_3 d := fun d => by kernel_rfl
theorem lo_l_toByteSS_3 (cx : Cx) (hp : cx.pin.length ≤ 0) : LoopOk Tryz.prog cx Tryz.f65.ntmps Q_l_toByteSS (nthLoop Tryz.f65 0) := loop_of (cfgOk_of mixed tys_ok (show FnsOk Tryz.prog C_l_toByteSS from ⟨fn_l_toByteS, trivial⟩)) hp (all_of (by kernel_rfl : loopsOf (nthLoop Tryz.f65 0) = []) trivial) (by kernel_rfl) lp_l_toByteSS_3
theorem e_l_toByteSS : ∀ d, pcall ⟨lookT tys, ctrOf C_l_toByteSS, kindOf C_l_toByteSS, 3, 4⟩ 0 Q_l_toByteSS Tryz.f65 .plain (mkA P_l_toByteSS d) = (T_l_toByteSS d.1).run fun r => some (O_l_toByteSS r) := fun d => by kernel_rfl
theorem fn_l_toByteSS : Fn Tryz.prog 65 .plain F_l_toByteSS := fn_of (cfgOk_of mixed tys_ok (show FnsOk Tryz.prog C_l_toByteSS from ⟨fn_l_toByteS, trivial⟩)) Tryz.func65 (by kernel_rfl) (by kernel_rfl) (fun cx b hp hb => all_of (by kernel_rfl : loopsOf (Tryz.f65.body.getD .skip) = [nthLoop Tryz.f65 0]) ⟨lo_l_toByteSS_3 cx hp, trivial⟩ b hb) (R := ((List YBs) × Unit)) (T := fun (d : aden P_l_toByteSS) => T_l_toByteSS d.1) e_l_toByteSS
def P_l_toJar : List (Bool × List Sh) := [(true, [.sl 5 [.int .u8]])]
def O_l_toJar (r : (YBs)) : List RV × List RV := ([rv (true, [.sl 5 [.int .u8]]) r], [])
def C_l_toJar : Fns := [(30, .plain, F_l_toByteS)]
def F_l_toJar : Fun1 := funV P_l_toJar (fun d => (T_l_toJar d.1).val) O_l_toJar
def Q_l_toJar : Loops := fun _ _ => .fail
theorem e_l_toJar : ∀ d, pcall ⟨lookT tys, ctrOf C_l_toJar, kindOf C_l_toJar, 3, 4⟩ 0 Q_l_toJar Tryz.f66 .plain (mkA P_l_toJar d) = (T_l_toJar d.1).run fun r => some (O_l_toJar r) := fun d => by kernel_rfl
theorem fn_l_toJar : Fn Tryz.prog 66 .plain F_l_toJar := fn_of (cfgOk_of mixed tys_ok (show FnsOk Tryz.prog C_l_toJar from ⟨fn_l_toByteS, trivial⟩)) Tryz.func66 (by kernel_rfl) (by kernel_rfl) (fun cx b hp hb => all_of (by kernel_rfl : loopsOf (Tryz.f66.body.getD .skip) = []) trivial b hb) (R := (YBs)) (T := fun (d : aden P_l_toJar) => T_l_toJar d.1) e_l_toJar
def P_l_toDice : List (Bool × List Sh) := [(true, [.sl 5 [.int .u8], .int .i64])]
def O_l_toDice (r : (YDice)) : List RV × List RV := ([rv (true, [.sl 5 [.int .u8], .int .i64]) r], [])
def C_l_toDice : Fns := [(30, .plain, F_l_toByteS)]
def F_l_toDice : Fun1 := funV P_l_toDice (fun d => (T_l_toDice d.1).val) O_l_toDice
def Q_l_toDice : Loops := fun _ _ => .fail
theorem e_l_toDice : ∀ d, pcall ⟨lookT tys, ctrOf C_l_toDice, kindOf C_l_toDice, 3, 4⟩ 0 Q_l_toDice Tryz.f67 .plain (mkA P_l_toDice d) = (T_l_toDice d.1).run fun r => some (O_l_toDice r) := fun d => by kernel_rfl
theorem fn_l_toDice : Fn Tryz.prog 67 .plain F_l_toDice := fn_of (cfgOk_of mixed tys_ok (show FnsOk Tryz.prog C_l_toDice from ⟨fn_l_toByteS, trivial⟩)) Tryz.func67 (by kernel_rfl) (by kernel_rfl) (fun cx b hp hb => all_of (by kernel_rfl : loopsOf (Tryz.f67.body.getD .skip) = []) trivial b hb) (R := (YDice)) (T := fun (d : aden P_l_toDice) => T_l_toDice d.1) e_l_toDice
def P_l_toCredit : List (Bool × List Sh) := [(true, h_1)]
def O_l_toCredit (r : (YCredit)) : List RV × List RV := ([rv (true, h_1) r], [])
def C_l_toCredit : Fns := [(28, .plain, F_l_toAddr)]
def F_l_toCredit : Fun1 := funV P_l_toCredit (fun d => (T_l_toCredit d.1).val) O_l_toCredit
def Q_l_toCredit : Loops := fun _ _ => .fail
theorem e_l_toCredit : ∀ d, pcall ⟨lookT tys, ctrOf C_l_toCredit, kindOf C_l_toCredit, 3, 4⟩ 0 Q_l_toCredit Tryz.f169 .plain (mkA P_l_toCredit d) = (T_l_toCredit d.1).run fun r => some (O_l_toCredit r) := fun d => by kernel_rfl
theorem fn_l_toCredit : Fn Tryz.prog 169 .plain F_l_toCredit := fn_of (cfgOk_of mixed tys_ok (show FnsOk Tryz.prog C_l_toCredit from ⟨fn_l_toAddr, trivial⟩)) Tryz.func169 (by kernel_rfl) (by kernel_rfl) (fun cx b hp hb => all_of (by kernel_rfl : loopsOf (Tryz.f169.body.getD .skip) = []) trivial b hb) (R := (YCredit)) (T := fun (d : aden P_l_toCredit) => T_l_toCredit d.1) e_l_toCredit
def P_l_toCreditS : List (Bool × List Sh) := [(false, [.sl 207 h_1])]
def O_l_toCreditS (r : ((List YCredit) × Unit)) : List RV × List RV := ([rv (false, [.sl 204 h_1]) r], [])
def C_l_toCreditS : Fns := [(169, .plain, F_l_toCredit)]
def F_l_toCreditS : Fun1 := funV P_l_toCreditS (fun d => (T_l_toCreditS d.1).val) O_l_toCreditS
def K_l_toCreditS_3 : Sk := ⟨[(0, .v false [(.sl 207 h_1, .ro)]), (3, .v false [(.sl 204 h_1, (.own 4000000))]), (4, .v false [(.int .i64, .nil)])], [], [4000000]⟩
def X_l_toCreditS_3 : List (Ex × Sk) := [((.exit 0), ⟨[(3, .v false [(.sl 204 h_1, (.own 4000000))])], [], [4000000]⟩)]
def Q_l_toCreditS : Loops := fun i st => cond (Nat.beq i 3) (lam K_l_toCreditS_3 4000000 X_l_toCreditS_3 B_l_toCreditS_3 st) <| .fail
theorem lp_l_toCreditS_3 : ∀ d, bod ⟨lookT tys, ctrOf C_l_toCreditS, kindOf C_l_toCreditS, 3, 4⟩ 0 Tryz.f68.ntmps Q_l_toCreditS (nthLoop Tryz.f68 0) K_l_toCreditS_3 4000000 X_l_toCreditS_3 d = B_l_toCreditS_3 d := fun d => by kernel_rfl
theorem lo_l_toCreditS_3 (cx : Cx) (hp : cx.pin.length ≤ 0) : LoopOk Tryz.prog cx Tryz.f68.ntmps Q_l_toCreditS (nthLoop Tryz.f68 0) := loop_of (cfgOk_of mixed tys_ok (show FnsOk Tryz.prog C_l_toCreditS from ⟨fn_l_toCredit, trivial⟩)) hp (all_of (by kernel_rfl : loopsOf (nthLoop Tryz.f68 0) = []) trivial) (by kernel_rfl) lp_l_toCreditS_3
theorem e_l_toCreditS : ∀ d, pcall ⟨lookT tys, ctrOf C_l_toCreditS, kindOf C_l_toCreditS, 3, 4⟩ 0 Q_l_toCreditS Tryz.f68 .plain (mkA P_l_toCreditS d) = (T_l_toCreditS d.1).run fun r => some (O_l_toCreditS r) := fun d => by kernel_rfl
theorem fn_l_toCreditS : Fn Tryz.prog 68 .plain F_l_toCreditS := fn_of (cfgOk_of mixed tys_ok (show FnsOk Tryz.prog C_l_toCreditS from ⟨fn_l_toCredit, trivial⟩)) Tryz.func68 (by kernel_rfl) (by kernel_rfl) (fun cx b hp hb => all_of (by kernel_rfl : loopsOf (Tryz.f68.body.getD .skip) = [nthLoop Tryz.f68 0]) ⟨lo_l_toCreditS_3 cx hp, trivial⟩ b hb) (R := ((List YCredit) × Unit)) (T := fun (d : aden P_l_toCreditS) => T_l_toCreditS d.1) e_l_toCreditS
def P_l_toServer : List (Bool × List Sh) := [(true, h_13)]
def O_l_toServer (r : (YServer)) : List RV × List RV := ([rv (true, h_14) r], [])
def C_l_toServer : Fns := [(65, .plain, F_l_toByteSS), (66, .plain, F_l_toJar), (67, .plain, F_l_toDice), (9, .plain, F_l_toTab), (68, .plain, F_l_toCreditS)]
def F_l_toServer : Fun1 := funV P_l_toServer (fun d => (T_l_toServer d.1).val) O_l_toServer
def Q_l_toServer : Loops := fun _ _ => .fail
theorem e_l_toServer : ∀ d, pcall ⟨lookT tys, ctrOf C_l_toServer, kindOf C_l_toServer, 3, 4⟩ 0 Q_l_toServer Tryz.f16 .plain (mkA P_l_toServer d) = (T_l_toServer d.1).run fun r => some (O_l_toServer r) := fun d => by kernel_rfl
theorem fn_l_toServer : Fn Tryz.prog 16 .plain F_l_toServer := fn_of (cfgOk_of mixed tys_ok (show FnsOk Tryz.prog C_l_toServer from ⟨fn_l_toByteSS, fn_l_toJar, fn_l_toDice, fn_l_toTab, fn_l_toCreditS, trivial⟩)) Tryz.func16 (by kernel_rfl) (by kernel_rfl) (fun cx b hp hb => all_of (by kernel_rfl : loopsOf (Tryz.f16.body.getD .skip) = []) trivial b hb) (R := (YServer)) (T := fun (d : aden P_l_toServer) => T_l_toServer d.1) e_l_toServer
def P_s_l10Copy : List (Bool × List Sh) := [(true, [.sl 5 [.int .u8], .int .i64])]
def O_s_l10Copy (r : (YDice)) : List RV × List RV := ([rv (true, [.sl 5 [.int .u8], .int .i64]) r], [])
def C_s_l10Copy : Fns := []
def F_s_l10Copy : Fun1 := funV P_s_l10Copy (fun d => (T_s_l10Copy d.1).val) O_s_l10Copy
def Q_s_l10Copy : Loops := fun _ _ => .fail
theorem e_s_l10Copy : ∀ d, pcall ⟨lookT tys, ctrOf C_s_l10Copy, kindOf C_s_l10Copy, 3, 4⟩ 0 Q_s_l10Copy Tryz.f164 .plain (mkA P_s_l10Copy d) = (T_s_l10Copy d.1).run fun r => some (O_s_l10Copy r) := fun d => by kernel_rfl
theorem fn_s_l10Copy : Fn Tryz.prog 164 .plain F_s_l10Copy := fn_of (cfgOk_of mixed tys_ok (show FnsOk Tryz.prog C_s_l10Copy from trivial)) Tryz.func164 (by kernel_rfl) (by kernel_rfl) (fun cx b hp hb => all_of (by kernel_rfl : loopsOf (Tryz.f164.body.getD .skip) = []) trivial b hb) (R := (YDice)) (T := fun (d : aden P_s_l10Copy) => T_s_l10Copy d.1) e_s_l10Copy
def P_s_l22Copy : List (Bool × List Sh) := [(true, h_14)]
def O_s_l22Copy (r : (YServer)) : List RV × List RV := ([rv (true, h_14) r], [])
def C_s_l22Copy : Fns := [(164, .plain, F_s_l10Copy), (47, .plain, F_s_l21Copy)]
def F_s_l22Copy : Fun1 := funV P_s_l22Copy (fun d => (T_s_l22Copy d.1).val) O_s_l22Copy
def K_s_l22Copy_3 : Sk := ⟨[(1, .box 1 0), (2, .box 2 0), (3, .box 3 0), (4, .v false [(.int .i64, .nil)])], [(1, [(.sl 35 [.sl 5 [.int .u8]], .ro), (.sl 5 [.int .u8], .ro), (.sl 5 [.int .u8], .ro), (.int .i64, .nil), (.int .i64, .nil), (.sl 86 h_12, .ro), (.sl 204 h_1, .ro)]), (2, [(.sl 35 [.sl 5 [.int .u8]], (.own 4000000)), (.sl 5 [.int .u8], (.own 4000001)), (.sl 5 [.int .u8], (.own 4000002)), (.int .i64, .nil), (.int .i64, .nil), (.sl 86 h_12, (.own 4000003)), (.sl 204 h_1, (.own 4000004))]), (3, [(.sl 35 [.sl 5 [.int .u8]], (.own 4000005)), (.sl 5 [.int .u8], (.own 4000006)), (.sl 5 [.int .u8], (.own 4000007)), (.int .i64, .nil), (.int .i64, .nil), (.sl 86 h_12, (.own 4000008)), (.sl 204 h_1, (.own 4000009))])], [4000000, 4000001, 4000002, 4000003, 4000004, 4000005, 4000006, 4000007, 4000008, 4000009]⟩
def X_s_l22Copy_3 : List (Ex × Sk) := [((.exit 0), ⟨[(2, .box 2 0), (3, .box 3 0)], [(2, [(.sl 35 [.sl 5 [.int .u8]], (.own 4000000)), (.sl 5 [.int .u8], (.own 4000001)), (.sl 5 [.int .u8], (.own 4000002)), (.int .i64, .nil), (.int .i64, .nil), (.sl 86 h_12, (.own 4000003)), (.sl 204 h_1, (.own 4000004))]), (3, [(.sl 35 [.sl 5 [.int .u8]], (.own 4000005)), (.sl 5 [.int .u8], (.own 4000006)), (.sl 5 [.int .u8], (.own 4000007)), (.int .i64, .nil), (.int .i64, .nil), (.sl 86 h_12, (.own 4000008)), (.sl 204 h_1, (.own 4000009))])], [4000000, 4000001, 4000002, 4000003, 4000004, 4000005, 4000006, 4000007, 4000008, 4000009]⟩)]
def Q_s_l22Copy : Loops := fun i st => cond (Nat.beq i 3) (lam K_s_l22Copy_3 4000000 X_s_l22Copy_3 B_s_l22Copy_3 st) <| .fail
theorem lp_s_l22Copy_3 : ∀ d, bod ⟨lookT tys, ctrOf C_s_l22Copy, kindOf C_s_l22Copy, 3, 4⟩ 0 Tryz.f61.ntmps Q_s_l22Copy (nthLoop Tryz.f61 0) K_s_l22Copy_3 4000000 X_s_l22Copy_3 d = B_s_l22Copy_3 d := fun d => by kernel_rfl
theorem lo_s_l22Copy_3 (cx : Cx) (hp : cx.pin.length ≤ 0) : LoopOk Tryz.prog cx Tryz.f61.ntmps Q_s_l22Copy (nthLoop Tryz.f61 0) := loop_of (cfgOk_of mixed tys_ok (show FnsOk Tryz.prog C_s_l22Copy from ⟨fn_s_l10Copy, fn_s_l21Copy, trivial⟩)) hp (all_of (by kernel_rfl : loopsOf (nthLoop Tryz.f61 0) = []) trivial) (by kernel_rfl) lp_s_l22Copy_3
theorem e_s_l22Copy : ∀ d, pcall ⟨lookT tys, ctrOf C_s_l22Copy, kindOf C_s_l22Copy, 3, 4⟩ 0 Q_s_l22Copy Tryz.f61 .plain (mkA P_s_l22Copy d) = (T_s_l22Copy d.1).run fun r => some (O_s_l22Copy r) := fun d => by kernel_rfl
theorem fn_s_l22Copy : Fn Tryz.prog 61 .plain F_s_l22Copy := fn_of (cfgOk_of mixed tys_ok (show FnsOk Tryz.prog C_s_l22Copy from ⟨fn_s_l10Copy, fn_s_l21Copy, trivial⟩)) Tryz.func61 (by kernel_rfl) (by kernel_rfl) (fun cx b hp hb => all_of (by kernel_rfl : loopsOf (Tryz.f61.body.getD .skip) = [nthLoop Tryz.f61 0]) ⟨lo_s_l22Copy_3 cx hp, trivial⟩ b hb) (R := (YServer)) (T := fun (d : aden P_s_l22Copy) => T_s_l22Copy d.1) e_s_l22Copy
def P_s_JarOk : List (Bool × List Sh) := [(true, [.sl 5 [.int .u8]])]
def O_s_JarOk (r : (Bool × Unit)) : List RV × List RV := ([rv (false, [.bool]) r], [])
def C_s_JarOk : Fns := []
def F_s_JarOk : Fun1 := funV P_s_JarOk (fun d => (T_s_JarOk d.1).val) O_s_JarOk
def Q_s_JarOk : Loops := fun _ _ => .fail
theorem e_s_JarOk : ∀ d, pcall ⟨lookT tys, ctrOf C_s_JarOk, kindOf C_s_JarOk, 3, 4⟩ 0 Q_s_JarOk Tryz.f165 .plain (mkA P_s_JarOk d) = (T_s_JarOk d.1).run fun r => some (O_s_JarOk r) := fun d => by kernel_rfl
theorem fn_s_JarOk : Fn Tryz.prog 165 .plain F_s_JarOk := fn_of (cfgOk_of mixed tys_ok (show FnsOk Tryz.prog C_s_JarOk from trivial)) Tryz.func165 (by kernel_rfl) (by kernel_rfl) (fun cx b hp hb => all_of (by kernel_rfl : loopsOf (Tryz.f165.body.getD .skip) = []) trivial b hb) (R := (Bool × Unit)) (T := fun (d : aden P_s_JarOk) => T_s_JarOk d.1) e_s_JarOk
def P_s_DiceOk : List (Bool × List Sh) := [(true, [.sl 5 [.int .u8], .int .i64])]
def O_s_DiceOk (r : (Bool × Unit)) : List RV × List RV := ([rv (false, [.bool]) r], [])
def C_s_DiceOk : Fns := [(46, .plain, F_s_l1In)]
def F_s_DiceOk : Fun1 := funV P_s_DiceOk (fun d => (T_s_DiceOk d.1).val) O_s_DiceOk
def Q_s_DiceOk : Loops := fun _ _ => .fail
theorem e_s_DiceOk : ∀ d, pcall ⟨lookT tys, ctrOf C_s_DiceOk, kindOf C_s_DiceOk, 3, 4⟩ 0 Q_s_DiceOk Tryz.f166 .plain (mkA P_s_DiceOk d) = (T_s_DiceOk d.1).run fun r => some (O_s_DiceOk r) := fun d => by kernel_rfl
theorem fn_s_DiceOk : Fn Tryz.prog 166 .plain F_s_DiceOk := fn_of (cfgOk_of mixed tys_ok (show FnsOk Tryz.prog C_s_DiceOk from ⟨fn_s_l1In, trivial⟩)) Tryz.func166 (by kernel_rfl) (by kernel_rfl) (fun cx b hp hb => all_of (by kernel_rfl : loopsOf (Tryz.f166.body.getD .skip) = []) trivial b hb) (R := (Bool × Unit)) (T := fun (d : aden P_s_DiceOk) => T_s_DiceOk d.1) e_s_DiceOk
def P_s_CreditsOk : List (Bool × List Sh) := [(false, [.sl 204 h_1])]
def O_s_CreditsOk (r : (Bool × Unit)) : List RV × List RV := ([rv (false, [.bool]) r], [])
def C_s_CreditsOk : Fns := [(92, .plain, F_s_AddrOk), (46, .plain, F_s_l1In)]
def F_s_CreditsOk : Fun1 := funV P_s_CreditsOk (fun d => (T_s_CreditsOk d.1).val) O_s_CreditsOk
def K_s_CreditsOk_4 : Sk := ⟨[(0, .v false [(.sl 204 h_1, .ro)]), (3, .v false [(.int .i64, .nil)])], [], []⟩
def X_s_CreditsOk_4 : List (Ex × Sk) := [(.ret, ⟨[(2, .v false [(.bool, .nil)])], [], []⟩), ((.exit 0), ⟨[], [], []⟩)]
def K_s_CreditsOk_9 : Sk := ⟨[(0, .v false [(.sl 204 h_1, .ro)]), (3, .v false [(.int .i64, .nil)]), (4, .v false [(.int .i64, .nil)])], [], []⟩
def X_s_CreditsOk_9 : List (Ex × Sk) := [(.ret, ⟨[(2, .v false [(.bool, .nil)])], [], []⟩), ((.exit 2), ⟨[(0, .v false [(.sl 204 h_1, .ro)]), (3, .v false [(.int .i64, .nil)])], [], []⟩)]
def Q_s_CreditsOk : Loops := fun i st => cond (Nat.beq i 9) (lam K_s_CreditsOk_9 10000000 X_s_CreditsOk_9 B_s_CreditsOk_9 st) <| cond (Nat.beq i 4) (lam K_s_CreditsOk_4 5000000 X_s_CreditsOk_4 B_s_CreditsOk_4 st) <| .fail
theorem lp_s_CreditsOk_9 : ∀ d, bod ⟨lookT tys, ctrOf C_s_CreditsOk, kindOf C_s_CreditsOk, 3, 4⟩ 0 Tryz.f167.ntmps Q_s_CreditsOk (nthLoop Tryz.f167 1) K_s_CreditsOk_9 10000000 X_s_CreditsOk_9 d = B_s_CreditsOk_9 d := fun d => by kernel_rfl
theorem lo_s_CreditsOk_9 (cx : Cx) (hp : cx.pin.length ≤ 0) : LoopOk Tryz.prog cx Tryz.f167.ntmps Q_s_CreditsOk (nthLoop Tryz.f167 1) := loop_of (cfgOk_of mixed tys_ok (show FnsOk Tryz.prog C_s_CreditsOk from ⟨fn_s_AddrOk, fn_s_l1In, trivial⟩)) hp (all_of (by kernel_rfl : loopsOf (nthLoop Tryz.f167 1) = []) trivial) (by kernel_rfl) lp_s_CreditsOk_9
theorem lp_s_CreditsOk_4 : ∀ d, bod ⟨lookT tys, ctrOf C_s_CreditsOk, kindOf C_s_CreditsOk, 3, 4⟩ 0 Tryz.f167.ntmps Q_s_CreditsOk (nthLoop Tryz.f167 0) K_s_CreditsOk_4 5000000 X_s_CreditsOk_4 d = B_s_CreditsOk_4 d := fun d => by kernel_rfl
theorem lo_s_CreditsOk_4 (cx : Cx) (hp : cx.pin.length ≤ 0) : LoopOk Tryz.prog cx Tryz.f167.ntmps Q_s_CreditsOk (nthLoop Tryz.f167 0) := loop_of (cfgOk_of mixed tys_ok (show FnsOk Tryz.prog C_s_CreditsOk from ⟨fn_s_AddrOk, fn_s_l1In, trivial⟩)) hp (all_of (by kernel_rfl : loopsOf (nthLoop Tryz.f167 0) = [nthLoop Tryz.f167 1]) ⟨lo_s_CreditsOk_9 cx hp, trivial⟩) (by kernel_rfl) lp_s_CreditsOk_4
theorem e_s_CreditsOk : ∀ d, pcall ⟨lookT tys, ctrOf C_s_CreditsOk, kindOf C_s_CreditsOk, 3, 4⟩ 0 Q_s_CreditsOk Tryz.f167 .plain (mkA P_s_CreditsOk d) = (T_s_CreditsOk d.1).run fun r => some (O_s_CreditsOk r) := fun d => by kernel_rfl
theorem fn_s_CreditsOk : Fn Tryz.prog 167 .plain F_s_CreditsOk := fn_of (cfgOk_of mixed tys_ok (show FnsOk Tryz.prog C_s_CreditsOk from ⟨fn_s_AddrOk, fn_s_l1In, trivial⟩)) Tryz.func167 (by kernel_rfl) (by kernel_rfl) (fun cx b hp hb => all_of (by kernel_rfl : loopsOf (Tryz.f167.body.getD .skip) = [nthLoop Tryz.f167 0]) ⟨lo_s_CreditsOk_4 cx hp, trivial⟩ b hb) (R := (Bool × Unit)) (T := fun (d : aden P_s_CreditsOk) => T_s_CreditsOk d.1) e_s_CreditsOk
def P_s_PskOk : List (Bool × List Sh) := [(false, [.sl 5 [.int .u8]])]
def O_s_PskOk (r : (Bool × Unit)) : List RV × List RV := ([rv (false, [.bool]) r], [])
def C_s_PskOk : Fns := [(46, .plain, F_s_l1In)]
def F_s_PskOk : Fun1 := funV P_s_PskOk (fun d => (T_s_PskOk d.1).val) O_s_PskOk
def Q_s_PskOk : Loops := fun _ _ => .fail
theorem e_s_PskOk : ∀ d, pcall ⟨lookT tys, ctrOf C_s_PskOk, kindOf C_s_PskOk, 3, 4⟩ 0 Q_s_PskOk Tryz.f168 .plain (mkA P_s_PskOk d) = (T_s_PskOk d.1).run fun r => some (O_s_PskOk r) := fun d => by kernel_rfl
theorem fn_s_PskOk : Fn Tryz.prog 168 .plain F_s_PskOk := fn_of (cfgOk_of mixed tys_ok (show FnsOk Tryz.prog C_s_PskOk from ⟨fn_s_l1In, trivial⟩)) Tryz.func168 (by kernel_rfl) (by kernel_rfl) (fun cx b hp hb => all_of (by kernel_rfl : loopsOf (Tryz.f168.body.getD .skip) = []) trivial b hb) (R := (Bool × Unit)) (T := fun (d : aden P_s_PskOk) => T_s_PskOk d.1) e_s_PskOk
def P_s_ServerOk : List (Bool × List Sh) := [(true, h_14)]
def O_s_ServerOk (r : (Bool × Unit)) : List RV × List RV := ([rv (false, [.bool]) r], [])
def C_s_ServerOk : Fns := [(46, .plain, F_s_l1In), (165, .plain, F_s_JarOk), (166, .plain, F_s_DiceOk), (45, .plain, F_s_TabOk), (167, .plain, F_s_CreditsOk), (168, .plain, F_s_PskOk)]
def F_s_ServerOk : Fun1 := funV P_s_ServerOk (fun d => (T_s_ServerOk d.1).val) O_s_ServerOk
def K_s_ServerOk_9 : Sk := ⟨[(1, .box 1 0), (4, .v false [(.int .i64, .nil)])], [(1, [(.sl 35 [.sl 5 [.int .u8]], .ro), (.sl 5 [.int .u8], .ro), (.sl 5 [.int .u8], .ro), (.int .i64, .nil), (.int .i64, .nil), (.sl 86 h_12, .ro), (.sl 204 h_1, .ro)])], []⟩
def X_s_ServerOk_9 : List (Ex × Sk) := [(.ret, ⟨[(2, .v false [(.bool, .nil)])], [], []⟩), ((.exit 2), ⟨[], [], []⟩)]
def K_s_ServerOk_4 : Sk := ⟨[(1, .box 1 0), (3, .v false [(.int .i64, .nil)])], [(1, [(.sl 35 [.sl 5 [.int .u8]], .ro), (.sl 5 [.int .u8], .ro), (.sl 5 [.int .u8], .ro), (.int .i64, .nil), (.int .i64, .nil), (.sl 86 h_12, .ro), (.sl 204 h_1, .ro)])], []⟩
def X_s_ServerOk_4 : List (Ex × Sk) := [(.ret, ⟨[(2, .v false [(.bool, .nil)])], [], []⟩), ((.exit 0), ⟨[(1, .box 1 0)], [(1, [(.sl 35 [.sl 5 [.int .u8]], .ro), (.sl 5 [.int .u8], .ro), (.sl 5 [.int .u8], .ro), (.int .i64, .nil), (.int .i64, .nil), (.sl 86 h_12, .ro), (.sl 204 h_1, .ro)])], []⟩)]
def Q_s_ServerOk : Loops := fun i st => cond (Nat.beq i 4) (lam K_s_ServerOk_4 5000000 X_s_ServerOk_4 B_s_ServerOk_4 st) <| cond (Nat.beq i 9) (lam K_s_ServerOk_9 10000000 X_s_ServerOk_9 B_s_ServerOk_9 st) <| .fail
theorem lp_s_ServerOk_4 : ∀ d, bod ⟨lookT tys, ctrOf C_s_ServerOk, kindOf C_s_ServerOk, 3, 4⟩ 0 Tryz.f62.ntmps Q_s_ServerOk (nthLoop Tryz.f62 0) K_s_ServerOk_4 5000000 X_s_ServerOk_4 d = B_s_ServerOk_4 d := fun d => by kernel_rfl
theorem lo_s_ServerOk_4 (cx : Cx) (hp : cx.pin.length ≤ 0) : LoopOk Tryz.prog cx Tryz.f62.ntmps Q_s_ServerOk (nthLoop Tryz.f62 0) := loop_of (cfgOk_of mixed tys_ok (show FnsOk Tryz.prog C_s_ServerOk from ⟨fn_s_l1In, fn_s_JarOk, fn_s_DiceOk, fn_s_TabOk, fn_s_CreditsOk, fn_s_PskOk, trivial⟩)) hp (all_of (by kernel_rfl : loopsOf (nthLoop Tryz.f62 0) = []) trivial) (by kernel_rfl) lp_s_ServerOk_4
theorem lp_s_ServerOk_9 : ∀ d, bod ⟨lookT tys, ctrOf C_s_ServerOk, kindOf C_s_ServerOk, 3, 4⟩ 0 Tryz.f62.ntmps Q_s_ServerOk (nthLoop Tryz.f62 1) K_s_ServerOk_9 10000000 X_s_ServerOk_9 d = B_s_ServerOk_9 d := fun d => by kernel_rfl
theorem lo_s_ServerOk_9 (cx : Cx) (hp : cx.pin.length ≤ 0) : LoopOk Tryz.prog cx Tryz.f62.ntmps Q_s_ServerOk (nthLoop Tryz.f62 1) := loop_of (cfgOk_of mixed tys_ok (show FnsOk Tryz.prog C_s_ServerOk from ⟨fn_s_l1In, fn_s_JarOk, fn_s_DiceOk, fn_s_TabOk, fn_s_CreditsOk, fn_s_PskOk, trivial⟩)) hp (all_of (by kernel_rfl : loopsOf (nthLoop Tryz.f62 1) = []) trivial) (by kernel_rfl) lp_s_ServerOk_9
theorem e_s_ServerOk : ∀ d, pcall ⟨lookT tys, ctrOf C_s_ServerOk, kindOf C_s_ServerOk, 3, 4⟩ 0 Q_s_ServerOk Tryz.f62 .plain (mkA P_s_ServerOk d) = (T_s_ServerOk d.1).run fun r => some (O_s_ServerOk r) := fun d => by kernel_rfl
theorem fn_s_ServerOk : Fn Tryz.prog 62 .plain F_s_ServerOk := fn_of (cfgOk_of mixed tys_ok (show FnsOk Tryz.prog C_s_ServerOk from ⟨fn_s_l1In, fn_s_JarOk, fn_s_DiceOk, fn_s_TabOk, fn_s_CreditsOk, fn_s_PskOk, trivial⟩)) Tryz.func62 (by kernel_rfl) (by kernel_rfl) (fun cx b hp hb => all_of (by kernel_rfl : loopsOf (Tryz.f62.body.getD .skip) = [nthLoop Tryz.f62 0, nthLoop Tryz.f62 1]) ⟨lo_s_ServerOk_4 cx hp, lo_s_ServerOk_9 cx hp, trivial⟩ b hb) (R := (Bool × Unit)) (T := fun (d : aden P_s_ServerOk) => T_s_ServerOk d.1) e_s_ServerOk
def P_s_l22End : List (Bool × List Sh) := [(true, h_12)]
def O_s_l22End (r : (YNote)) : List RV × List RV := ([rv (true, h_7) r], [])
def C_s_l22End : Fns := []
def F_s_l22End : Fun1 := funV P_s_l22End (fun d => (T_s_l22End d.1).val) O_s_l22End
def Q_s_l22End : Loops := fun _ _ => .fail
theorem e_s_l22End : ∀ d, pcall ⟨lookT tys, ctrOf C_s_l22End, kindOf C_s_l22End, 3, 4⟩ 0 Q_s_l22End Tryz.f64 .plain (mkA P_s_l22End d) = (T_s_l22End d.1).run fun r => some (O_s_l22End r) := fun d => by kernel_rfl
theorem fn_s_l22End : Fn Tryz.prog 64 .plain F_s_l22End := fn_of (cfgOk_of mixed tys_ok (show FnsOk Tryz.prog C_s_l22End from trivial)) Tryz.func64 (by kernel_rfl) (by kernel_rfl) (fun cx b hp hb => all_of (by kernel_rfl : loopsOf (Tryz.f64.body.getD .skip) = []) trivial b hb) (R := (YNote)) (T := fun (d : aden P_s_l22End) => T_s_l22End d.1) e_s_l22End
def P_s_ServerTick : List (Bool × List Sh) := [(true, h_14), (false, [.int .i64])]
def O_s_ServerTick (r : (YServer) × ((List YNote) × Unit)) : List RV × List RV := ([rv (true, h_14) r.1, rv (false, [.sl 123 h_7]) r.2], [])
def C_s_ServerTick : Fns := [(61, .plain, F_s_l22Copy), (62, .plain, F_s_ServerOk), (46, .plain, F_s_l1In), (8, .plain, F_s_TabTick), (63, .plain, F_s_FindSn), (64, .plain, F_s_l22End)]
def F_s_ServerTick : Fun1 := funV P_s_ServerTick (fun d => (T_s_ServerTick d.1 d.2.1).val) O_s_ServerTick
def K_s_ServerTick_7 : Sk := ⟨[(2, .box 2 0), (4, .box 4 0), (6, .box 6 0), (7, .v false [(.sl 123 h_7, (.own 8000000))]), (8, .v false [(.int .i64, .nil)])], [(2, [(.sl 35 [.sl 5 [.int .u8]], .ro), (.sl 5 [.int .u8], .ro), (.sl 5 [.int .u8], .ro), (.int .i64, .nil), (.int .i64, .nil), (.sl 86 h_12, .ro), (.sl 204 h_1, .ro)]), (4, [(.sl 35 [.sl 5 [.int .u8]], (.own 8000001)), (.sl 5 [.int .u8], (.own 8000002)), (.sl 5 [.int .u8], (.own 8000003)), (.int .i64, .nil), (.int .i64, .nil), (.sl 86 h_12, (.own 8000004)), (.sl 204 h_1, (.own 8000005))]), (6, [(.sl 35 [.sl 5 [.int .u8]], (.own 8000006)), (.sl 5 [.int .u8], (.own 8000007)), (.sl 5 [.int .u8], (.own 8000008)), (.int .i64, .nil), (.int .i64, .nil), (.sl 86 h_12, (.own 8000009)), (.sl 204 h_1, (.own 8000010))])], [8000000, 8000001, 8000002, 8000003, 8000004, 8000005, 8000006, 8000007, 8000008, 8000009, 8000010]⟩
def X_s_ServerTick_7 : List (Ex × Sk) := [((.exit 0), ⟨[(4, .box 4 0), (6, .box 6 0), (7, .v false [(.sl 123 h_7, (.own 8000000))])], [(4, [(.sl 35 [.sl 5 [.int .u8]], (.own 8000001)), (.sl 5 [.int .u8], (.own 8000002)), (.sl 5 [.int .u8], (.own 8000003)), (.int .i64, .nil), (.int .i64, .nil), (.sl 86 h_12, (.own 8000004)), (.sl 204 h_1, (.own 8000005))]), (6, [(.sl 35 [.sl 5 [.int .u8]], (.own 8000006)), (.sl 5 [.int .u8], (.own 8000007)), (.sl 5 [.int .u8], (.own 8000008)), (.int .i64, .nil), (.int .i64, .nil), (.sl 86 h_12, (.own 8000009)), (.sl 204 h_1, (.own 8000010))])], [8000000, 8000001, 8000002, 8000003, 8000004, 8000005, 8000006, 8000007, 8000008, 8000009, 8000010]⟩)]
def Q_s_ServerTick : Loops := fun i st => cond (Nat.beq i 7) (lam K_s_ServerTick_7 8000000 X_s_ServerTick_7 B_s_ServerTick_7 st) <| .fail
theorem lp_s_ServerTick_7 : ∀ d, bod ⟨lookT tys, ctrOf C_s_ServerTick, kindOf C_s_ServerTick, 3, 4⟩ 0 Tryz.f15.ntmps Q_s_ServerTick (nthLoop Tryz.f15 0) K_s_ServerTick_7 8000000 X_s_ServerTick_7 d = B_s_ServerTick_7 d := fun d => by kernel_rfl
theorem lo_s_ServerTick_7 (cx : Cx) (hp : cx.pin.length ≤ 0) : LoopOk Tryz.prog cx Tryz.f15.ntmps Q_s_ServerTick (nthLoop Tryz.f15 0) := loop_of (cfgOk_of mixed tys_ok (show FnsOk Tryz.prog C_s_ServerTick from ⟨fn_s_l22Copy, fn_s_ServerOk, fn_s_l1In, fn_s_TabTick, fn_s_FindSn, fn_s_l22End, trivial⟩)) hp (all_of (by kernel_rfl : loopsOf (nthLoop Tryz.f15 0) = []) trivial) (by kernel_rfl) lp_s_ServerTick_7
theorem e_s_ServerTick : ∀ d, pcall ⟨lookT tys, ctrOf C_s_ServerTick, kindOf C_s_ServerTick, 3, 4⟩ 0 Q_s_ServerTick Tryz.f15 .plain (mkA P_s_ServerTick d) = (T_s_ServerTick d.1 d.2.1).run fun r => some (O_s_ServerTick r) := fun d => by kernel_rfl
theorem fn_s_ServerTick : Fn Tryz.prog 15 .plain F_s_ServerTick := fn_of (cfgOk_of mixed tys_ok (show FnsOk Tryz.prog C_s_ServerTick from ⟨fn_s_l22Copy, fn_s_ServerOk, fn_s_l1In, fn_s_TabTick, fn_s_FindSn, fn_s_l22End, trivial⟩)) Tryz.func15 (by kernel_rfl) (by kernel_rfl) (fun cx b hp hb => all_of (by kernel_rfl : loopsOf (Tryz.f15.body.getD .skip) = [nthLoop Tryz.f15 0]) ⟨lo_s_ServerTick_7 cx hp, trivial⟩ b hb) (R := (YServer) × ((List YNote) × Unit)) (T := fun (d : aden P_s_ServerTick) => T_s_ServerTick d.1 d.2.1) e_s_ServerTick
def P_i_cloneAll : List (Bool × List Sh) := [(false, [.sl 35 [.sl 5 [.int .u8]]])]
def O_i_cloneAll (r : ((List YBs) × Unit)) : List RV × List RV := ([rv (false, [.sl 35 [.sl 5 [.int .u8]]]) r], [])
def C_i_cloneAll : Fns := [(112, .plain, F_i_clone)]
def F_i_cloneAll : Fun1 := funV P_i_cloneAll (fun d => (T_i_cloneAll d.1).val) O_i_cloneAll
def K_i_cloneAll_3 : Sk := ⟨[(3, .v false [(.sl 35 [.sl 5 [.int .u8]], (.own 4000000))]), (7, .v false [(.sl 35 [.sl 5 [.int .u8]], .ro)]), (8, .v false [(.int .i64, .nil)]), (9, .v false [(.int .i64, .nil)])], [], [4000000]⟩
def X_i_cloneAll_3 : List (Ex × Sk) := [((.exit 0), ⟨[(3, .v false [(.sl 35 [.sl 5 [.int .u8]], (.own 4000000))])], [], [4000000]⟩)]
def Q_i_cloneAll : Loops := fun i st => cond (Nat.beq i 3) (lam K_i_cloneAll_3 4000000 X_i_cloneAll_3 B_i_cloneAll_3 st) <| .fail
theorem lp_i_cloneAll_3 : ∀ d, bod ⟨lookT tys, ctrOf C_i_cloneAll, kindOf C_i_cloneAll, 3, 4⟩ 0 Tryz.f170.ntmps Q_i_cloneAll (nthLoop Tryz.f170 0) K_i_cloneAll_3 4000000 X_i_cloneAll_3 d = B_i_cloneAll_3 d := fun d => by kernel_rfl
theorem lo_i_cloneAll_3 (cx : Cx) (hp : cx.pin.length ≤ 0) : LoopOk Tryz.prog cx Tryz.f170.ntmps Q_i_cloneAll (nthLoop Tryz.f170 0) := loop_of (cfgOk_of mixed tys_ok (show FnsOk Tryz.prog C_i_cloneAll from ⟨fn_i_clone, trivial⟩)) hp (all_of (by kernel_rfl : loopsOf (nthLoop Tryz.f170 0) = []) trivial) (by kernel_rfl) lp_i_cloneAll_3
theorem e_i_cloneAll : ∀ d, pcall ⟨lookT tys, ctrOf C_i_cloneAll, kindOf C_i_cloneAll, 3, 4⟩ 0 Q_i_cloneAll Tryz.f170 .plain (mkA P_i_cloneAll d) = (T_i_cloneAll d.1).run fun r => some (O_i_cloneAll r) := fun d => by kernel_rfl
theorem fn_i_cloneAll : Fn Tryz.prog 170 .plain F_i_cloneAll := fn_of (cfgOk_of mixed tys_ok (show FnsOk Tryz.prog C_i_cloneAll from ⟨fn_i_clone, trivial⟩)) Tryz.func170 (by kernel_rfl) (by kernel_rfl) (fun cx b hp hb => all_of (by kernel_rfl : loopsOf (Tryz.f170.body.getD .skip) = [nthLoop Tryz.f170 0]) ⟨lo_i_cloneAll_3 cx hp, trivial⟩ b hb) (R := ((List YBs) × Unit)) (T := fun (d : aden P_i_cloneAll) => T_i_cloneAll d.1) e_i_cloneAll
def P_i_copyCredits : List (Bool × List Sh) := [(false, [.sl 204 h_1])]
def O_i_copyCredits (r : ((List YCredit) × Unit)) : List RV × List RV := ([rv (false, [.sl 204 h_1]) r], [])
def C_i_copyCredits : Fns := []
def F_i_copyCredits : Fun1 := funV P_i_copyCredits (fun d => (T_i_copyCredits d.1).val) O_i_copyCredits
def Q_i_copyCredits : Loops := fun _ _ => .fail
theorem e_i_copyCredits : ∀ d, pcall ⟨lookT tys, ctrOf C_i_copyCredits, kindOf C_i_copyCredits, 3, 4⟩ 0 Q_i_copyCredits Tryz.f171 .plain (mkA P_i_copyCredits d) = (T_i_copyCredits d.1).run fun r => some (O_i_copyCredits r) := fun d => by kernel_rfl
theorem fn_i_copyCredits : Fn Tryz.prog 171 .plain F_i_copyCredits := fn_of (cfgOk_of mixed tys_ok (show FnsOk Tryz.prog C_i_copyCredits from trivial)) Tryz.func171 (by kernel_rfl) (by kernel_rfl) (fun cx b hp hb => all_of (by kernel_rfl : loopsOf (Tryz.f171.body.getD .skip) = []) trivial b hb) (R := ((List YCredit) × Unit)) (T := fun (d : aden P_i_copyCredits) => T_i_copyCredits d.1) e_i_copyCredits
def P_i_copyServer : List (Bool × List Sh) := [(true, h_14)]
def O_i_copyServer (r : (YServer)) : List RV × List RV := ([rv (true, h_14) r], [])
def C_i_copyServer : Fns := [(170, .plain, F_i_cloneAll), (112, .plain, F_i_clone), (52, .plain, F_i_copyTab), (171, .plain, F_i_copyCredits)]
def F_i_copyServer : Fun1 := funV P_i_copyServer (fun d => (T_i_copyServer d.1).val) O_i_copyServer
def Q_i_copyServer : Loops := fun _ _ => .fail
theorem e_i_copyServer : ∀ d, pcall ⟨lookT tys, ctrOf C_i_copyServer, kindOf C_i_copyServer, 3, 4⟩ 0 Q_i_copyServer Tryz.f69 .plain (mkA P_i_copyServer d) = (T_i_copyServer d.1).run fun r => some (O_i_copyServer r) := fun d => by kernel_rfl
theorem fn_i_copyServer : Fn Tryz.prog 69 .plain F_i_copyServer := fn_of (cfgOk_of mixed tys_ok (show FnsOk Tryz.prog C_i_copyServer from ⟨fn_i_cloneAll, fn_i_clone, fn_i_copyTab, fn_i_copyCredits, trivial⟩)) Tryz.func69 (by kernel_rfl) (by kernel_rfl) (fun cx b hp hb => all_of (by kernel_rfl : loopsOf (Tryz.f69.body.getD .skip) = []) trivial b hb) (R := (YServer)) (T := fun (d : aden P_i_copyServer) => T_i_copyServer d.1) e_i_copyServer
def P_i_JarOk : List (Bool × List Sh) := [(true, [.sl 5 [.int .u8]])]
def O_i_JarOk (r : (Bool × Unit)) : List RV × List RV := ([rv (false, [.bool]) r], [])
def C_i_JarOk : Fns := []
def F_i_JarOk : Fun1 := funV P_i_JarOk (fun d => (T_i_JarOk d.1).val) O_i_JarOk
def Q_i_JarOk : Loops := fun _ _ => .fail
theorem e_i_JarOk : ∀ d, pcall ⟨lookT tys, ctrOf C_i_JarOk, kindOf C_i_JarOk, 3, 4⟩ 0 Q_i_JarOk Tryz.f172 .plain (mkA P_i_JarOk d) = (T_i_JarOk d.1).run fun r => some (O_i_JarOk r) := fun d => by kernel_rfl
theorem fn_i_JarOk : Fn Tryz.prog 172 .plain F_i_JarOk := fn_of (cfgOk_of mixed tys_ok (show FnsOk Tryz.prog C_i_JarOk from trivial)) Tryz.func172 (by kernel_rfl) (by kernel_rfl) (fun cx b hp hb => all_of (by kernel_rfl : loopsOf (Tryz.f172.body.getD .skip) = []) trivial b hb) (R := (Bool × Unit)) (T := fun (d : aden P_i_JarOk) => T_i_JarOk d.1) e_i_JarOk
def P_i_DiceOk : List (Bool × List Sh) := [(true, [.sl 5 [.int .u8], .int .i64])]
def O_i_DiceOk (r : (Bool × Unit)) : List RV × List RV := ([rv (false, [.bool]) r], [])
def C_i_DiceOk : Fns := [(51, .plain, F_i_within)]
def F_i_DiceOk : Fun1 := funV P_i_DiceOk (fun d => (T_i_DiceOk d.1).val) O_i_DiceOk
def Q_i_DiceOk : Loops := fun _ _ => .fail
theorem e_i_DiceOk : ∀ d, pcall ⟨lookT tys, ctrOf C_i_DiceOk, kindOf C_i_DiceOk, 3, 4⟩ 0 Q_i_DiceOk Tryz.f173 .plain (mkA P_i_DiceOk d) = (T_i_DiceOk d.1).run fun r => some (O_i_DiceOk r) := fun d => by kernel_rfl
theorem fn_i_DiceOk : Fn Tryz.prog 173 .plain F_i_DiceOk := fn_of (cfgOk_of mixed tys_ok (show FnsOk Tryz.prog C_i_DiceOk from ⟨fn_i_within, trivial⟩)) Tryz.func173 (by kernel_rfl) (by kernel_rfl) (fun cx b hp hb => all_of (by kernel_rfl : loopsOf (Tryz.f173.body.getD .skip) = []) trivial b hb) (R := (Bool × Unit)) (T := fun (d : aden P_i_DiceOk) => T_i_DiceOk d.1) e_i_DiceOk
def P_i_creditAt : List (Bool × List Sh) := [(false, [.sl 204 h_1]), (true, [.int .i64, .int .i64])]
def O_i_creditAt (r : (YI)) : List RV × List RV := ([rv (false, [.int .i64]) r], [])
def C_i_creditAt : Fns := []
def F_i_creditAt : Fun1 := funV P_i_creditAt (fun d => (T_i_creditAt d.1 d.2.1).val) O_i_creditAt
def K_i_creditAt_2 : Sk := ⟨[(3, .box 3 0), (7, .v false [(.sl 204 h_1, .ro)]), (8, .v false [(.int .i64, .nil)]), (9, .v false [(.int .i64, .nil)])], [(3, [(.int .i64, .nil), (.int .i64, .nil)])], []⟩
def X_i_creditAt_2 : List (Ex × Sk) := [(.ret, ⟨[(4, .v false [(.int .i64, .nil)])], [], []⟩), ((.exit 0), ⟨[], [], []⟩)]
def Q_i_creditAt : Loops := fun i st => cond (Nat.beq i 2) (lam K_i_creditAt_2 3000000 X_i_creditAt_2 B_i_creditAt_2 st) <| .fail
theorem lp_i_creditAt_2 : ∀ d, bod ⟨lookT tys, ctrOf C_i_creditAt, kindOf C_i_creditAt, 3, 4⟩ 0 Tryz.f240.ntmps Q_i_creditAt (nthLoop Tryz.f240 0) K_i_creditAt_2 3000000 X_i_creditAt_2 d = B_i_creditAt_2 d := fun d => by kernel_rfl
theorem lo_i_creditAt_2 (cx : Cx) (hp : cx.pin.length ≤ 0) : LoopOk Tryz.prog cx Tryz.f240.ntmps Q_i_creditAt (nthLoop Tryz.f240 0) := loop_of (cfgOk_of mixed tys_ok (show FnsOk Tryz.prog C_i_creditAt from trivial)) hp (all_of (by kernel_rfl : loopsOf (nthLoop Tryz.f240 0) = []) trivial) (by kernel_rfl) lp_i_creditAt_2
theorem e_i_creditAt : ∀ d, pcall ⟨lookT tys, ctrOf C_i_creditAt, kindOf C_i_creditAt, 3, 4⟩ 0 Q_i_creditAt Tryz.f240 .plain (mkA P_i_creditAt d) = (T_i_creditAt d.1 d.2.1).run fun r => some (O_i_creditAt r) := fun d => by kernel_rfl
theorem fn_i_creditAt : Fn Tryz.prog 240 .plain F_i_creditAt := fn_of (cfgOk_of mixed tys_ok (show FnsOk Tryz.prog C_i_creditAt from trivial)) Tryz.func240 (by kernel_rfl) (by kernel_rfl) (fun cx b hp hb => all_of (by kernel_rfl : loopsOf (Tryz.f240.body.getD .skip) = [nthLoop Tryz.f240 0]) ⟨lo_i_creditAt_2 cx hp, trivial⟩ b hb) (R := (YI)) (T := fun (d : aden P_i_creditAt) => T_i_creditAt d.1 d.2.1) e_i_creditAt
def P_i_CreditsOk : List (Bool × List Sh) := [(false, [.sl 204 h_1])]
def O_i_CreditsOk (r : (Bool × Unit)) : List RV × List RV := ([rv (false, [.bool]) r], [])
def C_i_CreditsOk : Fns := [(107, .plain, F_i_AddrOk), (51, .plain, F_i_within), (240, .plain, F_i_creditAt)]
def F_i_CreditsOk : Fun1 := funV P_i_CreditsOk (fun d => (T_i_CreditsOk d.1).val) O_i_CreditsOk
def K_i_CreditsOk_4 : Sk := ⟨[(0, .v false [(.sl 204 h_1, .ro)]), (8, .v false [(.sl 204 h_1, .ro)]), (9, .v false [(.int .i64, .nil)]), (10, .v false [(.int .i64, .nil)])], [], []⟩
def X_i_CreditsOk_4 : List (Ex × Sk) := [(.ret, ⟨[(2, .v false [(.bool, .nil)])], [], []⟩), ((.exit 0), ⟨[], [], []⟩)]
def Q_i_CreditsOk : Loops := fun i st => cond (Nat.beq i 4) (lam K_i_CreditsOk_4 5000000 X_i_CreditsOk_4 B_i_CreditsOk_4 st) <| .fail
theorem lp_i_CreditsOk_4 : ∀ d, bod ⟨lookT tys, ctrOf C_i_CreditsOk, kindOf C_i_CreditsOk, 3, 4⟩ 0 Tryz.f174.ntmps Q_i_CreditsOk (nthLoop Tryz.f174 0) K_i_CreditsOk_4 5000000 X_i_CreditsOk_4 d = B_i_CreditsOk_4 d := fun d => by kernel_rfl
theorem lo_i_CreditsOk_4 (cx : Cx) (hp : cx.pin.length ≤ 0) : LoopOk Tryz.prog cx Tryz.f174.ntmps Q_i_CreditsOk (nthLoop Tryz.f174 0) := loop_of (cfgOk_of mixed tys_ok (show FnsOk Tryz.prog C_i_CreditsOk from ⟨fn_i_AddrOk, fn_i_within, fn_i_creditAt, trivial⟩)) hp (all_of (by kernel_rfl : loopsOf (nthLoop Tryz.f174 0) = []) trivial) (by kernel_rfl) lp_i_CreditsOk_4
theorem e_i_CreditsOk : ∀ d, pcall ⟨lookT tys, ctrOf C_i_CreditsOk, kindOf C_i_CreditsOk, 3, 4⟩ 0 Q_i_CreditsOk Tryz.f174 .plain (mkA P_i_CreditsOk d) = (T_i_CreditsOk d.1).run fun r => some (O_i_CreditsOk r) := fun d => by kernel_rfl
theorem fn_i_CreditsOk : Fn Tryz.prog 174 .plain F_i_CreditsOk := fn_of (cfgOk_of mixed tys_ok (show FnsOk Tryz.prog C_i_CreditsOk from ⟨fn_i_AddrOk, fn_i_within, fn_i_creditAt, trivial⟩)) Tryz.func174 (by kernel_rfl) (by kernel_rfl) (fun cx b hp hb => all_of (by kernel_rfl : loopsOf (Tryz.f174.body.getD .skip) = [nthLoop Tryz.f174 0]) ⟨lo_i_CreditsOk_4 cx hp, trivial⟩ b hb) (R := (Bool × Unit)) (T := fun (d : aden P_i_CreditsOk) => T_i_CreditsOk d.1) e_i_CreditsOk
def P_i_PskOk : List (Bool × List Sh) := [(false, [.sl 5 [.int .u8]])]
def O_i_PskOk (r : (Bool × Unit)) : List RV × List RV := ([rv (false, [.bool]) r], [])
def C_i_PskOk : Fns := [(51, .plain, F_i_within)]
def F_i_PskOk : Fun1 := funV P_i_PskOk (fun d => (T_i_PskOk d.1).val) O_i_PskOk
def Q_i_PskOk : Loops := fun _ _ => .fail
theorem e_i_PskOk : ∀ d, pcall ⟨lookT tys, ctrOf C_i_PskOk, kindOf C_i_PskOk, 3, 4⟩ 0 Q_i_PskOk Tryz.f175 .plain (mkA P_i_PskOk d) = (T_i_PskOk d.1).run fun r => some (O_i_PskOk r) := fun d => by kernel_rfl
theorem fn_i_PskOk : Fn Tryz.prog 175 .plain F_i_PskOk := fn_of (cfgOk_of mixed tys_ok (show FnsOk Tryz.prog C_i_PskOk from ⟨fn_i_within, trivial⟩)) Tryz.func175 (by kernel_rfl) (by kernel_rfl) (fun cx b hp hb => all_of (by kernel_rfl : loopsOf (Tryz.f175.body.getD .skip) = []) trivial b hb) (R := (Bool × Unit)) (T := fun (d : aden P_i_PskOk) => T_i_PskOk d.1) e_i_PskOk
def P_i_ServerOk : List (Bool × List Sh) := [(true, h_14)]
def O_i_ServerOk (r : (Bool × Unit)) : List RV × List RV := ([rv (false, [.bool]) r], [])
def C_i_ServerOk : Fns := [(51, .plain, F_i_within), (172, .plain, F_i_JarOk), (173, .plain, F_i_DiceOk), (50, .plain, F_i_TabOk), (174, .plain, F_i_CreditsOk), (175, .plain, F_i_PskOk)]
def F_i_ServerOk : Fun1 := funV P_i_ServerOk (fun d => (T_i_ServerOk d.1).val) O_i_ServerOk
def K_i_ServerOk_10 : Sk := ⟨[(1, .box 1 0), (49, .v false [(.sl 86 h_12, .ro)]), (50, .v false [(.int .i64, .nil)]), (51, .v false [(.int .i64, .nil)])], [(1, [(.sl 35 [.sl 5 [.int .u8]], .ro), (.sl 5 [.int .u8], .ro), (.sl 5 [.int .u8], .ro), (.int .i64, .nil), (.int .i64, .nil), (.sl 86 h_12, .ro), (.sl 204 h_1, .ro)])], []⟩
def X_i_ServerOk_10 : List (Ex × Sk) := [(.ret, ⟨[(2, .v false [(.bool, .nil)])], [], []⟩), ((.exit 2), ⟨[], [], []⟩)]
def K_i_ServerOk_4 : Sk := ⟨[(1, .box 1 0), (37, .v false [(.sl 35 [.sl 5 [.int .u8]], .ro)]), (38, .v false [(.int .i64, .nil)]), (39, .v false [(.int .i64, .nil)])], [(1, [(.sl 35 [.sl 5 [.int .u8]], .ro), (.sl 5 [.int .u8], .ro), (.sl 5 [.int .u8], .ro), (.int .i64, .nil), (.int .i64, .nil), (.sl 86 h_12, .ro), (.sl 204 h_1, .ro)])], []⟩
def X_i_ServerOk_4 : List (Ex × Sk) := [(.ret, ⟨[(2, .v false [(.bool, .nil)])], [], []⟩), ((.exit 0), ⟨[(1, .box 1 0)], [(1, [(.sl 35 [.sl 5 [.int .u8]], .ro), (.sl 5 [.int .u8], .ro), (.sl 5 [.int .u8], .ro), (.int .i64, .nil), (.int .i64, .nil), (.sl 86 h_12, .ro), (.sl 204 h_1, .ro)])], []⟩)]
def Q_i_ServerOk : Loops := fun i st => cond (Nat.beq i 4) (lam K_i_ServerOk_4 5000000 X_i_ServerOk_4 B_i_ServerOk_4 st) <| cond (Nat.beq i 10) (lam K_i_ServerOk_10 11000000 X_i_ServerOk_10 B_i_ServerOk_10 st) <| .fail
theorem lp_i_ServerOk_4 : ∀ d, bod ⟨lookT tys, ctrOf C_i_ServerOk, kindOf C_i_ServerOk, 3, 4⟩ 0 Tryz.f70.ntmps Q_i_ServerOk (nthLoop Tryz.f70 0) K_i_ServerOk_4 5000000 X_i_ServerOk_4 d = B_i_ServerOk_4 d := fun d => by kernel_rfl
theorem lo_i_ServerOk_4 (cx : Cx) (hp : cx.pin.length ≤ 0) : LoopOk Tryz.prog cx Tryz.f70.ntmps Q_i_ServerOk (nthLoop Tryz.f70 0) := loop_of (cfgOk_of mixed tys_ok (show FnsOk Tryz.prog C_i_ServerOk from ⟨fn_i_within, fn_i_JarOk, fn_i_DiceOk, fn_i_TabOk, fn_i_CreditsOk, fn_i_PskOk, trivial⟩)) hp (all_of (by kernel_rfl : loopsOf (nthLoop Tryz.f70 0) = []) trivial) (by kernel_rfl) lp_i_ServerOk_4
theorem lp_i_ServerOk_10 : ∀ d, bod ⟨lookT tys, ctrOf C_i_ServerOk, kindOf C_i_ServerOk, 3, 4⟩ 0 Tryz.f70.ntmps Q_i_ServerOk (nthLoop Tryz.f70 1) K_i_ServerOk_10 11000000 X_i_ServerOk_10 d = B_i_ServerOk_10 d := fun d => by kernel_rfl
theorem lo_i_ServerOk_10 (cx : Cx) (hp : cx.pin.length ≤ 0) : LoopOk Tryz.prog cx Tryz.f70.ntmps Q_i_ServerOk (nthLoop Tryz.f70 1) := loop_of (cfgOk_of mixed tys_ok (show FnsOk Tryz.prog C_i_ServerOk from ⟨fn_i_within, fn_i_JarOk, fn_i_DiceOk, fn_i_TabOk, fn_i_CreditsOk, fn_i_PskOk, trivial⟩)) hp (all_of (by kernel_rfl : loopsOf (nthLoop Tryz.f70 1) = []) trivial) (by kernel_rfl) lp_i_ServerOk_10
theorem e_i_ServerOk : ∀ d, pcall ⟨lookT tys, ctrOf C_i_ServerOk, kindOf C_i_ServerOk, 3, 4⟩ 0 Q_i_ServerOk Tryz.f70 .plain (mkA P_i_ServerOk d) = (T_i_ServerOk d.1).run fun r => some (O_i_ServerOk r) := fun d => by kernel_rfl
theorem fn_i_ServerOk : Fn Tryz.prog 70 .plain F_i_ServerOk := fn_of (cfgOk_of mixed tys_ok (show FnsOk Tryz.prog C_i_ServerOk from ⟨fn_i_within, fn_i_JarOk, fn_i_DiceOk, fn_i_TabOk, fn_i_CreditsOk, fn_i_PskOk, trivial⟩)) Tryz.func70 (by kernel_rfl) (by kernel_rfl) (fun cx b hp hb => all_of (by kernel_rfl : loopsOf (Tryz.f70.body.getD .skip) = [nthLoop Tryz.f70 0, nthLoop Tryz.f70 1]) ⟨lo_i_ServerOk_4 cx hp, lo_i_ServerOk_10 cx hp, trivial⟩ b hb) (R := (Bool × Unit)) (T := fun (d : aden P_i_ServerOk) => T_i_ServerOk d.1) e_i_ServerOk
def P_i_endOf : List (Bool × List Sh) := [(false, [.int .i64]), (false, [.int .i64]), (false, [.sl 5 [.int .u8]])]
def O_i_endOf (r : (YNote)) : List RV × List RV := ([rv (true, h_7) r], [])
def C_i_endOf : Fns := [(112, .plain, F_i_clone)]
def F_i_endOf : Fun1 := funV P_i_endOf (fun d => (T_i_endOf d.1 d.2.1 d.2.2.1).val) O_i_endOf
def Q_i_endOf : Loops := fun _ _ => .fail
theorem e_i_endOf : ∀ d, pcall ⟨lookT tys, ctrOf C_i_endOf, kindOf C_i_endOf, 3, 4⟩ 0 Q_i_endOf Tryz.f72 .plain (mkA P_i_endOf d) = (T_i_endOf d.1 d.2.1 d.2.2.1).run fun r => some (O_i_endOf r) := fun d => by kernel_rfl
theorem fn_i_endOf : Fn Tryz.prog 72 .plain F_i_endOf := fn_of (cfgOk_of mixed tys_ok (show FnsOk Tryz.prog C_i_endOf from ⟨fn_i_clone, trivial⟩)) Tryz.func72 (by kernel_rfl) (by kernel_rfl) (fun cx b hp hb => all_of (by kernel_rfl : loopsOf (Tryz.f72.body.getD .skip) = []) trivial b hb) (R := (YNote)) (T := fun (d : aden P_i_endOf) => T_i_endOf d.1 d.2.1 d.2.2.1) e_i_endOf
def P_i_ServerTick : List (Bool × List Sh) := [(true, h_14), (false, [.int .i64])]
def O_i_ServerTick (r : (YServer) × ((List YNote) × Unit)) : List RV × List RV := ([rv (true, h_14) r.1, rv (false, [.sl 123 h_7]) r.2], [])
def C_i_ServerTick : Fns := [(69, .plain, F_i_copyServer), (70, .plain, F_i_ServerOk), (51, .plain, F_i_within), (10, .plain, F_i_TabTick), (71, .plain, F_i_FindSn), (72, .plain, F_i_endOf)]
def F_i_ServerTick : Fun1 := funV P_i_ServerTick (fun d => (T_i_ServerTick d.1 d.2.1).val) O_i_ServerTick
def K_i_ServerTick_7 : Sk := ⟨[(4, .box 4 0), (6, .box 6 0), (7, .v false [(.sl 123 h_7, (.own 8000000))]), (30, .v false [(.sl 86 h_12, .ro)]), (31, .v false [(.int .i64, .nil)]), (32, .v false [(.int .i64, .nil)])], [(4, [(.sl 35 [.sl 5 [.int .u8]], (.own 8000001)), (.sl 5 [.int .u8], (.own 8000002)), (.sl 5 [.int .u8], (.own 8000003)), (.int .i64, .nil), (.int .i64, .nil), (.sl 86 h_12, (.own 8000004)), (.sl 204 h_1, (.own 8000005))]), (6, [(.sl 35 [.sl 5 [.int .u8]], (.own 8000006)), (.sl 5 [.int .u8], (.own 8000007)), (.sl 5 [.int .u8], (.own 8000008)), (.int .i64, .nil), (.int .i64, .nil), (.sl 86 h_12, (.own 8000009)), (.sl 204 h_1, (.own 8000010))])], [8000000, 8000001, 8000002, 8000003, 8000004, 8000005, 8000006, 8000007, 8000008, 8000009, 8000010]⟩
def X_i_ServerTick_7 : List (Ex × Sk) := [((.exit 0), ⟨[(4, .box 4 0), (6, .box 6 0), (7, .v false [(.sl 123 h_7, (.own 8000000))])], [(4, [(.sl 35 [.sl 5 [.int .u8]], (.own 8000001)), (.sl 5 [.int .u8], (.own 8000002)), (.sl 5 [.int .u8], (.own 8000003)), (.int .i64, .nil), (.int .i64, .nil), (.sl 86 h_12, (.own 8000004)), (.sl 204 h_1, (.own 8000005))]), (6, [(.sl 35 [.sl 5 [.int .u8]], (.own 8000006)), (.sl 5 [.int .u8], (.own 8000007)), (.sl 5 [.int .u8], (.own 8000008)), (.int .i64, .nil), (.int .i64, .nil), (.sl 86 h_12, (.own 8000009)), (.sl 204 h_1, (.own 8000010))])], [8000000, 8000001, 8000002, 8000003, 8000004, 8000005, 8000006, 8000007, 8000008, 8000009, 8000010]⟩)]
def Q_i_ServerTick : Loops := fun i st => cond (Nat.beq i 7) (lam K_i_ServerTick_7 8000000 X_i_ServerTick_7 B_i_ServerTick_7 st) <| .fail
theorem lp_i_ServerTick_7 : ∀ d, bod ⟨lookT tys, ctrOf C_i_ServerTick, kindOf C_i_ServerTick, 3, 4⟩ 0 Tryz.f17.ntmps Q_i_ServerTick (nthLoop Tryz.f17 0) K_i_ServerTick_7 8000000 X_i_ServerTick_7 d = B_i_ServerTick_7 d := fun d => by kernel_rfl
theorem lo_i_ServerTick_7 (cx : Cx) (hp : cx.pin.length ≤ 0) : LoopOk Tryz.prog cx Tryz.f17.ntmps Q_i_ServerTick (nthLoop Tryz.f17 0) := loop_of (cfgOk_of mixed tys_ok (show FnsOk Tryz.prog C_i_ServerTick from ⟨fn_i_copyServer, fn_i_ServerOk, fn_i_within, fn_i_TabTick, fn_i_FindSn, fn_i_endOf, trivial⟩)) hp (all_of (by kernel_rfl : loopsOf (nthLoop Tryz.f17 0) = []) trivial) (by kernel_rfl) lp_i_ServerTick_7
theorem e_i_ServerTick : ∀ d, pcall ⟨lookT tys, ctrOf C_i_ServerTick, kindOf C_i_ServerTick, 3, 4⟩ 0 Q_i_ServerTick Tryz.f17 .plain (mkA P_i_ServerTick d) = (T_i_ServerTick d.1 d.2.1).run fun r => some (O_i_ServerTick r) := fun d => by kernel_rfl
theorem fn_i_ServerTick : Fn Tryz.prog 17 .plain F_i_ServerTick := fn_of (cfgOk_of mixed tys_ok (show FnsOk Tryz.prog C_i_ServerTick from ⟨fn_i_copyServer, fn_i_ServerOk, fn_i_within, fn_i_TabTick, fn_i_FindSn, fn_i_endOf, trivial⟩)) Tryz.func17 (by kernel_rfl) (by kernel_rfl) (fun cx b hp hb => all_of (by kernel_rfl : loopsOf (Tryz.f17.body.getD .skip) = [nthLoop Tryz.f17 0]) ⟨lo_i_ServerTick_7 cx hp, trivial⟩ b hb) (R := (YServer) × ((List YNote) × Unit)) (T := fun (d : aden P_i_ServerTick) => T_i_ServerTick d.1 d.2.1) e_i_ServerTick
def P_l_eqByteSS : List (Bool × List Sh) := [(false, [.sl 35 [.sl 5 [.int .u8]]]), (false, [.sl 35 [.sl 5 [.int .u8]]])]
def O_l_eqByteSS (r : (Bool × Unit)) : List RV × List RV := ([rv (false, [.bool]) r], [])
def C_l_eqByteSS : Fns := [(35, .plain, F_l_eqByteS)]
def F_l_eqByteSS : Fun1 := funV P_l_eqByteSS (fun d => (T_l_eqByteSS d.1 d.2.1).val) O_l_eqByteSS
def K_l_eqByteSS_4 : Sk := ⟨[(0, .v false [(.sl 35 [.sl 5 [.int .u8]], .ro)]), (1, .v false [(.sl 35 [.sl 5 [.int .u8]], .ro)]), (5, .v false [(.int .i64, .nil)])], [], []⟩
def X_l_eqByteSS_4 : List (Ex × Sk) := [(.ret, ⟨[(4, .v false [(.bool, .nil)])], [], []⟩), ((.exit 0), ⟨[], [], []⟩)]
def Q_l_eqByteSS : Loops := fun i st => cond (Nat.beq i 4) (lam K_l_eqByteSS_4 5000000 X_l_eqByteSS_4 B_l_eqByteSS_4 st) <| .fail
theorem lp_l_eqByteSS_4 : ∀ d, bod ⟨lookT tys, ctrOf C_l_eqByteSS, kindOf C_l_eqByteSS, 3, 4⟩ 0 Tryz.f73.ntmps Q_l_eqByteSS (nthLoop Tryz.f73 0) K_l_eqByteSS_4 5000000 X_l_eqByteSS_4 d = B_l_eqByteSS_4 d := fun d => by kernel_rfl
theorem lo_l_eqByteSS_4 (cx : Cx) (hp : cx.pin.length ≤ 0) : LoopOk Tryz.prog cx Tryz.f73.ntmps Q_l_eqByteSS (nthLoop Tryz.f73 0) := loop_of (cfgOk_of mixed tys_ok (show FnsOk Tryz.prog C_l_eqByteSS from ⟨fn_l_eqByteS, trivial⟩)) hp (all_of (by kernel_rfl : loopsOf (nthLoop Tryz.f73 0) = []) trivial) (by kernel_rfl) lp_l_eqByteSS_4
theorem e_l_eqByteSS : ∀ d, pcall ⟨lookT tys, ctrOf C_l_eqByteSS, kindOf C_l_eqByteSS, 3, 4⟩ 0 Q_l_eqByteSS Tryz.f73 .plain (mkA P_l_eqByteSS d) = (T_l_eqByteSS d.1 d.2.1).run fun r => some (O_l_eqByteSS r) := fun d => by kernel_rfl
theorem fn_l_eqByteSS : Fn Tryz.prog 73 .plain F_l_eqByteSS := fn_of (cfgOk_of mixed tys_ok (show FnsOk Tryz.prog C_l_eqByteSS from ⟨fn_l_eqByteS, trivial⟩)) Tryz.func73 (by kernel_rfl) (by kernel_rfl) (fun cx b hp hb => all_of (by kernel_rfl : loopsOf (Tryz.f73.body.getD .skip) = [nthLoop Tryz.f73 0]) ⟨lo_l_eqByteSS_4 cx hp, trivial⟩ b hb) (R := (Bool × Unit)) (T := fun (d : aden P_l_eqByteSS) => T_l_eqByteSS d.1 d.2.1) e_l_eqByteSS
def P_l_eqJar : List (Bool × List Sh) := [(true, [.sl 5 [.int .u8]]), (true, [.sl 5 [.int .u8]])]
def O_l_eqJar (r : (Bool × Unit)) : List RV × List RV := ([rv (false, [.bool]) r], [])
def C_l_eqJar : Fns := [(35, .plain, F_l_eqByteS)]
def F_l_eqJar : Fun1 := funV P_l_eqJar (fun d => (T_l_eqJar d.1 d.2.1).val) O_l_eqJar
def Q_l_eqJar : Loops := fun _ _ => .fail
theorem e_l_eqJar : ∀ d, pcall ⟨lookT tys, ctrOf C_l_eqJar, kindOf C_l_eqJar, 3, 4⟩ 0 Q_l_eqJar Tryz.f74 .plain (mkA P_l_eqJar d) = (T_l_eqJar d.1 d.2.1).run fun r => some (O_l_eqJar r) := fun d => by kernel_rfl
theorem fn_l_eqJar : Fn Tryz.prog 74 .plain F_l_eqJar := fn_of (cfgOk_of mixed tys_ok (show FnsOk Tryz.prog C_l_eqJar from ⟨fn_l_eqByteS, trivial⟩)) Tryz.func74 (by kernel_rfl) (by kernel_rfl) (fun cx b hp hb => all_of (by kernel_rfl : loopsOf (Tryz.f74.body.getD .skip) = []) trivial b hb) (R := (Bool × Unit)) (T := fun (d : aden P_l_eqJar) => T_l_eqJar d.1 d.2.1) e_l_eqJar
def P_l_eqDice : List (Bool × List Sh) := [(true, [.sl 5 [.int .u8], .int .i64]), (true, [.sl 5 [.int .u8], .int .i64])]
def O_l_eqDice (r : (Bool × Unit)) : List RV × List RV := ([rv (false, [.bool]) r], [])
def C_l_eqDice : Fns := [(35, .plain, F_l_eqByteS)]
def F_l_eqDice : Fun1 := funV P_l_eqDice (fun d => (T_l_eqDice d.1 d.2.1).val) O_l_eqDice
def Q_l_eqDice : Loops := fun _ _ => .fail
theorem e_l_eqDice : ∀ d, pcall ⟨lookT tys, ctrOf C_l_eqDice, kindOf C_l_eqDice, 3, 4⟩ 0 Q_l_eqDice Tryz.f75 .plain (mkA P_l_eqDice d) = (T_l_eqDice d.1 d.2.1).run fun r => some (O_l_eqDice r) := fun d => by kernel_rfl
theorem fn_l_eqDice : Fn Tryz.prog 75 .plain F_l_eqDice := fn_of (cfgOk_of mixed tys_ok (show FnsOk Tryz.prog C_l_eqDice from ⟨fn_l_eqByteS, trivial⟩)) Tryz.func75 (by kernel_rfl) (by kernel_rfl) (fun cx b hp hb => all_of (by kernel_rfl : loopsOf (Tryz.f75.body.getD .skip) = []) trivial b hb) (R := (Bool × Unit)) (T := fun (d : aden P_l_eqDice) => T_l_eqDice d.1 d.2.1) e_l_eqDice
def P_l_eqCredit : List (Bool × List Sh) := [(true, h_1), (true, h_1)]
def O_l_eqCredit (r : (Bool × Unit)) : List RV × List RV := ([rv (false, [.bool]) r], [])
def C_l_eqCredit : Fns := [(178, .plain, F_l_eqAddr)]
def F_l_eqCredit : Fun1 := funV P_l_eqCredit (fun d => (T_l_eqCredit d.1 d.2.1).val) O_l_eqCredit
def Q_l_eqCredit : Loops := fun _ _ => .fail
theorem e_l_eqCredit : ∀ d, pcall ⟨lookT tys, ctrOf C_l_eqCredit, kindOf C_l_eqCredit, 3, 4⟩ 0 Q_l_eqCredit Tryz.f177 .plain (mkA P_l_eqCredit d) = (T_l_eqCredit d.1 d.2.1).run fun r => some (O_l_eqCredit r) := fun d => by kernel_rfl
theorem fn_l_eqCredit : Fn Tryz.prog 177 .plain F_l_eqCredit := fn_of (cfgOk_of mixed tys_ok (show FnsOk Tryz.prog C_l_eqCredit from ⟨fn_l_eqAddr, trivial⟩)) Tryz.func177 (by kernel_rfl) (by kernel_rfl) (fun cx b hp hb => all_of (by kernel_rfl : loopsOf (Tryz.f177.body.getD .skip) = []) trivial b hb) (R := (Bool × Unit)) (T := fun (d : aden P_l_eqCredit) => T_l_eqCredit d.1 d.2.1) e_l_eqCredit
def P_l_eqCreditS : List (Bool × List Sh) := [(false, [.sl 204 h_1]), (false, [.sl 204 h_1])]
def O_l_eqCreditS (r : (Bool × Unit)) : List RV × List RV := ([rv (false, [.bool]) r], [])
def C_l_eqCreditS : Fns := [(177, .plain, F_l_eqCredit)]
def F_l_eqCreditS : Fun1 := funV P_l_eqCreditS (fun d => (T_l_eqCreditS d.1 d.2.1).val) O_l_eqCreditS
def K_l_eqCreditS_4 : Sk := ⟨[(0, .v false [(.sl 204 h_1, .ro)]), (1, .v false [(.sl 204 h_1, .ro)]), (5, .v false [(.int .i64, .nil)])], [], []⟩
def X_l_eqCreditS_4 : List (Ex × Sk) := [(.ret, ⟨[(4, .v false [(.bool, .nil)])], [], []⟩), ((.exit 0), ⟨[], [], []⟩)]
def Q_l_eqCreditS : Loops := fun i st => cond (Nat.beq i 4) (lam K_l_eqCreditS_4 5000000 X_l_eqCreditS_4 B_l_eqCreditS_4 st) <| .fail
theorem lp_l_eqCreditS_4 : ∀ d, bod ⟨lookT tys, ctrOf C_l_eqCreditS, kindOf C_l_eqCreditS, 3, 4⟩ 0 Tryz.f76.ntmps Q_l_eqCreditS (nthLoop Tryz.f76 0) K_l_eqCreditS_4 5000000 X_l_eqCreditS_4 d = B_l_eqCreditS_4 d := fun d => by kernel_rfl
theorem lo_l_eqCreditS_4 (cx : Cx) (hp : cx.pin.length ≤ 0) : LoopOk Tryz.prog cx Tryz.f76.ntmps Q_l_eqCreditS (nthLoop Tryz.f76 0) := loop_of (cfgOk_of mixed tys_ok (show FnsOk Tryz.prog C_l_eqCreditS from ⟨fn_l_eqCredit, trivial⟩)) hp (all_of (by kernel_rfl : loopsOf (nthLoop Tryz.f76 0) = []) trivial) (by kernel_rfl) lp_l_eqCreditS_4
theorem e_l_eqCreditS : ∀ d, pcall ⟨lookT tys, ctrOf C_l_eqCreditS, kindOf C_l_eqCreditS, 3, 4⟩ 0 Q_l_eqCreditS Tryz.f76 .plain (mkA P_l_eqCreditS d) = (T_l_eqCreditS d.1 d.2.1).run fun r => some (O_l_eqCreditS r) := fun d => by kernel_rfl
theorem fn_l_eqCreditS : Fn Tryz.prog 76 .plain F_l_eqCreditS := fn_of (cfgOk_of mixed tys_ok (show FnsOk Tryz.prog C_l_eqCreditS from ⟨fn_l_eqCredit, trivial⟩)) Tryz.func76 (by kernel_rfl) (by kernel_rfl) (fun cx b hp hb => all_of (by kernel_rfl : loopsOf (Tryz.f76.body.getD .skip) = [nthLoop Tryz.f76 0]) ⟨lo_l_eqCreditS_4 cx hp, trivial⟩ b hb) (R := (Bool × Unit)) (T := fun (d : aden P_l_eqCreditS) => T_l_eqCreditS d.1 d.2.1) e_l_eqCreditS
def P_l_eqServer : List (Bool × List Sh) := [(true, h_14), (true, h_14)]
def O_l_eqServer (r : (Bool × Unit)) : List RV × List RV := ([rv (false, [.bool]) r], [])
def C_l_eqServer : Fns := [(73, .plain, F_l_eqByteSS), (74, .plain, F_l_eqJar), (75, .plain, F_l_eqDice), (11, .plain, F_l_eqTab), (76, .plain, F_l_eqCreditS)]
def F_l_eqServer : Fun1 := funV P_l_eqServer (fun d => (T_l_eqServer d.1 d.2.1).val) O_l_eqServer
def Q_l_eqServer : Loops := fun _ _ => .fail
theorem e_l_eqServer : ∀ d, pcall ⟨lookT tys, ctrOf C_l_eqServer, kindOf C_l_eqServer, 3, 4⟩ 0 Q_l_eqServer Tryz.f18 .plain (mkA P_l_eqServer d) = (T_l_eqServer d.1 d.2.1).run fun r => some (O_l_eqServer r) := fun d => by kernel_rfl
theorem fn_l_eqServer : Fn Tryz.prog 18 .plain F_l_eqServer := fn_of (cfgOk_of mixed tys_ok (show FnsOk Tryz.prog C_l_eqServer from ⟨fn_l_eqByteSS, fn_l_eqJar, fn_l_eqDice, fn_l_eqTab, fn_l_eqCreditS, trivial⟩)) Tryz.func18 (by kernel_rfl) (by kernel_rfl) (fun cx b hp hb => all_of (by kernel_rfl : loopsOf (Tryz.f18.body.getD .skip) = []) trivial b hb) (R := (Bool × Unit)) (T := fun (d : aden P_l_eqServer) => T_l_eqServer d.1 d.2.1) e_l_eqServer
def P_l_eqNote : List (Bool × List Sh) := [(true, h_7), (true, h_7)]
def O_l_eqNote (r : (Bool × Unit)) : List RV × List RV := ([rv (false, [.bool]) r], [])
def C_l_eqNote : Fns := [(35, .plain, F_l_eqByteS), (178, .plain, F_l_eqAddr)]
def F_l_eqNote : Fun1 := funV P_l_eqNote (fun d => (T_l_eqNote d.1 d.2.1).val) O_l_eqNote
def Q_l_eqNote : Loops := fun _ _ => .fail
theorem e_l_eqNote : ∀ d, pcall ⟨lookT tys, ctrOf C_l_eqNote, kindOf C_l_eqNote, 3, 4⟩ 0 Q_l_eqNote Tryz.f77 .plain (mkA P_l_eqNote d) = (T_l_eqNote d.1 d.2.1).run fun r => some (O_l_eqNote r) := fun d => by kernel_rfl
theorem fn_l_eqNote : Fn Tryz.prog 77 .plain F_l_eqNote := fn_of (cfgOk_of mixed tys_ok (show FnsOk Tryz.prog C_l_eqNote from ⟨fn_l_eqByteS, fn_l_eqAddr, trivial⟩)) Tryz.func77 (by kernel_rfl) (by kernel_rfl) (fun cx b hp hb => all_of (by kernel_rfl : loopsOf (Tryz.f77.body.getD .skip) = []) trivial b hb) (R := (Bool × Unit)) (T := fun (d : aden P_l_eqNote) => T_l_eqNote d.1 d.2.1) e_l_eqNote
def P_l_eqNoteS : List (Bool × List Sh) := [(false, [.sl 123 h_7]), (false, [.sl 123 h_7])]
def O_l_eqNoteS (r : (Bool × Unit)) : List RV × List RV := ([rv (false, [.bool]) r], [])
def C_l_eqNoteS : Fns := [(77, .plain, F_l_eqNote)]
def F_l_eqNoteS : Fun1 := funV P_l_eqNoteS (fun d => (T_l_eqNoteS d.1 d.2.1).val) O_l_eqNoteS
def K_l_eqNoteS_4 : Sk := ⟨[(0, .v false [(.sl 123 h_7, .ro)]), (1, .v false [(.sl 123 h_7, .ro)]), (5, .v false [(.int .i64, .nil)])], [], []⟩
def X_l_eqNoteS_4 : List (Ex × Sk) := [(.ret, ⟨[(4, .v false [(.bool, .nil)])], [], []⟩), ((.exit 0), ⟨[], [], []⟩)]
def Q_l_eqNoteS : Loops := fun i st => cond (Nat.beq i 4) (lam K_l_eqNoteS_4 5000000 X_l_eqNoteS_4 B_l_eqNoteS_4 st) <| .fail
theorem lp_l_eqNoteS_4 : ∀ d, bod ⟨lookT tys, ctrOf C_l_eqNoteS, kindOf C_l_eqNoteS, 3, 4⟩ 0 Tryz.f19.ntmps Q_l_eqNoteS (nthLoop Tryz.f19 0) K_l_eqNoteS_4 5000000 X_l_eqNoteS_4 d = B_l_eqNoteS_4 d := fun d => by kernel_rfl
theorem lo_l_eqNoteS_4 (cx : Cx) (hp : cx.pin.length ≤ 0) : LoopOk Tryz.prog cx Tryz.f19.ntmps Q_l_eqNoteS (nthLoop Tryz.f19 0) := loop_of (cfgOk_of mixed tys_ok (show FnsOk Tryz.prog C_l_eqNoteS from ⟨fn_l_eqNote, trivial⟩)) hp (all_of (by kernel_rfl : loopsOf (nthLoop Tryz.f19 0) = []) trivial) (by kernel_rfl) lp_l_eqNoteS_4
theorem e_l_eqNoteS : ∀ d, pcall ⟨lookT tys, ctrOf C_l_eqNoteS, kindOf C_l_eqNoteS, 3, 4⟩ 0 Q_l_eqNoteS Tryz.f19 .plain (mkA P_l_eqNoteS d) = (T_l_eqNoteS d.1 d.2.1).run fun r => some (O_l_eqNoteS r) := fun d => by kernel_rfl
theorem fn_l_eqNoteS : Fn Tryz.prog 19 .plain F_l_eqNoteS := fn_of (cfgOk_of mixed tys_ok (show FnsOk Tryz.prog C_l_eqNoteS from ⟨fn_l_eqNote, trivial⟩)) Tryz.func19 (by kernel_rfl) (by kernel_rfl) (fun cx b hp hb => all_of (by kernel_rfl : loopsOf (Tryz.f19.body.getD .skip) = [nthLoop Tryz.f19 0]) ⟨lo_l_eqNoteS_4 cx hp, trivial⟩ b hb) (R := (Bool × Unit)) (T := fun (d : aden P_l_eqNoteS) => T_l_eqNoteS d.1 d.2.1) e_l_eqNoteS
def P_l_markByteSS : List (Bool × List Sh) := [(false, [.sl 35 [.sl 5 [.int .u8]]]), (false, [.int .i64])]
def O_l_markByteSS (r : (YI) × ((List YBs) × Unit)) : List RV × List RV := ([rv (false, [.int .i64]) r.1], [rv (false, [.sl 35 [.sl 5 [.int .u8]]]) r.2])
def C_l_markByteSS : Fns := [(38, (.lend [1]), F_l_markByteS)]
def F_l_markByteSS : Fun1 := funV P_l_markByteSS (fun d => (T_l_markByteSS d.1 d.2.1).val) O_l_markByteSS
def K_l_markByteSS_2 : Sk := ⟨[(0, .v false [(.sl 35 [.sl 5 [.int .u8]], (.own 3000000))]), (1, .v false [(.int .i64, .nil)]), (5, .v false [(.int .i64, .nil)])], [], [3000000]⟩
def X_l_markByteSS_2 : List (Ex × Sk) := [((.exit 0), ⟨[(0, .v false [(.sl 35 [.sl 5 [.int .u8]], (.own 3000000))]), (1, .v false [(.int .i64, .nil)])], [], [3000000]⟩)]
def Q_l_markByteSS : Loops := fun i st => cond (Nat.beq i 2) (lam K_l_markByteSS_2 3000000 X_l_markByteSS_2 B_l_markByteSS_2 st) <| .fail
theorem lp_l_markByteSS_2 : ∀ d, bod ⟨lookT tys, ctrOf C_l_markByteSS, kindOf C_l_markByteSS, 3, 4⟩ 1 Tryz.f78.ntmps Q_l_markByteSS (nthLoop Tryz.f78 0) K_l_markByteSS_2 3000000 X_l_markByteSS_2 d = B_l_markByteSS_2 d := fun d => by kernel_rfl
theorem lo_l_markByteSS_2 (cx : Cx) (hp : cx.pin.length ≤ 1) : LoopOk Tryz.prog cx Tryz.f78.ntmps Q_l_markByteSS (nthLoop Tryz.f78 0) := loop_of (cfgOk_of mixed tys_ok (show FnsOk Tryz.prog C_l_markByteSS from ⟨fn_l_markByteS, trivial⟩)) hp (all_of (by kernel_rfl : loopsOf (nthLoop Tryz.f78 0) = []) trivial) (by kernel_rfl) lp_l_markByteSS_2
theorem e_l_markByteSS : ∀ d, pcall ⟨lookT tys, ctrOf C_l_markByteSS, kindOf C_l_markByteSS, 3, 4⟩ 1 Q_l_markByteSS Tryz.f78 (.lend [1]) (mkA P_l_markByteSS d) = (T_l_markByteSS d.1 d.2.1).run fun r => some (O_l_markByteSS r) := fun d => by kernel_rfl
theorem fn_l_markByteSS : Fn Tryz.prog 78 (.lend [1]) F_l_markByteSS := fn_of (cfgOk_of mixed tys_ok (show FnsOk Tryz.prog C_l_markByteSS from ⟨fn_l_markByteS, trivial⟩)) Tryz.func78 (by kernel_rfl) (by kernel_rfl) (fun cx b hp hb => all_of (by kernel_rfl : loopsOf (Tryz.f78.body.getD .skip) = [nthLoop Tryz.f78 0]) ⟨lo_l_markByteSS_2 cx hp, trivial⟩ b hb) (R := (YI) × ((List YBs) × Unit)) (T := fun (d : aden P_l_markByteSS) => T_l_markByteSS d.1 d.2.1) e_l_markByteSS
def P_l_markJar : List (Bool × List Sh) := [(true, [.sl 5 [.int .u8]]), (false, [.int .i64])]
def O_l_markJar (r : (YI) × (YBs)) : List RV × List RV := ([rv (false, [.int .i64]) r.1], [rv (true, [.sl 5 [.int .u8]]) r.2])
def C_l_markJar : Fns := [(38, (.lend [1]), F_l_markByteS)]
def F_l_markJar : Fun1 := funV P_l_markJar (fun d => (T_l_markJar d.1 d.2.1).val) O_l_markJar
def Q_l_markJar : Loops := fun _ _ => .fail
theorem e_l_markJar : ∀ d, pcall ⟨lookT tys, ctrOf C_l_markJar, kindOf C_l_markJar, 3, 4⟩ 1 Q_l_markJar Tryz.f79 (.lend [1]) (mkA P_l_markJar d) = (T_l_markJar d.1 d.2.1).run fun r => some (O_l_markJar r) := fun d => by kernel_rfl
theorem fn_l_markJar : Fn Tryz.prog 79 (.lend [1]) F_l_markJar := fn_of (cfgOk_of mixed tys_ok (show FnsOk Tryz.prog C_l_markJar from ⟨fn_l_markByteS, trivial⟩)) Tryz.func79 (by kernel_rfl) (by kernel_rfl) (fun cx b hp hb => all_of (by kernel_rfl : loopsOf (Tryz.f79.body.getD .skip) = []) trivial b hb) (R := (YI) × (YBs)) (T := fun (d : aden P_l_markJar) => T_l_markJar d.1 d.2.1) e_l_markJar
def P_l_markDice : List (Bool × List Sh) := [(true, [.sl 5 [.int .u8], .int .i64]), (false, [.int .i64])]
def O_l_markDice (r : (YI) × (YDice)) : List RV × List RV := ([rv (false, [.int .i64]) r.1], [rv (true, [.sl 5 [.int .u8], .int .i64]) r.2])
def C_l_markDice : Fns := [(38, (.lend [1]), F_l_markByteS)]
def F_l_markDice : Fun1 := funV P_l_markDice (fun d => (T_l_markDice d.1 d.2.1).val) O_l_markDice
def Q_l_markDice : Loops := fun _ _ => .fail
theorem e_l_markDice : ∀ d, pcall ⟨lookT tys, ctrOf C_l_markDice, kindOf C_l_markDice, 3, 4⟩ 1 Q_l_markDice Tryz.f80 (.lend [1]) (mkA P_l_markDice d) = (T_l_markDice d.1 d.2.1).run fun r => some (O_l_markDice r) := fun d => by kernel_rfl
theorem fn_l_markDice : Fn Tryz.prog 80 (.lend [1]) F_l_markDice := fn_of (cfgOk_of mixed tys_ok (show FnsOk Tryz.prog C_l_markDice from ⟨fn_l_markByteS, trivial⟩)) Tryz.func80 (by kernel_rfl) (by kernel_rfl) (fun cx b hp hb => all_of (by kernel_rfl : loopsOf (Tryz.f80.body.getD .skip) = []) trivial b hb) (R := (YI) × (YDice)) (T := fun (d : aden P_l_markDice) => T_l_markDice d.1 d.2.1) e_l_markDice
def P_l_markCreditS : List (Bool × List Sh) := [(false, [.sl 204 h_1]), (false, [.int .i64])]
def O_l_markCreditS (r : (YI) × ((List YCredit) × Unit)) : List RV × List RV := ([rv (false, [.int .i64]) r.1], [rv (false, [.sl 204 h_1]) r.2])
def C_l_markCreditS : Fns := []
def F_l_markCreditS : Fun1 := funV P_l_markCreditS (fun d => (T_l_markCreditS d.1 d.2.1).val) O_l_markCreditS
def K_l_markCreditS_2 : Sk := ⟨[(0, .v false [(.sl 204 h_1, (.own 3000000))]), (1, .v false [(.int .i64, .nil)]), (5, .v false [(.int .i64, .nil)])], [], [3000000]⟩
def X_l_markCreditS_2 : List (Ex × Sk) := [((.exit 0), ⟨[(0, .v false [(.sl 204 h_1, (.own 3000000))]), (1, .v false [(.int .i64, .nil)])], [], [3000000]⟩)]
def Q_l_markCreditS : Loops := fun i st => cond (Nat.beq i 2) (lam K_l_markCreditS_2 3000000 X_l_markCreditS_2 B_l_markCreditS_2 st) <| .fail
theorem lp_l_markCreditS_2 : ∀ d, bod ⟨lookT tys, ctrOf C_l_markCreditS, kindOf C_l_markCreditS, 3, 4⟩ 1 Tryz.f81.ntmps Q_l_markCreditS (nthLoop Tryz.f81 0) K_l_markCreditS_2 3000000 X_l_markCreditS_2 d = B_l_markCreditS_2 d := fun d => by kernel_rfl
theorem lo_l_markCreditS_2 (cx : Cx) (hp : cx.pin.length ≤ 1) : LoopOk Tryz.prog cx Tryz.f81.ntmps Q_l_markCreditS (nthLoop Tryz.f81 0) := loop_of (cfgOk_of mixed tys_ok (show FnsOk Tryz.prog C_l_markCreditS from trivial)) hp (all_of (by kernel_rfl : loopsOf (nthLoop Tryz.f81 0) = []) trivial) (by kernel_rfl) lp_l_markCreditS_2
theorem e_l_markCreditS : ∀ d, pcall ⟨lookT tys, ctrOf C_l_markCreditS, kindOf C_l_markCreditS, 3, 4⟩ 1 Q_l_markCreditS Tryz.f81 (.lend [1]) (mkA P_l_markCreditS d) = (T_l_markCreditS d.1 d.2.1).run fun r => some (O_l_markCreditS r) := fun d => by kernel_rfl
theorem fn_l_markCreditS : Fn Tryz.prog 81 (.lend [1]) F_l_markCreditS := fn_of (cfgOk_of mixed tys_ok (show FnsOk Tryz.prog C_l_markCreditS from trivial)) Tryz.func81 (by kernel_rfl) (by kernel_rfl) (fun cx b hp hb => all_of (by kernel_rfl : loopsOf (Tryz.f81.body.getD .skip) = [nthLoop Tryz.f81 0]) ⟨lo_l_markCreditS_2 cx hp, trivial⟩ b hb) (R := (YI) × ((List YCredit) × Unit)) (T := fun (d : aden P_l_markCreditS) => T_l_markCreditS d.1 d.2.1) e_l_markCreditS
def P_l_markServer : List (Bool × List Sh) := [(true, h_14), (false, [.int .i64])]
def O_l_markServer (r : (YI) × (YServer)) : List RV × List RV := ([rv (false, [.int .i64]) r.1], [rv (true, h_14) r.2])
def C_l_markServer : Fns := [(78, (.lend [1]), F_l_markByteSS), (79, (.lend [1]), F_l_markJar), (80, (.lend [1]), F_l_markDice), (12, (.lend [1]), F_l_markTab), (81, (.lend [1]), F_l_markCreditS)]
def F_l_markServer : Fun1 := funV P_l_markServer (fun d => (T_l_markServer d.1 d.2.1).val) O_l_markServer
def Q_l_markServer : Loops := fun _ _ => .fail
theorem e_l_markServer : ∀ d, pcall ⟨lookT tys, ctrOf C_l_markServer, kindOf C_l_markServer, 3, 4⟩ 1 Q_l_markServer Tryz.f20 (.lend [1]) (mkA P_l_markServer d) = (T_l_markServer d.1 d.2.1).run fun r => some (O_l_markServer r) := fun d => by kernel_rfl
theorem fn_l_markServer : Fn Tryz.prog 20 (.lend [1]) F_l_markServer := fn_of (cfgOk_of mixed tys_ok (show FnsOk Tryz.prog C_l_markServer from ⟨fn_l_markByteSS, fn_l_markJar, fn_l_markDice, fn_l_markTab, fn_l_markCreditS, trivial⟩)) Tryz.func20 (by kernel_rfl) (by kernel_rfl) (fun cx b hp hb => all_of (by kernel_rfl : loopsOf (Tryz.f20.body.getD .skip) = []) trivial b hb) (R := (YI) × (YServer)) (T := fun (d : aden P_l_markServer) => T_l_markServer d.1 d.2.1) e_l_markServer
def P_l_markNoteS : List (Bool × List Sh) := [(false, [.sl 123 h_7]), (false, [.int .i64])]
def O_l_markNoteS (r : (YI) × ((List YNote) × Unit)) : List RV × List RV := ([rv (false, [.int .i64]) r.1], [rv (false, [.sl 123 h_7]) r.2])
def C_l_markNoteS : Fns := [(38, (.lend [1]), F_l_markByteS)]
def F_l_markNoteS : Fun1 := funV P_l_markNoteS (fun d => (T_l_markNoteS d.1 d.2.1).val) O_l_markNoteS
def K_l_markNoteS_2 : Sk := ⟨[(0, .v false [(.sl 123 h_7, (.own 3000000))]), (1, .v false [(.int .i64, .nil)]), (5, .v false [(.int .i64, .nil)])], [], [3000000]⟩
def X_l_markNoteS_2 : List (Ex × Sk) := [((.exit 0), ⟨[(0, .v false [(.sl 123 h_7, (.own 3000000))]), (1, .v false [(.int .i64, .nil)])], [], [3000000]⟩)]
def Q_l_markNoteS : Loops := fun i st => cond (Nat.beq i 2) (lam K_l_markNoteS_2 3000000 X_l_markNoteS_2 B_l_markNoteS_2 st) <| .fail
theorem lp_l_markNoteS_2 : ∀ d, bod ⟨lookT tys, ctrOf C_l_markNoteS, kindOf C_l_markNoteS, 3, 4⟩ 1 Tryz.f21.ntmps Q_l_markNoteS (nthLoop Tryz.f21 0) K_l_markNoteS_2 3000000 X_l_markNoteS_2 d = B_l_markNoteS_2 d := fun d => by kernel_rfl
theorem lo_l_markNoteS_2 (cx : Cx) (hp : cx.pin.length ≤ 1) : LoopOk Tryz.prog cx Tryz.f21.ntmps Q_l_markNoteS (nthLoop Tryz.f21 0) := loop_of (cfgOk_of mixed tys_ok (show FnsOk Tryz.prog C_l_markNoteS from ⟨fn_l_markByteS, trivial⟩)) hp (all_of (by kernel_rfl : loopsOf (nthLoop Tryz.f21 0) = []) trivial) (by kernel_rfl) lp_l_markNoteS_2
theorem e_l_markNoteS : ∀ d, pcall ⟨lookT tys, ctrOf C_l_markNoteS, kindOf C_l_markNoteS, 3, 4⟩ 1 Q_l_markNoteS Tryz.f21 (.lend [1]) (mkA P_l_markNoteS d) = (T_l_markNoteS d.1 d.2.1).run fun r => some (O_l_markNoteS r) := fun d => by kernel_rfl
theorem fn_l_markNoteS : Fn Tryz.prog 21 (.lend [1]) F_l_markNoteS := fn_of (cfgOk_of mixed tys_ok (show FnsOk Tryz.prog C_l_markNoteS from ⟨fn_l_markByteS, trivial⟩)) Tryz.func21 (by kernel_rfl) (by kernel_rfl) (fun cx b hp hb => all_of (by kernel_rfl : loopsOf (Tryz.f21.body.getD .skip) = [nthLoop Tryz.f21 0]) ⟨lo_l_markNoteS_2 cx hp, trivial⟩ b hb) (R := (YI) × ((List YNote) × Unit)) (T := fun (d : aden P_l_markNoteS) => T_l_markNoteS d.1 d.2.1) e_l_markNoteS
def P_l_heldByteSS : List (Bool × List Sh) := [(false, [.sl 35 [.sl 5 [.int .u8]]]), (false, [.int .i64])]
def O_l_heldByteSS (r : (YI)) : List RV × List RV := ([rv (false, [.int .i64]) r], [])
def C_l_heldByteSS : Fns := [(86, .plain, F_l_heldByteS)]
def F_l_heldByteSS : Fun1 := funV P_l_heldByteSS (fun d => (T_l_heldByteSS d.1 d.2.1).val) O_l_heldByteSS
def K_l_heldByteSS_2 : Sk := ⟨[(0, .v false [(.sl 35 [.sl 5 [.int .u8]], .ro)]), (1, .v false [(.int .i64, .nil)]), (5, .v false [(.int .i64, .nil)])], [], []⟩
def X_l_heldByteSS_2 : List (Ex × Sk) := [(.ret, ⟨[(4, .v false [(.int .i64, .nil)])], [], []⟩), ((.exit 0), ⟨[(1, .v false [(.int .i64, .nil)])], [], []⟩)]
def Q_l_heldByteSS : Loops := fun i st => cond (Nat.beq i 2) (lam K_l_heldByteSS_2 3000000 X_l_heldByteSS_2 B_l_heldByteSS_2 st) <| .fail
theorem lp_l_heldByteSS_2 : ∀ d, bod ⟨lookT tys, ctrOf C_l_heldByteSS, kindOf C_l_heldByteSS, 3, 4⟩ 0 Tryz.f82.ntmps Q_l_heldByteSS (nthLoop Tryz.f82 0) K_l_heldByteSS_2 3000000 X_l_heldByteSS_2 d = B_l_heldByteSS_2 d := fun d => by kernel_rfl
theorem lo_l_heldByteSS_2 (cx : Cx) (hp : cx.pin.length ≤ 0) : LoopOk Tryz.prog cx Tryz.f82.ntmps Q_l_heldByteSS (nthLoop Tryz.f82 0) := loop_of (cfgOk_of mixed tys_ok (show FnsOk Tryz.prog C_l_heldByteSS from ⟨fn_l_heldByteS, trivial⟩)) hp (all_of (by kernel_rfl : loopsOf (nthLoop Tryz.f82 0) = []) trivial) (by kernel_rfl) lp_l_heldByteSS_2
theorem e_l_heldByteSS : ∀ d, pcall ⟨lookT tys, ctrOf C_l_heldByteSS, kindOf C_l_heldByteSS, 3, 4⟩ 0 Q_l_heldByteSS Tryz.f82 .plain (mkA P_l_heldByteSS d) = (T_l_heldByteSS d.1 d.2.1).run fun r => some (O_l_heldByteSS r) := fun d => by kernel_rfl
theorem fn_l_heldByteSS : Fn Tryz.prog 82 .plain F_l_heldByteSS := fn_of (cfgOk_of mixed tys_ok (show FnsOk Tryz.prog C_l_heldByteSS from ⟨fn_l_heldByteS, trivial⟩)) Tryz.func82 (by kernel_rfl) (by kernel_rfl) (fun cx b hp hb => all_of (by kernel_rfl : loopsOf (Tryz.f82.body.getD .skip) = [nthLoop Tryz.f82 0]) ⟨lo_l_heldByteSS_2 cx hp, trivial⟩ b hb) (R := (YI)) (T := fun (d : aden P_l_heldByteSS) => T_l_heldByteSS d.1 d.2.1) e_l_heldByteSS
def P_l_heldJar : List (Bool × List Sh) := [(true, [.sl 5 [.int .u8]]), (false, [.int .i64])]
def O_l_heldJar (r : (YI)) : List RV × List RV := ([rv (false, [.int .i64]) r], [])
def C_l_heldJar : Fns := [(86, .plain, F_l_heldByteS)]
def F_l_heldJar : Fun1 := funV P_l_heldJar (fun d => (T_l_heldJar d.1 d.2.1).val) O_l_heldJar
def Q_l_heldJar : Loops := fun _ _ => .fail
theorem e_l_heldJar : ∀ d, pcall ⟨lookT tys, ctrOf C_l_heldJar, kindOf C_l_heldJar, 3, 4⟩ 0 Q_l_heldJar Tryz.f83 .plain (mkA P_l_heldJar d) = (T_l_heldJar d.1 d.2.1).run fun r => some (O_l_heldJar r) := fun d => by kernel_rfl
theorem fn_l_heldJar : Fn Tryz.prog 83 .plain F_l_heldJar := fn_of (cfgOk_of mixed tys_ok (show FnsOk Tryz.prog C_l_heldJar from ⟨fn_l_heldByteS, trivial⟩)) Tryz.func83 (by kernel_rfl) (by kernel_rfl) (fun cx b hp hb => all_of (by kernel_rfl : loopsOf (Tryz.f83.body.getD .skip) = []) trivial b hb) (R := (YI)) (T := fun (d : aden P_l_heldJar) => T_l_heldJar d.1 d.2.1) e_l_heldJar
def P_l_heldDice : List (Bool × List Sh) := [(true, [.sl 5 [.int .u8], .int .i64]), (false, [.int .i64])]
def O_l_heldDice (r : (YI)) : List RV × List RV := ([rv (false, [.int .i64]) r], [])
def C_l_heldDice : Fns := [(86, .plain, F_l_heldByteS)]
def F_l_heldDice : Fun1 := funV P_l_heldDice (fun d => (T_l_heldDice d.1 d.2.1).val) O_l_heldDice
def Q_l_heldDice : Loops := fun _ _ => .fail
theorem e_l_heldDice : ∀ d, pcall ⟨lookT tys, ctrOf C_l_heldDice, kindOf C_l_heldDice, 3, 4⟩ 0 Q_l_heldDice Tryz.f84 .plain (mkA P_l_heldDice d) = (T_l_heldDice d.1 d.2.1).run fun r => some (O_l_heldDice r) := fun d => by kernel_rfl
theorem fn_l_heldDice : Fn Tryz.prog 84 .plain F_l_heldDice := fn_of (cfgOk_of mixed tys_ok (show FnsOk Tryz.prog C_l_heldDice from ⟨fn_l_heldByteS, trivial⟩)) Tryz.func84 (by kernel_rfl) (by kernel_rfl) (fun cx b hp hb => all_of (by kernel_rfl : loopsOf (Tryz.f84.body.getD .skip) = []) trivial b hb) (R := (YI)) (T := fun (d : aden P_l_heldDice) => T_l_heldDice d.1 d.2.1) e_l_heldDice
def P_l_heldCreditS : List (Bool × List Sh) := [(false, [.sl 204 h_1]), (false, [.int .i64])]
def O_l_heldCreditS (r : (YI)) : List RV × List RV := ([rv (false, [.int .i64]) r], [])
def C_l_heldCreditS : Fns := []
def F_l_heldCreditS : Fun1 := funV P_l_heldCreditS (fun d => (T_l_heldCreditS d.1 d.2.1).val) O_l_heldCreditS
def K_l_heldCreditS_2 : Sk := ⟨[(0, .v false [(.sl 204 h_1, .ro)]), (1, .v false [(.int .i64, .nil)]), (5, .v false [(.int .i64, .nil)])], [], []⟩
def X_l_heldCreditS_2 : List (Ex × Sk) := [(.ret, ⟨[(4, .v false [(.int .i64, .nil)])], [], []⟩), ((.exit 0), ⟨[(1, .v false [(.int .i64, .nil)])], [], []⟩)]
def Q_l_heldCreditS : Loops := fun i st => cond (Nat.beq i 2) (lam K_l_heldCreditS_2 3000000 X_l_heldCreditS_2 B_l_heldCreditS_2 st) <| .fail
theorem lp_l_heldCreditS_2 : ∀ d, bod ⟨lookT tys, ctrOf C_l_heldCreditS, kindOf C_l_heldCreditS, 3, 4⟩ 0 Tryz.f85.ntmps Q_l_heldCreditS (nthLoop Tryz.f85 0) K_l_heldCreditS_2 3000000 X_l_heldCreditS_2 d = B_l_heldCreditS_2 d := fun d => by kernel_rfl
theorem lo_l_heldCreditS_2 (cx : Cx) (hp : cx.pin.length ≤ 0) : LoopOk Tryz.prog cx Tryz.f85.ntmps Q_l_heldCreditS (nthLoop Tryz.f85 0) := loop_of (cfgOk_of mixed tys_ok (show FnsOk Tryz.prog C_l_heldCreditS from trivial)) hp (all_of (by kernel_rfl : loopsOf (nthLoop Tryz.f85 0) = []) trivial) (by kernel_rfl) lp_l_heldCreditS_2
theorem e_l_heldCreditS : ∀ d, pcall ⟨lookT tys, ctrOf C_l_heldCreditS, kindOf C_l_heldCreditS, 3, 4⟩ 0 Q_l_heldCreditS Tryz.f85 .plain (mkA P_l_heldCreditS d) = (T_l_heldCreditS d.1 d.2.1).run fun r => some (O_l_heldCreditS r) := fun d => by kernel_rfl
theorem fn_l_heldCreditS : Fn Tryz.prog 85 .plain F_l_heldCreditS := fn_of (cfgOk_of mixed tys_ok (show FnsOk Tryz.prog C_l_heldCreditS from trivial)) Tryz.func85 (by kernel_rfl) (by kernel_rfl) (fun cx b hp hb => all_of (by kernel_rfl : loopsOf (Tryz.f85.body.getD .skip) = [nthLoop Tryz.f85 0]) ⟨lo_l_heldCreditS_2 cx hp, trivial⟩ b hb) (R := (YI)) (T := fun (d : aden P_l_heldCreditS) => T_l_heldCreditS d.1 d.2.1) e_l_heldCreditS
def P_l_heldServer : List (Bool × List Sh) := [(true, h_14), (false, [.int .i64])]
def O_l_heldServer (r : (YI)) : List RV × List RV := ([rv (false, [.int .i64]) r], [])
def C_l_heldServer : Fns := [(82, .plain, F_l_heldByteSS), (83, .plain, F_l_heldJar), (84, .plain, F_l_heldDice), (13, .plain, F_l_heldTab), (85, .plain, F_l_heldCreditS)]
def F_l_heldServer : Fun1 := funV P_l_heldServer (fun d => (T_l_heldServer d.1 d.2.1).val) O_l_heldServer
def Q_l_heldServer : Loops := fun _ _ => .fail
theorem e_l_heldServer : ∀ d, pcall ⟨lookT tys, ctrOf C_l_heldServer, kindOf C_l_heldServer, 3, 4⟩ 0 Q_l_heldServer Tryz.f22 .plain (mkA P_l_heldServer d) = (T_l_heldServer d.1 d.2.1).run fun r => some (O_l_heldServer r) := fun d => by kernel_rfl
theorem fn_l_heldServer : Fn Tryz.prog 22 .plain F_l_heldServer := fn_of (cfgOk_of mixed tys_ok (show FnsOk Tryz.prog C_l_heldServer from ⟨fn_l_heldByteSS, fn_l_heldJar, fn_l_heldDice, fn_l_heldTab, fn_l_heldCreditS, trivial⟩)) Tryz.func22 (by kernel_rfl) (by kernel_rfl) (fun cx b hp hb => all_of (by kernel_rfl : loopsOf (Tryz.f22.body.getD .skip) = []) trivial b hb) (R := (YI)) (T := fun (d : aden P_l_heldServer) => T_l_heldServer d.1 d.2.1) e_l_heldServer
def P_l_heldNoteS : List (Bool × List Sh) := [(false, [.sl 123 h_7]), (false, [.int .i64])]
def O_l_heldNoteS (r : (YI)) : List RV × List RV := ([rv (false, [.int .i64]) r], [])
def C_l_heldNoteS : Fns := [(86, .plain, F_l_heldByteS)]
def F_l_heldNoteS : Fun1 := funV P_l_heldNoteS (fun d => (T_l_heldNoteS d.1 d.2.1).val) O_l_heldNoteS
def K_l_heldNoteS_2 : Sk := ⟨[(0, .v false [(.sl 123 h_7, .ro)]), (1, .v false [(.int .i64, .nil)]), (5, .v false [(.int .i64, .nil)])], [], []⟩
def X_l_heldNoteS_2 : List (Ex × Sk) := [(.ret, ⟨[(4, .v false [(.int .i64, .nil)])], [], []⟩), ((.exit 0), ⟨[(1, .v false [(.int .i64, .nil)])], [], []⟩)]
def Q_l_heldNoteS : Loops := fun i st => cond (Nat.beq i 2) (lam K_l_heldNoteS_2 3000000 X_l_heldNoteS_2 B_l_heldNoteS_2 st) <| .fail
theorem lp_l_heldNoteS_2 : ∀ d, bod ⟨lookT tys, ctrOf C_l_heldNoteS, kindOf C_l_heldNoteS, 3, 4⟩ 0 Tryz.f23.ntmps Q_l_heldNoteS (nthLoop Tryz.f23 0) K_l_heldNoteS_2 3000000 X_l_heldNoteS_2 d = B_l_heldNoteS_2 d := fun d => by kernel_rfl
theorem lo_l_heldNoteS_2 (cx : Cx) (hp : cx.pin.length ≤ 0) : LoopOk Tryz.prog cx Tryz.f23.ntmps Q_l_heldNoteS (nthLoop Tryz.f23 0) := loop_of (cfgOk_of mixed tys_ok (show FnsOk Tryz.prog C_l_heldNoteS from ⟨fn_l_heldByteS, trivial⟩)) hp (all_of (by kernel_rfl : loopsOf (nthLoop Tryz.f23 0) = []) trivial) (by kernel_rfl) lp_l_heldNoteS_2
theorem e_l_heldNoteS : ∀ d, pcall ⟨lookT tys, ctrOf C_l_heldNoteS, kindOf C_l_heldNoteS, 3, 4⟩ 0 Q_l_heldNoteS Tryz.f23 .plain (mkA P_l_heldNoteS d) = (T_l_heldNoteS d.1 d.2.1).run fun r => some (O_l_heldNoteS r) := fun d => by kernel_rfl
theorem fn_l_heldNoteS : Fn Tryz.prog 23 .plain F_l_heldNoteS := fn_of (cfgOk_of mixed tys_ok (show FnsOk Tryz.prog C_l_heldNoteS from ⟨fn_l_heldByteS, trivial⟩)) Tryz.func23 (by kernel_rfl) (by kernel_rfl) (fun cx b hp hb => all_of (by kernel_rfl : loopsOf (Tryz.f23.body.getD .skip) = [nthLoop Tryz.f23 0]) ⟨lo_l_heldNoteS_2 cx hp, trivial⟩ b hb) (R := (YI)) (T := fun (d : aden P_l_heldNoteS) => T_l_heldNoteS d.1 d.2.1) e_l_heldNoteS
def P_l_FnExactServerTick : List (Bool × List Sh) := [(true, h_13), (false, [.int .i64])]
def O_l_FnExactServerTick (r : (Bool × Unit)) : List RV × List RV := ([rv (false, [.bool]) r], [])
def C_l_FnExactServerTick : Fns := [(14, .plain, F_l_szServer), (16, .plain, F_l_toServer), (15, .plain, F_s_ServerTick), (17, .plain, F_i_ServerTick), (18, .plain, F_l_eqServer), (19, .plain, F_l_eqNoteS), (20, (.lend [1]), F_l_markServer), (21, (.lend [1]), F_l_markNoteS), (22, .plain, F_l_heldServer), (23, .plain, F_l_heldNoteS)]
def F_l_FnExactServerTick : Fun1 := funV P_l_FnExactServerTick (fun d => (T_l_FnExactServerTick d.1 d.2.1).val) O_l_FnExactServerTick
def Q_l_FnExactServerTick : Loops := fun _ _ => .fail
theorem e_l_FnExactServerTick : ∀ d, pcall ⟨lookT tys, ctrOf C_l_FnExactServerTick, kindOf C_l_FnExactServerTick, 3, 4⟩ 0 Q_l_FnExactServerTick Tryz.f4 .plain (mkA P_l_FnExactServerTick d) = (T_l_FnExactServerTick d.1 d.2.1).run fun r => some (O_l_FnExactServerTick r) := fun d => by kernel_rfl
theorem fn_l_FnExactServerTick : Fn Tryz.prog 4 .plain F_l_FnExactServerTick := fn_of (cfgOk_of mixed tys_ok (show FnsOk Tryz.prog C_l_FnExactServerTick from ⟨fn_l_szServer, fn_l_toServer, fn_s_ServerTick, fn_i_ServerTick, fn_l_eqServer, fn_l_eqNoteS, fn_l_markServer, fn_l_markNoteS, fn_l_heldServer, fn_l_heldNoteS, trivial⟩)) Tryz.func4 (by kernel_rfl) (by kernel_rfl) (fun cx b hp hb => all_of (by kernel_rfl : loopsOf (Tryz.f4.body.getD .skip) = []) trivial b hb) (R := (Bool × Unit)) (T := fun (d : aden P_l_FnExactServerTick) => T_l_FnExactServerTick d.1 d.2.1) e_l_FnExactServerTick
end
end Go.Proofs.YtndbndcibmfgdaaGreat
